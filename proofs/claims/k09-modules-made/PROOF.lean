import PyProof.Rows.All
import Wide.All
import OpenK.AllK
import Wide.FinOn
import KE.KStateDown
import HandS.ForMost
import HandS.Defaults
import HandS.Property
import HandS.IsInst
import HandS.Star
import HandS.Evl
import HandS.Steps
import HandS.More
import HandS.Head0
import HandS.Head1
import HandS.Head2
import HandS.HeadEnd
import HandS.HeadHook1
import HandS.HeadHook2
import HandS.HeadHook3
import HandS.HeadHook4
import HandS.HeadNt
import KE.KCallOwn
import HandS.Text
import HandS.ExcInit
import HandS.ExcField
import HandS.ExcIs
import HandS.ExcSuper
import KE.KExcSuper
import KE.KSuper
import HandS.ExcOwn
import KE.KExcIs
import HandS.Style
import HandS.SortInts
import HandS.ClsMeth
import HandS.SetFor
import HandS.Deep
import HandS.TryMany
import HandS.Iter
import HandS.Strs
import HandS.SortRule
import KE.DatumOrd
import PyProof.Rows.StrMeet
import HandS.FStr
import HandS.DictComp
import HandS.RaiseMore
import PyProof.ReprLen
import PyProof.ReprRoads
import HandS.TupAny
import HandS.Small
import HandS.MakeKwOnly
import PySem.Challenge.RW_waitworks_k09_modules_made
set_option Elab.async false
set_option linter.all false
set_option maxRecDepth 100000
set_option maxHeartbeats 4000000
namespace WW
open PySem PySem.Spec PyProof.Rows L2
structure FnAt (P : Program) (w : World) (K : PySem.W.Frag) (mg : Str → Option Value) (base : Heap) (CX : CXT) (k : Nat) (x : Str) (ps : List Str) (sp : Sp) : Prop where
  ex : ∃ fd, FnOk P w K mg base CX k (He.ga K x) fd ps sp ∧ Binds K fd ps []
  kp : PySem.W.keepIn K (.ref (He.ga K x)) = true
  g : mg x = some (.ref (He.ga K x))
section
variable {X : Cx} {CX : CXT} {k j : Nat} {x : Str} {ps : List Str} {sp : Sp} {e : Expr} {es : List Expr} {t : TA} {p pos : Pos}
theorem pe_fn (F : FnAt X.prog X.w X.K X.mg X.base CX0 k x ps sp) (hr : Room j X.A) (hg : Gl X x) (ha : PA X (e :: es) t) (hk : k ≤ j := by decide)
    (hdb : (x == ("__debug__" : Str)) = false := by decide) (he : starEach (e :: es) X.env = (false, eval e X.env) :: starEach es X.env := by rfl) (hpl : (backTo pos (starEach es X.env)).any (·.1) = false := by rfl) :
    PE X (.Call (.Name x p) (e :: es) [] pos) (tCall sp [] E0 t) := by
  obtain ⟨fd, F1, b⟩ := F.ex
  exact pe_call F1 (hr.mono hk) hg F.g F.kp b .nil pass0 ha hdb he hpl
end
def Sq (K : PySem.W.Frag) (H : Hp) (a : Addr) (xs : List V) : Prop := SqL K H a xs ∨ SqT K H a xs
theorem Sq.ex {K : PySem.W.Frag} {H H' : Hp} {a : Addr} {xs : List V} (e : Same H H') (h : Sq K H a xs) : Sq K H' a xs := by
  rcases h with h | h
  · exact .inl (Evl.ex_l e h)
  · exact .inr (Evl.ex_t e h)
theorem Sq.l {K : PySem.W.Frag} {H : Hp} {a : Addr} {xs : List V} (h : H a = some (.lst xs)) : Sq K H a xs := .inl (Evl.sq_of h)
theorem Sq.t {K : PySem.W.Frag} {H : Hp} {a : Addr} {xs : List V} (h : H a = some (.tup xs)) : Sq K H a xs := .inr (Evl.st_of h)
def rIxQ (K : PySem.W.Frag) : R2 := fun x y H Q => ∃ p xs i v, x = .ref p ∧ y = .int i ∧ Sq K H p xs ∧ atI xs i = some v ∧ Q v H
section
variable {X : Cx}
theorem ix_sq : IxR X (rIxQ X.K) := by
  intro value slice pins s σ H x y v u Q I rx ry h hs
  obtain ⟨p, xs, i, z, ex, ey, hq | hq, he, q⟩ := h
  · exact ix_list value slice pins s σ H x y v u Q I rx ry ⟨p, xs, i, z, ex, ey, hq, he, q⟩ hs
  · exact ix_tup value slice pins s σ H x y v u Q I rx ry ⟨p, xs, i, z, ex, ey, hq, he, q⟩ hs
def iSeq (K : PySem.W.Frag) (tl : TE) : TI := fun σ H R => tl σ H fun x H1 => ∃ a, x = .ref a ∧ (((∃ xs, SqL K H1 a xs) ∧ R (Itl K a) H1) ∨ ((∃ xs, SqT K H1 a xs) ∧ R (Itt K a) H1))
theorem pi_seq {tg l : Expr} {tl : TE} (hl : PE X l tl) : PI X tg l (iSeq X.K tl) := by
  refine ⟨fun pins s0 σ H R I0 h0 => thn (hl.run pins s0 σ H _ I0 h0) fun v s ⟨x, Hx, I, rx, a, ex, qa⟩ => ?_⟩
  subst ex
  cases rx
  have sz : ∀ b ∈ [s.heap.objs.size], FpOk X pins Hx b := fun b hb => by
    rw [List.mem_singleton.mp hb]
    exact I.fpOk (Nat.le_refl _) (I.hok.fresh (Nat.le_refl _))
  rcases qa with ⟨⟨xs, hq⟩, qa⟩ | ⟨⟨xs, hq⟩, qa⟩
  · obtain ⟨its, _, pl, _⟩ := I.list hq
    exact wpAny_pyIter_list pl.isList ⟨_, [s.heap.objs.size], _, _, Hx, rfl, I.kept (t' := s.toks) fun b o eo => Heap.get?_push_of_some _ eo, turn_list a _, ⟨_, Heap.get?_push_size _ rfl, rfl, rfl⟩, sz, qa⟩
  · obtain ⟨its, _, pl, _⟩ := I.tuple hq
    exact wpAny_pyIter_tuple (show s.heap.IsTuple a its.toArray from pl) ⟨_, [s.heap.objs.size], _, _, Hx, rfl, I.kept (t' := s.toks) fun b o eo => Heap.get?_push_of_some _ eo, turn_tuple a _, ⟨_, Heap.get?_push_size _ rfl, rfl, rfl⟩, sz, qa⟩
end
theorem at_toNat {α : Type} {xs : List α} {d : Int} (h0 : 0 ≤ d) (h : d.toNat < xs.length) : atI xs d = some xs[d.toNat] := by
  have e : d = (d.toNat : Int) := by omega
  have q : atI xs (d.toNat : Int) = some xs[d.toNat] := atI_nat (List.getElem?_eq_getElem h)
  rw [← e] at q
  exact q
section
variable {prog : Program} {w : World} {A : Around} {E : Value → Shared → Prop} {s : Shared}
theorem tup_all {a c : Addr} {its : Array Value} {u1 u2 : Value} {lo hi : Option Int} {R : Value → Shared → Prop} (hT : IsTup s.heap a its) (hc : s.heap.IsSliceOf c u1 u2 .none) (p1 : IsPart u1 lo) (p2 : IsPart u2 hi)
    (hall : HT.sIx its.size 0 lo = 0 ∧ HT.sIx its.size its.size hi = its.size) (q : R (.ref a) s) : wpAny (model prog w) A (getItem (.ref a) (.ref c)) R E s := by
  obtain ⟨oc, e1, e2, e3⟩ := id hc
  have tc : s.TypeIs (.ref c) "slice" := ⟨oc, e1, e2⟩
  unfold getItem
  try with_reducible refine wpAny_holding ?_
  first | (refine wpAny_bind (wpAny_pure ?_)) | skip
  refine wpAny_bind (wpAny_sequenceKey hT.typeIs (by decide) ?_)
  refine wpAny_bind (wpAny_callSpecial?_slot (name := Str.ofString "__getitem__") hT.typeIs slot_tuple_getitem
    (wpAny_call_entry slot_tuple_getitem hT.typeIs PyProof.Rows.entry_tuple_getitem ?_ (PyProof.Rows.args_tuple_getitem _ _)))
  show wpAny _ _ (Builtin.Tuple.tupleItemsOf (.ref a) >>= _) _ _ s
  refine wpAny_bind (tupleItemsOf_ hT (wpAny_bind (wpAny_typeOf tc ?_)))
  rw [if_pos (by decide)]
  refine wpAny_bind (HT.sliceApplied_gen hc p1 p2 ?_)
  have hy : (((HT.sIx its.size 0 lo : Nat) : Int) == 0 && (1 : Int) == 1 && (HT.sIx its.size its.size hi - HT.sIx its.size 0 lo) == its.size) = true := by
    rw [hall.1, hall.2]
    simp
  show wpAny _ _ (if (((HT.sIx its.size 0 lo : Nat) : Int) == 0 && (1 : Int) == 1 && (HT.sIx its.size its.size hi - HT.sIx its.size 0 lo) == its.size) = true then _ else _) _ _ s
  rw [if_pos hy]
  unfold Builtin.Tuple.tupleIsExact
  refine wpAny_bind (wpAny_bind (wpAny_typeOf hT.typeIs (wpAny_pure ?_)))
  rw [if_pos (by decide)]
  refine wpAny_bind (wpAny_rule ?_)
  exact wpAny_pure ⟨_, rfl, wpAny_pure q⟩
end
def rSlW (K : PySem.W.Frag) : V → Option Int → Option Int → Hp → VK → Prop := fun x lo hi H Q => ∃ a xs, x = .ref a ∧ SqT K H a xs ∧
  (HT.sIx xs.length 0 lo = 0 ∧ HT.sIx xs.length xs.length hi = xs.length) ∧ Q (.ref a) H
def rSlQ (K : PySem.W.Frag) : V → Option Int → Option Int → Hp → VK → Prop := fun x lo hi H Q => rSlL K x lo hi H Q ∨ rSlT K x lo hi H Q ∨ rSlW K x lo hi H Q
def rLenQ (K : PySem.W.Frag) : List V → Hp → VK → Prop := fun xs H Q => ∃ p ys, xs = [.ref p] ∧ Sq K H p ys ∧ Q (.int ys.length) H
def rListQ (K : PySem.W.Frag) : List V → Hp → VK → Prop := fun xs H Q => ∃ p ys, xs = [.ref p] ∧ Sq K H p ys ∧ ∀ l, H l = none → Q (.ref l) (upd H l (.lst ys))
inductive rTupQ (K : PySem.W.Frag) (xs : List V) (H : Hp) (Q : VK) : Prop
  | mk (h : ∃ p ys, xs = [.ref p] ∧ ((SqL K H p ys ∧ ∀ l, H l = none → Q (.ref l) (upd H l (.tup ys))) ∨ (SqT K H p ys ∧ Q (.ref p) H))) : rTupQ K xs H Q
section
variable {X : Cx}
theorem sl_whole : SlR X (rSlW X.K) := by
  intro pins s σ H x v vl vu lo hi sl Q I rx hs pl pu h
  obtain ⟨a, xs, rfl, hx, hw, q⟩ := h
  cases rx
  obtain ⟨its, r, hT, hz⟩ := I.tuple hx
  have hn : its.toArray.size = xs.length := by rw [List.size_toArray]; exact r.length.symm
  refine ⟨"tuple", _, slot_tuple_getitem.lookup, hT.typeIs, ?_⟩
  exact tup_all hT hs pl pu (by rw [hn]; exact hw) ⟨.ref a, H, I, rfl, q⟩
variable (K : PySem.W.Frag)
theorem ix_sqK (h : X.K = K := by rfl) : IxR X (rIxQ K) := by
  subst h
  exact ix_sq
theorem sl_sqK (h : X.K = K := by rfl) : SlR X (rSlQ K) := by
  subst h
  exact sl_list.or (sl_tup.or sl_whole)
theorem pi_seqK {tg l : Expr} {tl : TE} (hl : PE X l tl) (h : X.K = K := by rfl) : PI X tg l (iSeq K tl) := by
  subst h
  exact pi_seq hl
theorem call_lenK (h : X.K = K := by rfl) : CallR X (.builtin "len") (rLenQ K) := by
  subst h
  exact call_len_seq
theorem call_listK (h : X.K = K := by rfl) : CallR X (.type "list") (rListQ K) := by
  subst h
  exact call_list_of
theorem call_tupleK (h : X.K = K := by rfl) : CallR X (.type "tuple") (rTupQ K) := by
  subst h
  intro pins s σ H xs us Q I r ⟨q⟩
  exact call_tuple_of pins s σ H xs us Q I r q
theorem call_isiK1 (h : X.K = K := by rfl) : CallR X (.builtin "isinstance") (rIsi K) := by
  subst h
  exact call_isi
theorem call_isiTK (h : X.K = K := by rfl) : CallR X (.builtin "isinstance") (rIsiT K) := by
  subst h
  exact call_isiT
theorem cr_allK (hc : X.calm = true := by rfl) (h : X.K = K := by rfl) : CallR X (.builtin "all") (rAll K) := by
  subst h
  exact cr_all hc
theorem pa_starK {e : Expr} {es : List Expr} {p : Pos} {te : TE} {t : TA} (he : PE X e te) (hr : PA X es t) (h : X.K = K := by rfl) (hs : starEach (.Starred e p :: es) X.env = (true, eval e X.env) :: starEach es X.env := by rfl) : PA X (.Starred e p :: es) (StX.tStar K te t) := by
  subst h
  exact StX.pa_star he hr hs
theorem pe_fldK {e : Expr} {f : Str} {pos : Pos} {ta : TE} (he : PE X e ta) (hb : attributeBase e f X.env (eval e X.env) = eval e X.env) (h : X.K = K := by rfl) : PE X (.Attribute e f pos) (tFld K ta f) := by
  subst h
  exact pe_fld he hb
end
theorem pg_tupK {X : Cx} (K : PySem.W.Frag) {es : List Expr} {k : Nat} {t : TGs} {n : Nat} {pos : Pos} (hc : X.calm = true) (h : PGs X es t)
    (hn : (assignEach es X.env).length = n := by rfl) (hst : (assignEach es X.env).findIdx? (·.1) = none := by rfl) (hK : X.K = K := by rfl) : PG X (.Tuple es k pos) (gTup K n t) := by
  subst hK
  exact pg_tup hc h hn hst
structure MkAt (P : Program) (w : World) (K : PySem.W.Frag) (mg : Str → Option Value) (base : Heap) (CX : CXT) (k : Nat) (x : Str) (ps : List Str) (sp : Sp) (dvs : List V) : Prop where
  ex : ∃ f fd ds, Mk K (He.ga K x) f ∧ FnOk P w K mg base CX k f fd ps sp ∧ Vals dvs ds ∧ Binds K fd ps ds
  g : mg x = some (.ref (He.ga K x))
structure MthAt (P : Program) (w : World) (K : PySem.W.Frag) (mg : Str → Option Value) (base : Heap) (CX : CXT) (k : Nat) (C : Addr) (m : Str) (ps : List Str) (sp : Sp) : Prop where
  ex : ∃ f fd, Meth K C m f ∧ FnOk P w K mg base CX k f fd ps sp ∧ Binds K fd ps []
structure PrpAt (P : Program) (w : World) (K : PySem.W.Frag) (mg : Str → Option Value) (base : Heap) (CX : CXT) (k : Nat) (C : Addr) (m : Str) (ps : List Str) (sp : Sp) : Prop where
  ex : ∃ pr f fd, PropOf K C m pr f ∧ FnOk P w K mg base CX k f fd ps sp ∧ Binds K fd ps []
section
variable {X : Cx} {CX : CXT} {k j : Nat} {C : Addr} {m : Str} {ps : List Str} {sp : Sp} {o e : Expr} {es : List Expr} {ta : TE} {t : TA} {apos pos : Pos}
theorem pe_mth {pl : Sem Bool} (c : Cls X.K C) (F : MthAt X.prog X.w X.K X.mg X.base CX0 k C m ps sp) (hr : Room j X.A) (ho : PE X o ta) (ha : PA X (e :: es) t) (hk : k ≤ j := by decide)
    (hst : starEach (e :: es) X.env = (false, eval e X.env) :: starEach es X.env := by rfl) (hpl : (backTo pos (starEach es X.env)).any (·.1) = false := by rfl)
    (ht : eval (.Call (.Attribute o m apos) (e :: es) [] pos) X.env = (do let ov ← eval o X.env; standAt apos.atName; let (f, first) ← holding [ov] (getMethod ov m pl); callWith pos f first (backTo pos (starEach (e :: es) X.env)) (backToKw pos (keywordEach [] X.env))) := by rfl) : PE X (.Call (.Attribute o m apos) (e :: es) [] pos) (tMeth C m sp [] E0 ta t) := by
  obtain ⟨f, fd, M, F1, b⟩ := F.ex
  exact pe_meth ho c M F1 (hr.mono hk) b .nil pass0 ha hst hpl ht
theorem pe_mth0 {pl : Sem Bool} (c : Cls X.K C) (F : MthAt X.prog X.w X.K X.mg X.base CX0 k C m ps sp) (hr : Room j X.A) (ho : PE X o ta) (hk : k ≤ j := by decide)
    (ht : eval (.Call (.Attribute o m apos) [] [] pos) X.env = (do let ov ← eval o X.env; standAt apos.atName; let (f, first) ← holding [ov] (getMethod ov m pl); callWith pos f first (backTo pos (starEach [] X.env)) (backToKw pos (keywordEach [] X.env))) := by rfl) : PE X (.Call (.Attribute o m apos) [] [] pos) (tMeth C m sp [] E0 ta tNil) := by
  obtain ⟨f, fd, M, F1, b⟩ := F.ex
  exact pe_meth0 ho c M F1 (hr.mono hk) b .nil pass0 ht
theorem op_eqDK (K : PySem.W.Frag) (hr : Room j X.A) (h : X.K = K := by rfl) : OpR X (compareOp .Eq) (rEqD K) := by
  subst h
  exact op_eqD (by have := hr.un; omega)
inductive rRepr (xs : List V) (H : Hp) (Q : VK) : Prop
  | int (i : Int) (h : xs = [.int i]) (hz : i.natAbs.log2 < 1920) (q : Q (.str (toString i)) H) : rRepr xs H Q
  | non (h : xs = [.non]) (q : Q (.str "None") H) : rRepr xs H Q
end
def bx (x y z : Int) : HO := .lst [.int x, .int y, .int z]
def Box (H : Hp) (b : Addr) : Prop := ∃ x y z : Int, H b = some (bx x y z)
def spTake : Sp := fun vs H Q _ => ∃ (b : Addr) (m : Int), vs = [.ref b, .int m] ∧ Box H b ∧ 0 < m ∧ m < 1073741824 ∧
  ∀ x y z d : Int, 0 ≤ d → d < m → Q (.int d) (upd H b (bx x y z))
def spPick (K : PySem.W.Frag) : Sp := fun vs H Q _ => ∃ (b l : Addr) (xs : List V), vs = [.ref b, .ref l] ∧ Box H b ∧ Sq K H l xs ∧ l ≠ b ∧ 0 < xs.length ∧ xs.length < 1000 ∧
  ∀ (x y z : Int) (v : V), v ∈ xs → Q v (upd H b (bx x y z))
theorem Sq.upd {K : PySem.W.Frag} {H : Hp} {a b : Addr} {o : HO} {xs : List V} (hn : a ≠ b) (h : Sq K H a xs) : Sq K (upd H b o) a xs := by
  rcases h with h | h
  · rcases h with h | h
    · refine .inl (.inl ?_)
      rcases h with h | ⟨u, h⟩
      · exact .inl ((upd_ne hn).trans h)
      · exact .inr ⟨u, (upd_ne hn).trans h⟩
    · exact .inl (.inr h)
  · rcases h with h | h
    · refine .inr (.inl ?_)
      rcases h with h | ⟨u, h⟩
      · exact .inl ((upd_ne hn).trans h)
      · exact .inr ⟨u, (upd_ne hn).trans h⟩
    · exact .inr (.inr h)
def isIntV : V → Bool
  | .int _ => true
  | _ => false
def HasT (K : PySem.W.Frag) (H : Hp) (x : V) (sq : Bool) : Prop := ∃ (t : Value) (b1 b2 : Bool), TyX K H x t ∧ PySem.W.kitOne K t (.type "int") = some b1 ∧ PySem.W.kitOne K t (.type "bool") = some b2 ∧ (b1 && !b2) = isIntV x ∧
  PySem.W.kitAny K t [.type "list", .type "tuple"] = some sq
section
variable {K : PySem.W.Frag} {H : Hp}
theorem hasT_non : HasT K H .non false := ⟨_, false, false, .base .non, kit_ty (by decide +kernel), kit_ty (by decide +kernel), rfl, by rw [kitAny_cons (kit_ty (b := "list") (r := false) (by decide +kernel)) (fun _ => kitAny_cons (kit_ty (b := "tuple") (r := false) (by decide +kernel)) (fun _ => rfl) (fun z => nomatch z)) (fun z => nomatch z)]⟩
theorem hasT_bl (b : Bool) : HasT K H (.bl b) false := ⟨_, true, true, .base (.bl b), kit_ty (by decide +kernel), kit_ty (by decide +kernel), rfl, by rw [kitAny_cons (kit_ty (b := "list") (r := false) (by decide +kernel)) (fun _ => kitAny_cons (kit_ty (b := "tuple") (r := false) (by decide +kernel)) (fun _ => rfl) (fun z => nomatch z)) (fun z => nomatch z)]⟩
theorem hasT_int (i : Int) : HasT K H (.int i) false := ⟨_, true, false, .base (.int i), kit_ty (by decide +kernel), kit_ty (by decide +kernel), rfl, by rw [kitAny_cons (kit_ty (b := "list") (r := false) (by decide +kernel)) (fun _ => kitAny_cons (kit_ty (b := "tuple") (r := false) (by decide +kernel)) (fun _ => rfl) (fun z => nomatch z)) (fun z => nomatch z)]⟩
theorem hasT_str (z : Str) : HasT K H (.str z) false := ⟨_, false, false, .base (.str z), kit_ty (by decide +kernel), kit_ty (by decide +kernel), rfl, by rw [kitAny_cons (kit_ty (b := "list") (r := false) (by decide +kernel)) (fun _ => kitAny_cons (kit_ty (b := "tuple") (r := false) (by decide +kernel)) (fun _ => rfl) (fun z => nomatch z)) (fun z => nomatch z)]⟩
theorem hasT_l {x : V} (h : TyX K H x (.type "list")) (hx : isIntV x = false) : HasT K H x true := ⟨_, false, false, h, kit_ty (by decide +kernel), kit_ty (by decide +kernel), hx.symm, by rw [kitAny_cons (kit_ty (b := "list") (r := true) (by decide +kernel)) (fun z => nomatch z) (fun z => rfl)]⟩
theorem hasT_t {x : V} (h : TyX K H x (.type "tuple")) (hx : isIntV x = false) : HasT K H x true := ⟨_, false, false, h, kit_ty (by decide +kernel), kit_ty (by decide +kernel), hx.symm, by rw [kitAny_cons (kit_ty (b := "list") (r := false) (by decide +kernel)) (fun _ => kitAny_cons (kit_ty (b := "tuple") (r := true) (by decide +kernel)) (fun z => nomatch z) (fun z => rfl)) (fun z => nomatch z)]⟩
theorem Sq.hasT {a : Addr} {xs : List V} (h : Sq K H a xs) : HasT K H (.ref a) true := by
  rcases h with h | h
  · refine hasT_l ?_ rfl
    rcases h with (h | ⟨o, h⟩) | ⟨o, its, n, h1, h2, _⟩
    · exact .base (.lst h)
    · exact .base (.frz h)
    · exact .kList h1 h2
  · refine hasT_t ?_ rfl
    rcases h with (h | ⟨o, h⟩) | ⟨o, its, n, h1, h2, _⟩
    · exact .base (.tup h)
    · exact .fTuple h
    · exact .kTuple h1 h2
end
theorem tyx_same {K : PySem.W.Frag} {H H' : Hp} {x : V} {t : Value} (e : Same H H') (h : TyX K H x t) : TyX K H' x t := by
  cases h with
  | base b =>
    cases b with
    | non => exact .base .non
    | bl y => exact .base (.bl y)
    | int i => exact .base (.int i)
    | str y => exact .base (.str y)
    | flt y => exact .base (.flt y)
    | lst ea => exact .base (.lst (e _ _ ea))
    | frz ea => exact .base (.frz (e _ _ ea))
    | tup ea => exact .base (.tup (e _ _ ea))
    | dK ea => exact .base (.dK (e _ _ ea))
    | dT ea => exact .base (.dT (e _ _ ea))
    | ins ea cl ha hn htk hm => exact .base (.ins (e _ _ ea) cl ha hn htk hm)
  | byt y => exact .byt y
  | set ea => exact .set (e _ _ ea)
  | kList a c => exact .kList a c
  | kTuple a c => exact .kTuple a c
  | kDict a c => exact .kDict a c
  | fTuple ea => exact .fTuple (e _ _ ea)
  | fDict ea => exact .fDict (e _ _ ea)
theorem HasT.ex {K : PySem.W.Frag} {H H' : Hp} {x : V} {sq : Bool} (e : Same H H') (h : HasT K H x sq) : HasT K H' x sq := by
  obtain ⟨t, b1, b2, ty, r⟩ := h
  exact ⟨t, b1, b2, tyx_same e ty, r⟩
theorem same_new {H : Hp} {p : Addr} {o : HO} (h : H p = none) : Same H (upd H p o) := fun _ _ ha => (upd_ne (ne_of_none ha h)).trans ha
section
def SaysW (fa : List He.Fa) (fn : List He5.DefA) (ex : PySem.W.Frag → Bool) (K : PySem.W.Frag) : Prop := He5.SaysA fa fn K ∧ ex K = true
end
section
variable {X : Cx} {o e : Expr} {es : List Expr} {to : TE} {t : TA} {name : Str} {apos cpos : Pos} {T id : String} {r : V → List V → Hp → VK → Prop}
theorem pe_bmK (K : PySem.W.Frag) (pa : PlainAttrs T) (slot : Slot T name id) (hty : typeOf (.builtin id) = pure (.type "method_descriptor")) (hm : MtR X id r) (ho : PE X o to) (ha : PA X (e :: es) t)
    (hbase : attributeBase o name X.env (eval o X.env) = eval o X.env := by rfl)
    (hfew : ((backTo cpos (starEach (e :: es) X.env)).all (fun x => !x.1) && (backToKw cpos (keywordEach [] X.env)).all (fun x => x.1.isSome)
      && decide ((e :: es).length + ([] : List Keyword).length + (if ([] : List Keyword).isEmpty then 0 else 1) < 30)) = true := by rfl)
    (hline : (apos.endLine == cpos.line) = true := by rfl) (hs : starEach (e :: es) X.env = (false, eval e X.env) :: starEach es X.env := by rfl) (hplain : (backTo cpos (starEach es X.env)).any (·.1) = false := by rfl) (hK : X.K = K := by rfl) :
    PE X (.Call (.Attribute o name apos) (e :: es) [] cpos) (tBM K T r to t) := by
  subst hK
  exact pe_bm pa slot hty hm ho ha hbase hfew hline hs hplain
end
end WW
set_option Elab.async false
set_option linter.all false
set_option maxRecDepth 100000
set_option maxHeartbeats 4000000
namespace WW
open PySem PySem.Spec PyProof.Rows L2
section
variable {X : Cx} {CX : CXT} {k : Nat} {C f : Addr} {fd : FuncData} {ps : List Str} {sp : Sp}
theorem run2 {A : Around} {pins : List (Addr × Obj)} {σ : L2.St} {H : Hp} {s : Shared} {Q : VK} {x y : V} {u v : Value} (F : FnOk X.prog X.w X.K X.mg X.base CX0 k f fd ps sp) (hA : Room k A) (hf : A.frames = X.A.frames) (b : Binds X.K fd ps [])
    (I : Inv X pins σ H s) (rx : RelV x u) (ry : RelV y v) (h : sp [x, y] H Q E0) : wpAny (model X.prog X.w) A (call (.ref f) [u, v]) (EP X pins σ Q) X.xe s := by
  have i0 := I.env0
  have i1 : Env0 X.prog X.w X.K X.mg X.base A X.stack s H := ⟨hf.trans i0.frames, i0.mod, i0.bs, i0.bsz, i0.funs, i0.frf, i0.hok, i0.bare⟩
  have n2 : [u, v].length = ps.length := (show [u, v].length = [x, y].length from rfl).trans (F.len _ _ _ _ h)
  have bt : BindsTo s fd ⟨[u, v], []⟩ (ps.zip [u, v]) := by
    have z := b s [u, v] I.kIn (by rw [List.append_nil]; exact n2)
    rw [List.append_nil] at z
    exact z
  refine wpAny_call (codeAny_mono (F.run A X.stack s H ⟨[u, v], []⟩ [u, v] [x, y] Q E0 hA i1 bt (.cons rx (.cons ry .nil)) h) fun r s' hq => ?_)
  cases r with
  | error e => exact (pass0 (X := X) pins σ H s e s' I hq)
  | ok fl =>
    cases fl with
    | ret z => exact I.after hq
    | next => exact hq.elim
    | brk => exact hq.elim
    | cont => exact hq.elim
structure EqC (K : PySem.W.Frag) (C f : Addr) : Prop where
  eq : PySem.W.findIn K (.ref C) "__eq__" = some (some (.ref f))
  fn : PySem.W.isFn K (.ref f) = true
  ne : PySem.W.findIn K (.ref C) "__ne__" = some (some (.builtin "object.__ne__"))
  ob : PySem.W.mroIn K C (.type "object") = some true
structure EqAtC (P : Program) (w : World) (K : PySem.W.Frag) (mg : Str → Option Value) (base : Heap) (CX : CXT) (k : Nat) (C : Addr) (ps : List Str) (sp : Sp) : Prop where
  ex : ∃ f fd, EqC K C f ∧ FnOk P w K mg base CX k f fd ps sp ∧ Binds K fd ps []
inductive rOwn (K : PySem.W.Frag) (C : Addr) (sp : Sp) (neg : Bool) (x y : V) (H : Hp) (Q : VK) : Prop
  | mk (a dx : Addr) (fs : List (Str × V)) (t : Value) (e : x = .ref a) (ha : H a = some (.ins C dx fs)) (ht : TyX K H y t) (hn : PySem.W.notFirst K C t = true) (h : sp [x, y] H (fun v H' => ∃ b, v = .bl b ∧ Q (.bl (if neg then !b else b)) H') E0) : rOwn K C sp neg x y H Q
theorem op_eqO (K : PySem.W.Frag) {j : Nat} (F : EqAtC X.prog X.w X.K X.mg X.base CX0 k C ps sp) (hr : Room j X.A) (hk : k ≤ j := by decide) (hK : X.K = K := by rfl) : OpR X (compareOp .Eq) (rOwn K C sp false) := by
  subst hK
  obtain ⟨f, fd, ec, FN, b⟩ := F.ex
  intro pins s σ H x y u v Q I rx ry h
  cases h with
  | mk a dx fs t e ha ht hn h =>
    subst e
    cases rx
    obtain ⟨mA, O, _⟩ := ins_get I.hok ha
    obtain ⟨od, J, _⟩ := O.look
    obtain ⟨Pk, Z, pz, _⟩ := kit_of I ry ht
    obtain ⟨m, hF⟩ := I.fr
    unfold compareOp
    refine PySem.W.cmp_K (op := .Eq) (tb := t) (by have := hr.un; omega) hF I.ok.mod.kin J (Z.ty _ _ I.kIn pz) hn ec.eq ec.fn (wpAny_mono (run2 (x := .ref a) FN (hr.mono hk) rfl b I rfl ry h) (fun z s' hz => ?_) fun _ _ e => e)
    obtain ⟨w1, H1, I1, r1, b1, rfl, q1⟩ := hz
    cases r1
    exact ⟨.bl b1, H1, I1, rfl, q1⟩
theorem ne_bound {M : Model} {A : Around} {E : Value → Shared → Prop} {s : Shared} {K : PySem.W.Frag} {x : Addr} {ox : Obj} {od : Option Obj} {rest : List Value} {R : Option Value → Shared → Prop} (hK : K.In s.heap) (J : PySem.W.InstAt s.heap x ox C od) (hc : PySem.W.findIn K (.ref C) "__ne__" = some (some (.builtin "object.__ne__")))
    (q : wpAny M A (call (.builtin "object.__ne__") (.ref x :: rest)) (fun v => R (some v)) E s) : wpAny M A (callSpecialIfBound? (.ref x) "__ne__" rest) R E s := by
  simp only [callSpecialIfBound?, bindSpecialIfBound?]
  refine wpAny_holding (wpAny_bind (wpAny_bind (wpAny_bind (J.type.here ((PySem.W.looks_findIn hK hc).here (wpAny_bind (wpAny_askSetting (wpAny_ite ?_))))))))
  have last : wpAny M A (call (.builtin "object.__ne__") ([.ref x] ++ rest) >>= fun v => pure (some v)) R E s := wpAny_bind (wpAny_mono q (fun v s' hv => wpAny_pure hv) fun _ _ z => z)
  split
  · exact wpAny_bind (wpAny_of_eq (F.cmp_object.ne.bind _) (wpAny_pure (by exact last)))
  · exact wpAny_tryCatch (wpAny_bind (wpAny_of_eq (F.cmp_object.ne.bind _) (wpAny_pure (by exact last))))
theorem ne_entry {prog : Program} {w : World} {A : Around} {E : Value → Shared → Prop} {s : Shared} {K : PySem.W.Frag} {x : Addr} {v : Value} {ox : Obj} {od : Option Obj} {R : Fin → Shared → Prop} (hu : A.units < cLine) (hK : K.In s.heap) (J : PySem.W.InstAt s.heap x ox C od) (ec : EqC K C f)
    (q : wpAny (model prog w) A (call (.ref f) [.ref x, v]) (fun r s' => ∃ b, r = .bool b ∧ R (.done (.ret (.bool (!b)))) s') E s) : wpAny (model prog w) A (Builtin.«object.__ne__» ⟨[.ref x, v], []⟩) R E s := by
  unfold Builtin.«object.__ne__»
  repeat (first
    | with_reducible refine wpAny_cRoomFor hu ?_
    | (refine wpAny_bind (m := callSpecialIfBound? (.ref x) (Str.ofString "__eq__") [v]) (PySem.W.ifBound_K hK J ec.eq ec.fn (wpAny_mono q (fun r s' hr => by
          obtain ⟨b, rfl, hq⟩ := hr
          repeat (first | exact hq | exact wpAny_pure hq | exact wpAny_truthy_bool hq | (refine wpAny_bind (m := truthy (.bool _)) (wpAny_truthy_bool ?_)) | wp_step)) fun _ _ e => e)))
    | wp_step)
theorem op_neO (K : PySem.W.Frag) {j : Nat} (F : EqAtC X.prog X.w X.K X.mg X.base CX0 k C ps sp) (hr : Room j X.A) (hk : k + 1 ≤ j := by decide) (hK : X.K = K := by rfl) : OpR X (compareOp .NotEq) (rOwn K C sp true) := by
  subst hK
  obtain ⟨f, fd, ec, FN, b⟩ := F.ex
  intro pins s σ H x y u v Q I rx ry h
  cases h with
  | mk a dx fs t e ha ht hn h =>
    subst e
    cases rx
    obtain ⟨mA, O, _⟩ := ins_get I.hok ha
    obtain ⟨od, J, _⟩ := O.look
    obtain ⟨Pk, Z, pz, _⟩ := kit_of I ry ht
    have hu : X.A.units + 1 < cLine := by have := hr.un; omega
    have go : wpAny (model X.prog X.w) X.A (tryCompare (.ref a) "__ne__" v) (fun r s' => ∃ b1, r = some (.bool (!b1)) ∧ EP X pins σ Q (.bool (!b1)) s') X.xe s := by
      unfold tryCompare
      refine wpAny_bind (ne_bound I.kIn J ec.ne (wpAny_call (codeAny_call_builtin PySem.F.cmp_object.ne.plain PySem.F.cmpEntry_ne (PySem.W.check_slot PySem.F.cmpKind_ne PySem.F.cmpSplit_ne (J.type.andThen (PySem.W.looks_mroIn I.kIn ec.ob)) (PySem.F.cmpArgs_ne _ _)
        (ne_entry (A := X.A.in1) hu I.kIn J ec (wpAny_mono (run2 (x := .ref a) FN (hr.mono hk).in1 rfl b I rfl ry h) (fun z s' hz => ?_) fun _ _ e => e))))))
      obtain ⟨w1, H1, I1, r1, b1, rfl, q1⟩ := hz
      cases r1
      exact ⟨b1, rfl, wpAny_pure ⟨b1, rfl, .bl (!b1), H1, I1, rfl, q1⟩⟩
    unfold compareOp richCompare
    simp only [oneThing_ref]
    refine wpAny_holding (wpAny_bind (wpAny_cRoomFor (by omega) ?_))
    refine wpAny_bind (J.type.here (wpAny_bind ((Z.ty _ _ I.kIn pz).here ?_)))
    split
    · rename_i c0
      have sf : PySem.W.subIn X.K t (.ref C) = some false := by
        rcases Bool.or_eq_true_iff.mp hn with e | e
        · rw [beq_iff_eq.mp e] at c0
          simp at c0
        · exact beq_iff_eq.mp e
      refine wpAny_bind ((PySem.W.looks_subIn I.kIn sf).here ?_)
      simp only [Bool.false_eq_true, if_false]
      refine wpAny_bind (wpAny_mono go (fun r s1 z => ?_) fun _ _ e => e)
      obtain ⟨b1, rfl, h1⟩ := z
      exact wpAny_pure h1
    · refine wpAny_bind (wpAny_pure ?_)
      simp only [Bool.false_eq_true, if_false]
      refine wpAny_bind (wpAny_mono go (fun r s1 z => ?_) fun _ _ e => e)
      obtain ⟨b1, rfl, h1⟩ := z
      exact wpAny_pure h1
end
end WW
set_option Elab.async false
set_option linter.all false
set_option maxRecDepth 100000
set_option maxHeartbeats 4000000
namespace WW
open PySem PySem.Spec PyProof.Rows L2
section
variable {X : Cx} {CX : CXT} {k : Nat} {C f : Addr} {fd : FuncData} {ps : List Str} {sp : Sp}
theorem run1 {A : Around} {pins : List (Addr × Obj)} {σ : L2.St} {H : Hp} {s : Shared} {Q : VK} {x : V} {u : Value} (F : FnOk X.prog X.w X.K X.mg X.base CX0 k f fd ps sp) (hA : Room k A) (hf : A.frames = X.A.frames) (b : Binds X.K fd ps [])
    (I : Inv X pins σ H s) (rx : RelV x u) (h : sp [x] H Q E0) : wpAny (model X.prog X.w) A (call (.ref f) [u]) (EP X pins σ Q) X.xe s := by
  have i0 := I.env0
  have i1 : Env0 X.prog X.w X.K X.mg X.base A X.stack s H := ⟨hf.trans i0.frames, i0.mod, i0.bs, i0.bsz, i0.funs, i0.frf, i0.hok, i0.bare⟩
  have n2 : [u].length = ps.length := (show [u].length = [x].length from rfl).trans (F.len _ _ _ _ h)
  have bt : BindsTo s fd ⟨[u], []⟩ (ps.zip [u]) := by
    have z := b s [u] I.kIn (by rw [List.append_nil]; exact n2)
    rw [List.append_nil] at z
    exact z
  refine wpAny_call (codeAny_mono (F.run A X.stack s H ⟨[u], []⟩ [u] [x] Q E0 hA i1 bt (.cons rx .nil) h) fun r s' hq => ?_)
  cases r with
  | error e => exact (pass0 (X := X) pins σ H s e s' I hq)
  | ok fl =>
    cases fl with
    | ret z => exact I.after hq
    | next => exact hq.elim
    | brk => exact hq.elim
    | cont => exact hq.elim
structure StrAtC (P : Program) (w : World) (K : PySem.W.Frag) (mg : Str → Option Value) (base : Heap) (CX : CXT) (k : Nat) (C : Addr) (ps : List Str) (sp : Sp) : Prop where
  ex : ∃ f fd, PySem.W.findIn K (.ref C) "__str__" = some (some (.ref f)) ∧ PySem.W.isFn K (.ref f) = true ∧ FnOk P w K mg base CX k f fd ps sp ∧ Binds K fd ps []
inductive rStrO (C : Addr) (sp : Sp) (xs : List V) (H : Hp) (Q : VK) : Prop
  | mk (a dx : Addr) (fs : List (Str × V)) (e : xs = [.ref a]) (ha : H a = some (.ins C dx fs)) (h : sp [.ref a] H (fun v H' => ∃ z, v = .str z ∧ Q (.str z) H') E0) : rStrO C sp xs H Q
theorem call_strO {j : Nat} (F : StrAtC X.prog X.w X.K X.mg X.base CX0 k C ps sp) (hr : Room j X.A) (hk : k + 2 ≤ j := by decide) : CallR X (.type "str") (rStrO C sp) := by
  obtain ⟨f, fd, e1, e2, FN, b⟩ := F.ex
  intro pins s σ H xs us Q I r h
  cases h with
  | mk a dx fs e ha h =>
    subst e
    obtain ⟨u, rfl, ru⟩ := vals1 r
    cases ru
    obtain ⟨mA, O, _⟩ := ins_get I.hok ha
    obtain ⟨od, J, _⟩ := O.look
    have r2 := (hr.mono hk).in1.in1
    refine PySem.W.kso_call (by have := r2.un; omega) I.kIn J e1 e2 (wpAny_mono (run1 (x := .ref a) FN r2 rfl b I rfl h) (fun z s' hz => ?_) fun _ _ e => e)
    obtain ⟨w1, H1, I1, r1, z1, rfl, q1⟩ := hz
    obtain ⟨t, rfl⟩ := r1
    exact ⟨.str z1, H1, I1, ⟨t, rfl⟩, q1⟩
end
inductive rJoin (K : PySem.W.Frag) (x : V) (xs : List V) (H : Hp) (Q : VK) : Prop
  | mk (a : Str) (p : Addr) (ys : List Str) (e : x = .str a) (e2 : xs = [.ref p]) (h : Sq K H p (ys.map V.str)) (hz : (ys.map (·.length)).sum + ys.length * a.length ≤ 16777216) (q : Q (.str (Txt.join a ys)) H) : rJoin K x xs H Q
theorem mt_joinK {X : Cx} (K : PySem.W.Frag) (h : X.K = K := by rfl) : MtR X "str.join" (rJoin K) := by
  subst h
  intro pins s σ H x xs v us Q I rx rs h
  cases h with
  | mk a p ys e e2 h hz q => exact mt_join pins s σ H x xs v us Q I rx rs ⟨a, p, ys, e, e2, h, hz, q⟩
theorem pe_joinK {X : Cx} (K : PySem.W.Frag) {o e : Expr} {to te : TE} {apos pos : Pos} (ho : PE X o to) (he : PE X e te) (hK : X.K = K := by rfl) (hs : starEach [e] X.env = [(false, eval e X.env)] := by rfl) (hbase : attributeBase o "join" X.env (eval o X.env) = eval o X.env := by rfl) (hline : (apos.endLine == pos.line) = true := by rfl) :
    PE X (.Call (.Attribute o "join" apos) [e] [] pos) (tM1 (rJoin K) to te) :=
  pe_m1 F.slot_str_join F.type_str_join (mt_joinK K hK) ho he hs hbase hline
structure TyC (K : PySem.W.Frag) (C : Addr) : Prop where
  cl : PySem.W.findIn K (.ref C) "__class__" = some (some (.builtin "object.__class__"))
  ge : PySem.W.specialIn K (.builtin "object.__class__") "__get__" = some (some (.builtin "getset_descriptor.__get__"))
  tk : PySem.W.takesIn K (.builtin "object.__class__") = some true
  ob : PySem.W.mroIn K C (.type "object") = some true
  own : PySem.W.kitOne K (.ref C) (.ref C) = some true
def tyB (K : PySem.W.Frag) (C : Addr) : Bool :=
  He.eqO (PySem.W.findIn K (.ref C) "__class__") (some (some (.builtin "object.__class__"))) && (He.eqO (PySem.W.specialIn K (.builtin "object.__class__") "__get__") (some (some (.builtin "getset_descriptor.__get__"))) && (decide (PySem.W.takesIn K (.builtin "object.__class__") = some true) &&
    (decide (PySem.W.mroIn K C (.type "object") = some true) && decide (PySem.W.kitOne K (.ref C) (.ref C) = some true))))
theorem tyB_ok {K : PySem.W.Frag} {C : Addr} (h : tyB K C = true) : TyC K C := by
  obtain ⟨h1, h⟩ := He.ba h
  obtain ⟨h2, h⟩ := He.ba h
  obtain ⟨h3, h⟩ := He.ba h
  obtain ⟨h4, h5⟩ := He.ba h
  exact ⟨He.eqO_ok h1, He.eqO_ok h2, of_decide_eq_true h3, of_decide_eq_true h4, of_decide_eq_true h5⟩
structure Apart (K : PySem.W.Frag) (C : Addr) (t : String) : Prop where
  no : PySem.W.kitOne K (.type t) (.ref C) = some false
  nf : PySem.W.notFirst K C (.type t) = true
def eqB (K : PySem.W.Frag) (C : Addr) : Bool :=
  He.eqO (PySem.W.findIn K (.ref C) "__eq__") (some (some (.ref (He.ma K C "__eq__")))) && (PySem.W.isFn K (.ref (He.ma K C "__eq__")) && (He.eqO (PySem.W.findIn K (.ref C) "__ne__") (some (some (.builtin "object.__ne__"))) && decide (PySem.W.mroIn K C (.type "object") = some true)))
theorem eqB_ok {K : PySem.W.Frag} {C : Addr} (h : eqB K C = true) : EqC K C (He.ma K C "__eq__") := by
  obtain ⟨h1, h⟩ := He.ba h
  obtain ⟨h2, h⟩ := He.ba h
  obtain ⟨h3, h4⟩ := He.ba h
  exact ⟨He.eqO_ok h1, h2, He.eqO_ok h3, of_decide_eq_true h4⟩
def strB (K : PySem.W.Frag) (C : Addr) : Bool := He.eqO (PySem.W.findIn K (.ref C) "__str__") (some (some (.ref (He.ma K C "__str__")))) && PySem.W.isFn K (.ref (He.ma K C "__str__"))
theorem notFirst_self {K : PySem.W.Frag} {C : Addr} : PySem.W.notFirst K C (.ref C) = true := by
  unfold PySem.W.notFirst
  simp
def dT : V → PyData
  | .int i => .int i
  | _ => .none
end WW
set_option Elab.async false
set_option linter.all false
set_option maxRecDepth 100000
set_option maxHeartbeats 4000000
namespace WW
open PySem PySem.Spec PyProof.Rows L2
def supBody (p0 p1 p2 p3 p4 p5 p6 p7 p8 p9 : Pos) (j : Nat) (txt fld px : Str) : List Stmt :=
  [.Expr (.Call (.Attribute (.Call (.Name "super" p0) [] [] p1) "__init__" p2) [.Constant (.str txt) j p9] [] p3) p4, .Assign [.Attribute (.Name "self" p5) fld p6] (.Name px p7) p8]
structure SupScope (scope : Scope) (params : Arguments) (px : Str) : Prop where
  ks : scope.names.lookup ("super" : Str) = some .globalImplicit
  kc : scope.names.lookup ("__class__" : Str) = some .free
  kself : scope.names.lookup ("self" : Str) = some .local
  kx : scope.names.lookup px = some .local
  kind : scope.kind = .function
  co : scope.isCoroutine = false
  gen : scope.isGenerator = false
  nocell : ∀ x ∈ scope.names, x.2 ≠ .cell
  hd : ∃ ar, (params.posonlyargs ++ params.args).head? = some ar ∧ ar.arg = ("self" : Str)
  ne : px ≠ ("self" : Str)
  dbg : (px == ("__debug__" : Str)) = false
structure SupC (P : Program) (K : PySem.W.Frag) (C fI : Addr) (qual : Str) (params : Arguments) (body : List Stmt) (scope : Scope) : Prop where
  oex : OexC K C
  ini : PySem.W.findIn K (.ref C) "__init__" = some (some (.ref fI))
  tyI : PySem.W.typeIn K (.ref fI) = some (.type "function")
  fn : ∃ (nm : Str) (oc : Value) (od : Option Addr) (kV doc pm : Value) (an : Option Addr) (cda cc : Addr) (ct : Value) (osl : Array (Option Value)) (ccl : Value) (cdd : Option Addr) (vs : Array Value) (ccs : Array (Option Value)) (file : Str) (tf : Tok) (cl : Value) (cld : Option Addr) (csl : Array (Option Value)),
    K.lookup fI = some ⟨oc, od, .func (PySem.W.ksFn nm qual params body scope .none kV doc pm an (.ref cda) ct cc), osl⟩ ∧ PySem.W.codeIn K (.ref cda) qual = true ∧ K.lookup cda = some ⟨ccl, cdd, .fields vs, ccs⟩ ∧ vs[2]? = some (.str file tf) ∧ ((P.main.file : Str) == file) = true ∧ K.lookup cc = some ⟨cl, cld, .cell (some (.ref C)), csl⟩
  sup : PySem.W.ks_superIn K C C "__init__" = some (some (.builtin "ValueError.__init__"))
  sub : PySem.W.mroIn K C (.ref C) = some true
  ve : PySem.W.subIn K (.ref C) (.type "ValueError") = some true
  opq : PySem.W.nsIn K cStatics "thirdparty.any" = some none
  top : (P.main.scope.names.lookup ("super" : Str)).isSome = false
theorem sup_codeG {prog : Program} {w : World} {A : Around} {K : PySem.W.Frag} {mg : Str → Option Value} {base hp : Heap} {g : Array GenState} {d : PySem.Drawn} {t : Nat} {os : OsState} {C fI a t0 : Addr} {qual : Str} {params : Arguments} {scope : Scope} {u : Value} {R : Result → Shared → Prop}
    {p0 p1 p2 p3 p4 p5 p6 p7 p8 p9 : Pos} {j : Nat} {txt fld px : Str}
    (SC : SupC prog K C fI qual params (supBody p0 p1 p2 p3 p4 p5 p6 p7 p8 p9 j txt fld px) scope) (SS : SupScope scope params px) (M0 : Mod K mg base) (kb : ∀ b o, base.get? b = some o → hp.get? b = some o) (hab : base.get? a = none) (hsup : mg "super" = none)
    (hroom : A.depth < recursionLimit) (hno : PySem.W.findIn K (.ref C) fld = some none) {pl : Env → Sem Bool}
    (hev : ∀ env : Env, eval (.Call (.Attribute (.Call (.Name "super" p0) [] [] p1) "__init__" p2) [.Constant (.str txt) j p9] [] p3) env = (do
      let ov ← attributeBase (.Call (.Name "super" p0) [] [] p1) "__init__" env (eval (.Call (.Name "super" p0) [] [] p1) env)
      standAt p2.atName
      let (f, first) ← holding [ov] (getMethod ov "__init__" (pl env))
      callWith p3 f first (backTo p3 (starEach [.Constant (.str txt) j p9] env)) []))
    {args : Args} (hbind : ∀ (nm : Str) (kV doc pm : Value) (an : Option Addr) (cdv ct : Value) (cc : Addr), bindArgs (PySem.W.ksFn nm qual params (supBody p0 p1 p2 p3 p4 p5 p6 p7 p8 p9 j txt fld px) scope .none kV doc pm an cdv ct cc) args = pure [(("self" : Str), .ref a), (px, u)])
    (hx : hp.get? a = some (PySem.HandSPX.excO C t0))
    (hq : ∀ h' tk' dx t1, (∀ b o, b ≠ a → hp.get? b = some o → h'.get? b = some o) → hp.objs.size ≤ dx → dx ≠ a → h'.get? a = some ({ cls := .ref C, dict := some dx, data := .fields #[.ref t1, .none, .none, .none, .bool false, .none] } : Obj) →
      h'.Ns1 dx (fun y => if y = fld then some u else none) → R (.ok (.ret .none)) ⟨h', g, d, tk', os⟩) :
    codeAny (model prog w) A (.call (.ref fI) args) R ⟨hp, g, d, t, os⟩ := by
  obtain ⟨nm, oc, od, kV, doc, pm, an, cda, cc, ct, osl, ccl, cdd, vs, ccs, file, tf, cl, cld, csl, hf, hcd, hcode, hvs, hfile, hcell⟩ := SC.fn
  have X : K.In hp := M0.kin.keeps kb
  have bt : BindsTo ⟨hp, g, d, t, os⟩ (PySem.W.ksFn nm qual params (supBody p0 p1 p2 p3 p4 p5 p6 p7 p8 p9 j txt fld px) scope .none kV doc pm an (.ref cda) ct cc) args [(("self" : Str), .ref a), (px, u)] := by
    intro M A Q E hQ
    rw [hbind]
    exact wpAny_pure hQ
  refine PySem.ks_codeAny_call_defAt hroom (X _ _ hf) rfl (M0.nolimit.keeps kb) (PySem.W.codeRec_of X hcd) rfl bt SS.nocell ?_ (fun h₀ hns k0 => ?_) SS.co SS.gen SS.kind
  · intro x hx
    simp only [List.mem_cons, List.not_mem_nil, or_false] at hx
    rcases hx with rfl | rfl
    · exact SS.kself
    · exact SS.kx
  have X0 : K.In h₀ := X.keeps k0
  have hx0 : h₀.get? a = some (PySem.HandSPX.excO C t0) := k0 _ _ hx
  obtain ⟨ar, har, hself⟩ := SS.hd
  obtain ⟨mb, hb1, hb2⟩ := M0.blt
  obtain ⟨nm', q', N', bs', bm', sn', sub', ab', col', dd', e0, e1, e2, e3, e5, hC, hbm⟩ := SC.oex.cls
  have hcl : PySem.W.clsIn K C = some { name := nm', bases := bs', mro := .ref C :: bm', ns := N', qualname := q', hasDict := true, slotNames := sn', subclasses := sub', abstract := ab', collection := col', hasDel := false } := by unfold PySem.W.clsIn; rw [hC] <;> rfl
  have kbh : ∀ b o, base.get? b = some o → h₀.get? b = some o := fun b o e => k0 b o (kb b o e)
  have v1 : (fun x => [(("self" : Str), Value.ref a), (px, u)].reverse.lookup x) ("self" : Str) = some (.ref a) := by
    show ([(px, u), (("self" : Str), Value.ref a)] : List (Str × Value)).lookup ("self" : Str) = _
    have n : ((("self" : Str) == px) = false) := by
      rw [beq_eq_false_iff_ne]
      exact Ne.symm SS.ne
    simp [List.lookup, n]
  have v2 : (fun x => [(("self" : Str), Value.ref a), (px, u)].reverse.lookup x) px = some u := by
    show ([(px, u), (("self" : Str), Value.ref a)] : List (Str × Value)).lookup px = _
    simp [List.lookup]
  generalize (fun x => [(("self" : Str), Value.ref a), (px, u)].reverse.lookup x) = m at hns v1 v2
  show PySem.wpAt (model prog w) (A.deeper (PySem.W.ksEnv qual scope hp.objs.size fI (.ref cda) cc)) (.func (supBody p0 p1 p2 p3 p4 p5 p6 p7 p8 p9 j txt fld px) (PySem.W.ksEnv qual scope hp.objs.size fI (.ref cda) cc)) (execs [.Expr (.Call (.Attribute (.Call (.Name "super" p0) [] [] p1) "__init__" p2) [.Constant (.str txt) j p9] [] p3) p4, .Assign [.Attribute (.Name "self" p5) fld p6] (.Name px p7) p8] (PySem.W.ksEnv qual scope hp.objs.size fI (.ref cda) cc)) _ _ ⟨h₀, g, d, t + 2, os⟩
  refine PySem.ks_wpAt_execs_cons (PySem.ks_wpAt_Expr_any (PySem.ks_wpAt_MethodCall ?_ (hev _)) (by show (scope.kind == .module && _) = false; rw [SS.kind]; rfl))
  refine PySem.ks_wpAt_super_base (env := PySem.W.ksEnv qual scope hp.objs.size fI (.ref cda) cc) SS.ks SS.kc (by decide) rfl (X0 _ _ hf) rfl har rfl (X0 _ _ hcode) rfl hvs hfile SC.top ?_
  refine PySem.W.ks_loadName_global SS.kind SS.ks (Calls.loadGlobal_builtin (env := PySem.W.ksEnv qual scope hp.objs.size fI (.ref cda) cc) (M0.glob.keeps kbh) hsup (hb1.keeps kbh) ((hb2 _ (by decide)).trans (by kernel_rfl)) ⟨rfl, ?_⟩)
  refine wpAny_loadName_free SS.kind SS.kc rfl ⟨_, X0 _ _ hcell, rfl⟩ ?_
  rw [hself]
  refine wpAny_loadName_local SS.kind SS.kself hns v1 ?_
  refine PySem.ks_wpAny_isType_cls (X0 _ _ hC) rfl ⟨rfl, ?_⟩
  refine PySem.ks_wpAny_call_super (X0 _ _ hC) rfl hx0 rfl (fun c e => nomatch e) (PySem.W.looks_mroIn X0 SC.sub) (fun h1 hso k1 => ?_)
  have X1 : K.In h1 := X0.keeps k1
  have hx1 := k1 _ _ hx0
  have I1 : PySem.W.InstAt h1 a (PySem.HandSPX.excO C t0) C none := ⟨hx1, rfl, rfl, trivial⟩
  have hsI : PySem.W.alongIn K "__init__" (((Value.ref C :: bm').dropWhile (· != .ref C)).drop 1) = some (some (.builtin "ValueError.__init__")) := by
    have z := SC.sup
    unfold PySem.W.ks_superIn at z
    rw [hcl] at z
    exact z
  refine PySem.W.kxs_getMethod PySem.W.kxs_ValueError hso (PySem.W.looks_opaque X1 SC.opq) (l₀ := Value.ref C :: bm') ?_ rfl X1 hsI (I1.type.andThen (PySem.W.looks_subIn X1 SC.ve)) (PySem.W.ks_ne X1 I1 hcl) (by decide) ?_
  · exact fun A Q E s k q => wpAny_bind ((PySem.W.looks_clsIn X1 hcl) A _ E s k (wpAny_pure q))
  have hu : (h1.push (PySem.W.kxs_mw "ValueError.__init__" a)).get? h1.objs.size = some (PySem.W.kxs_mw "ValueError.__init__" a) := Heap.get?_push_at rfl rfl
  have k2 : ∀ b o, h1.get? b = some o → (h1.push (PySem.W.kxs_mw "ValueError.__init__" a)).get? b = some o := fun b o e => Heap.get?_push_of_some _ e
  generalize h1.push (PySem.W.kxs_mw "ValueError.__init__" a) = h2 at hu k2
  have hse : starEach [Expr.Constant (Const.str txt) j p9] (PySem.W.ksEnv qual scope hp.objs.size fI (.ref cda) cc) = (false, eval (Expr.Constant (Const.str txt) j p9) (PySem.W.ksEnv qual scope hp.objs.size fI (.ref cda) cc)) :: starEach [] (PySem.W.ksEnv qual scope hp.objs.size fI (.ref cda) cc) := rfl
  dsimp only
  refine PySem.W.kxs_callWith (i := "ValueError.__init__") (x := a) rfl ?_
  rw [hse]
  refine Calls.evalArgs_plain ?_
  show wpAny _ _ (spliced (backTo p3 (starEach [Expr.Constant (Const.str txt) j p9] (PySem.W.ksEnv qual scope hp.objs.size fI (.ref cda) cc)))) _ _ _
  refine PyProof.Rows.args_cons (wpAny_Constant_str (PyProof.Rows.args_nil ⟨hu, ?_⟩)) hse
  have X2 : K.In h2 := X1.keeps k2
  have hx2 := k2 _ _ hx1
  refine wpAny_call (codeAny_of_tree ?_)
  show wpAny _ _ (callAny (.ref h1.objs.size) ⟨[] ++ [Value.str txt _], []⟩) _ _ _
  simp only [callAny]
  refine wpAny_bind (wpAny_load hu ?_)
  simp only [PySem.W.kxs_mw, show (Value.type "method-wrapper" == Value.type "method" || Value.type "method-wrapper" == Value.type "builtin_function_or_method" || Value.type "method-wrapper" == Value.type "method-wrapper") = true by decide, if_true]
  refine PySem.W.KFB.if_so (by decide) ?_
  refine wpAny_bind (PySem.W.check_bound_init F.excBase_ValueError.toExcCallFacts (X2 _ _ hC) hx2 rfl ?_)
  refine wpAny_bind (wpAny_pure (wpAny_pure ?_))
  refine ⟨plainId_quiet F.excBase_ValueError.init.plain _, codeAny_builtin F.excBase_ValueError.initEntry ?_⟩
  refine PySem.W.exc_init_tree (cls := .ref C) (t0 := t0) (dv := none) (c2 := .none) (c3 := .none) (b4 := .bool false) hx2 (by show 1 ≤ sizeLine; decide) (fun h3 k3 hx3 ht3 => ?_)
  have hLa : hp.objs.size ≠ a := Ne.symm (Nat.ne_of_lt (Heap.lt_size hx))
  have k03 : ∀ b o, b ≠ a → h₀.get? b = some o → h3.get? b = some o := fun b o hb e => k3 b o hb (k2 _ _ (k1 _ _ e))
  have X3 : K.In h3 := M0.kin.keeps fun b o e => k03 b o (fun z => by rw [z, hab] at e; cases e) (kbh b o e)
  have hns3 : h3.Ns hp.objs.size m := by
    obtain ⟨oL, es, ep, hL, r⟩ := hns
    exact ⟨oL, es, ep, k03 _ _ hLa hL, r⟩
  show PySem.wpAt _ _ _ (execs [Stmt.Assign [(Expr.Name "self" p5).Attribute fld p6] (Expr.Name px p7) p8] (PySem.W.ksEnv qual scope hp.objs.size fI (.ref cda) cc)) _ _ _
  refine PySem.ks_wpAt_execs_cons (PySem.ks_wpAt_Assign_Attr (wpAt_of_wpAny (PySem.ESX.ldL (env := PySem.W.ksEnv qual scope hp.objs.size fI (.ref cda) cc) hns3 v2 (PySem.ESX.ldL (env := PySem.W.ksEnv qual scope hp.objs.size fI (.ref cda) cc) hns3 v1 ?_ SS.kind SS.kself (by decide)) SS.kind SS.kx SS.dbg)))
  refine PySem.W.set_plain X3 (ox := { cls := .ref C, dict := none, data := .fields #[.ref h2.objs.size, .none, .none, .none, .bool false, .none] }) (od := none) ⟨hx3, rfl, rfl, trivial⟩ SC.oex.sa ?_
  refine PySem.HandSPX.exc_osa X3 hx3 hcl (show PySem.HandSPX.refsVE (.ref C :: bm') = true from hbm) rfl hno (fun h' tk' dx k dn dne hx' hn => ?_)
  refine wpAt_of_wpAny (wpAny_execs_nil ?_)
  refine hq h' _ dx _ (fun b o hb e => k b o hb (k03 b o hb (k0 _ _ e))) ?_ dne hx' hn
  obtain ⟨oL, es, ep, hL, r⟩ := hns3
  exact Nat.le_trans (Nat.le_of_lt (Heap.lt_size hL)) dn
theorem sup_code {prog : Program} {w : World} {A : Around} {K : PySem.W.Frag} {mg : Str → Option Value} {base hp : Heap} {g : Array GenState} {d : PySem.Drawn} {t : Nat} {os : OsState} {C fI a t0 : Addr} {qual : Str} {params : Arguments} {scope : Scope} {u : Value} {R : Result → Shared → Prop}
    {p0 p1 p2 p3 p4 p5 p6 p7 p8 p9 : Pos} {j : Nat} {txt fld px : Str}
    (SC : SupC prog K C fI qual params (supBody p0 p1 p2 p3 p4 p5 p6 p7 p8 p9 j txt fld px) scope) (SS : SupScope scope params px) (M0 : Mod K mg base) (kb : ∀ b o, base.get? b = some o → hp.get? b = some o) (hab : base.get? a = none) (hsup : mg "super" = none)
    (hroom : A.depth < recursionLimit) (hno : PySem.W.findIn K (.ref C) fld = some none) {pl : Env → Sem Bool}
    (hev : ∀ env : Env, eval (.Call (.Attribute (.Call (.Name "super" p0) [] [] p1) "__init__" p2) [.Constant (.str txt) j p9] [] p3) env = (do
      let ov ← attributeBase (.Call (.Name "super" p0) [] [] p1) "__init__" env (eval (.Call (.Name "super" p0) [] [] p1) env)
      standAt p2.atName
      let (f, first) ← holding [ov] (getMethod ov "__init__" (pl env))
      callWith p3 f first (backTo p3 (starEach [.Constant (.str txt) j p9] env)) []))
    (hbind : ∀ (nm : Str) (kV doc pm : Value) (an : Option Addr) (cdv ct : Value) (cc : Addr) (us : List Value), us.length = 2 → bindArgs (PySem.W.ksFn nm qual params (supBody p0 p1 p2 p3 p4 p5 p6 p7 p8 p9 j txt fld px) scope .none kV doc pm an cdv ct cc) ⟨us, []⟩ = pure ((["self", px] : List Str).zip us))
    (hx : hp.get? a = some (PySem.HandSPX.excO C t0))
    (hq : ∀ h' tk' dx t1, (∀ b o, b ≠ a → hp.get? b = some o → h'.get? b = some o) → hp.objs.size ≤ dx → dx ≠ a → h'.get? a = some ({ cls := .ref C, dict := some dx, data := .fields #[.ref t1, .none, .none, .none, .bool false, .none] } : Obj) →
      h'.Ns1 dx (fun y => if y = fld then some u else none) → R (.ok (.ret .none)) ⟨h', g, d, tk', os⟩) :
    codeAny (model prog w) A (.call (.ref fI) ⟨[.ref a, u], []⟩) R ⟨hp, g, d, t, os⟩ :=
  sup_codeG SC SS M0 kb hab hsup hroom hno hev (fun nm kV doc pm an cdv ct cc => hbind nm kV doc pm an cdv ct cc [.ref a, u] rfl) hx hq
structure SupAt (P : Program) (K : PySem.W.Frag) (mg : Str → Option Value) (x fld : Str) : Prop where
  ex : ∃ (fI : Addr) (qual : Str) (params : Arguments) (scope : Scope) (p0 p1 p2 p3 p4 p5 p6 p7 p8 p9 : Pos) (j : Nat) (txt px : Str) (pl : Env → Sem Bool),
    SupC P K (He.ga K x) fI qual params (supBody p0 p1 p2 p3 p4 p5 p6 p7 p8 p9 j txt fld px) scope ∧ SupScope scope params px ∧
    (∀ env : Env, eval (.Call (.Attribute (.Call (.Name "super" p0) [] [] p1) "__init__" p2) [.Constant (.str txt) j p9] [] p3) env = (do
      let ov ← attributeBase (.Call (.Name "super" p0) [] [] p1) "__init__" env (eval (.Call (.Name "super" p0) [] [] p1) env)
      standAt p2.atName
      let (f, first) ← holding [ov] (getMethod ov "__init__" (pl env))
      callWith p3 f first (backTo p3 (starEach [.Constant (.str txt) j p9] env)) [])) ∧
    (∀ (nm : Str) (kV doc pm : Value) (an : Option Addr) (cdv ct : Value) (cc : Addr) (us : List Value), us.length = 2 → bindArgs (PySem.W.ksFn nm qual params (supBody p0 p1 p2 p3 p4 p5 p6 p7 p8 p9 j txt fld px) scope .none kV doc pm an cdv ct cc) ⟨us, []⟩ = pure ((["self", px] : List Str).zip us))
  no : PySem.W.findIn K (.ref (He.ga K x)) fld = some none
  g : mg x = some (.ref (He.ga K x))
  sup : mg "super" = none
def tMkS (C : Addr) (fld : Str) (te : TE) : L2.St → Hp → XK → Prop := fun σ H Q => te σ H fun y H1 => ∀ d, H1 d = none → Q (.ref C) (some d) (upd H1 d (.xd [(fld, y)]))
section
variable {X : Cx} {e : Expr} {te : TE} {p pos : Pos}
theorem pmk_sup {x fld : Str} {k : Nat} (S : SupAt X.prog X.K X.mg x fld) (hr : Room k X.A) (hg : Gl X x) (ha : PE X e te) (hk : 1 ≤ k := by decide)
    (hdb : (x == ("__debug__" : Str)) = false := by decide) (he : starEach [e] X.env = (false, eval e X.env) :: starEach [] X.env := by rfl) :
    PMk X (.Call (.Name x p) [e] [] pos) (tMkS (He.ga X.K x) fld te) := by
  intro pins s σ H Q I h
  obtain ⟨fI, qual, params, scope, p0, p1, p2, p3, p4, p5, p6, p7, p8, p9, j, txt, px, pl, SC, SS, hev, hbind⟩ := S.ex
  have T := SC.oex
  obtain ⟨nm, q, N, bs, bm, sn, sub, ab, col, dd, k0, k1, k2, k3, k5, hC, hbm⟩ := T.cls
  refine wpAny_Call_Name_kw (ld_glob I hg S.g ?_ hdb)
  refine PySem.W.callWith_K (h₀ := X.base) I.ok.mod.kin T.kC (PyProof.Rows.args_cons (thn (ha.run pins s σ H _ I h) fun u s1 ⟨y, H1, I1, ry, q1⟩ => PyProof.Rows.args_nil ⟨I1.kIn, ?_⟩) he) he rfl
  show wpAny _ _ (call (.ref (He.ga X.K x)) [u]) _ _ _
  obtain ⟨hp, g, dr, tk, os⟩ := s1
  have hsz : hp.objs.size ≤ hp.objs.size + 1 := Nat.le_succ _
  have hn : H1 (hp.objs.size + 1) = none := I1.hok.fresh hsz
  have kk : ∀ b o, hp.get? b = some o → ((hp.push (PySem.W.kdv_tup [u])).push (PySem.HandSPX.excO (He.ga X.K x) hp.objs.size)).get? b = some o := fun b o e => Heap.get?_push_of_some _ (Heap.get?_push_of_some _ e)
  have hget : ((hp.push (PySem.W.kdv_tup [u])).push (PySem.HandSPX.excO (He.ga X.K x) hp.objs.size)).get? (hp.objs.size + 1) = some (PySem.HandSPX.excO (He.ga X.K x) hp.objs.size) := by heap_get
  have hsz2 : hp.objs.size ≤ ((hp.push (PySem.W.kdv_tup [u])).push (PySem.HandSPX.excO (He.ga X.K x) hp.objs.size)).objs.size := Nat.le_of_lt (Nat.lt_trans (Nat.lt_succ_self _) (Heap.lt_size hget))
  have hab : X.base.get? (hp.objs.size + 1) = none := by
    cases z : X.base.get? (hp.objs.size + 1) with
    | none => rfl
    | some o => exact absurd (Heap.lt_size (I1.bk _ _ z)) (by show ¬ hp.objs.size + 1 < hp.objs.size; omega)
  refine wpAny_call (PySem.HandSPX.call_own F.excBase_ValueError (fun Y => PySem.HandSPX.refsVE_contains Y bm hbm) (I1.kIn _ _ hC) (PySem.W.looks_findIn I1.kIn SC.ini) (fun self => PySem.W.bind_fn I1.kIn self SC.tyI) (by show 1 ≤ sizeLine; decide)
    (sup_code SC SS I.ok.mod (fun b o e => kk b o (I1.bk b o e)) hab S.sup ((hr.mono hk).make (He.ga X.K x) [u] []).depth S.no hev hbind hget (fun h' tk' dx t1 k dn dne hx hns => ?_)))
  refine ⟨rfl, ?_⟩
  have hnd : H1 dx = none := I1.hok.fresh (Nat.le_trans hsz2 dn)
  generalize ea0 : hp.objs.size + 1 = a at *
  generalize eC : He.ga X.K x = C at *
  generalize (hp.push (PySem.W.kdv_tup [u])).push (PySem.HandSPX.excO C hp.objs.size) = hp2 at *
  have I2 : Inv X pins σ (upd H1 a (exo a C none)) ⟨hp2, g, dr, tk, os⟩ := I1.laid (t' := tk) (a := a) (o := exo a C none) (h' := hp2) kk hsz (exo_ok hget)
  have e : (upd H1 a (exo a C none)) a = some (exo a C none) := upd_same
  have hnd2 : (upd H1 a (exo a C none)) dx = none := (upd_ne dne).trans hnd
  have nd : ∀ {b : Addr} {o : Obj}, hp2.get? b = some o → b ≠ dx := fun {b o} q => Nat.ne_of_lt (Nat.lt_of_lt_of_le (Heap.lt_size q) dn)
  have na : ∀ {b : Addr}, (upd H1 a (exo a C none)) b = none → b ≠ a := fun {b} n z => by
    rw [z, e] at n
    cases n
  generalize hH : upd H1 a (exo a C none) = HH at *
  have Un1 : Un (frs X.stack) [] HH (upd (upd HH dx (exd dx [(fld, y)])) a (exo a C (some dx))) hp2 h' := {
    keep := fun b o q n _ _ => k b o (na n) q
    slot := fun b o q n _ _ => ⟨o.slots, k b o (na n) q⟩
    free := fun b o q n _ => by rw [upd_ne (na n), upd_ne (nd q)]; exact n
    there := fun b o q _ => by
      by_cases hb : b = a
      · exact ⟨_, by rw [hb]; exact hx⟩
      · exact ⟨o, k b o hb q⟩
    tups := fun b xs q => by rw [upd_ne (at_ne e q exo_tup), upd_ne (ne_of_none q hnd2)]; exact q
    frzs := fun b o v q => by rw [upd_ne (at_ne e q exo_frz), upd_ne (ne_of_none q hnd2)]; exact q
    tbls := fun b ps q => ⟨#[], by rw [upd_ne (at_ne e q exo_tbl), upd_ne (ne_of_none q hnd2), q]; simp⟩ }
  have hok2 : HOk X.prog X.w (upd (upd HH dx (exd dx [(fld, y)])) a (exo a C (some dx))) h' := fun b o q => by
    by_cases hb : b = a
    · subst hb
      rw [upd_same] at q
      cases q
      exact exo_ok hx
    · rw [upd_ne hb] at q
      by_cases hd : b = dx
      · subst hd
        rw [upd_same] at q
        cases q
        exact exd_ok hns (relO_put (fs := []) ry fun g => True.intro)
      · rw [upd_ne hd] at q
        exact (I2.hok b o q).stay (fun c v hc z => k c v (by
            rcases hc with hc | hc
            · rw [hc]
              exact hb
            · exact at_ne e hc exo_own) z)
          (fun c hc => by rw [upd_ne (at_ne e hc exo_own), upd_ne (ne_of_none hc hnd2)]; exact hc) (fun c xs hc => by rw [upd_ne (at_ne e hc exo_tup), upd_ne (ne_of_none hc hnd2)]; exact hc)
  have ea : (upd (upd HH dx (exd dx [(fld, y)])) a (exo a C (some dx))) a = some (exo a C (some dx)) := upd_same
  have ed : (upd (upd HH dx (exd dx [(fld, y)])) a (exo a C (some dx))) dx = some (exd dx [(fld, y)]) := (upd_ne dne).trans upd_same
  have eF : upd (del (upd (upd HH dx (exd dx [(fld, y)])) a (exo a C (some dx))) a) dx (.xd [(fld, y)]) = upd H1 dx (.xd [(fld, y)]) := by
    funext b
    by_cases hd : b = dx
    · rw [hd, upd_same, upd_same]
    · rw [upd_ne hd, upd_ne hd]
      by_cases hb : b = a
      · rw [hb, del_same, hn]
      · rw [del_ne hb, upd_ne hb, upd_ne hd, ← hH, upd_ne hb]
  rw [← hH] at Un1
  refine mk_end (raises_own T.exC T.tyC) I1 hsz kk Un1 (by rw [hH]; exact hok2) rfl I1.bare (by rw [hH]; exact ea) (by rw [hH]; exact ed) hnd ?_
  rw [hH, eF]
  exact q1 dx hnd
end
end WW
set_option Elab.async false
set_option linter.all false
set_option maxRecDepth 100000
set_option maxHeartbeats 4000000
namespace WW
open PySem PySem.Spec PyProof.Rows L2
theorem takes_no {X : Cx} : Takes X (fun _ _ _ _ => False) := fun u s' x => by
  obtain ⟨_, _, _, _, _, _, _, _, _, _, _, _, _, _, _, _, w⟩ := x
  exact w.elim
structure MkAtX (P : Program) (w : World) (K : PySem.W.Frag) (mg : Str → Option Value) (base : Heap) (k : Nat) (x : Str) (ps : List Str) (sp : Sp) (dvs : List V) : Prop where
  ex : ∃ f fd ds, Mk K (He.ga K x) f ∧ FnOk P w K mg base (L2.CX P w) k f fd ps sp ∧ Vals dvs ds ∧ Binds K fd ps ds
  g : mg x = some (.ref (He.ga K x))
def tMakeS (C : Addr) (sp : Sp) (dvs : List V) (E : L2.St → XK) (t : TA) : TE := fun σ H Q => t σ H fun vs H1 => ∀ x dx, H1 x = none → H1 dx = none → dx ≠ x → sp (.ref x :: (vs ++ dvs)) (upd (upd H1 dx (.own x)) x (.ins C dx [])) (fun v H2 => v = .non ∧ Q (.ref x) H2) (E σ)
section
variable {X : Cx} {k j : Nat} {x : Str} {ps : List Str} {sp : Sp} {e : Expr} {es : List Expr} {t : TA} {p pos : Pos} {dvs : List V} {W : WX}
theorem pe_mkrX (K : PySem.W.Frag) (F : MkAtX X.prog X.w K X.mg X.base k x ps sp dvs) (tk : Takes X W) (hr : Room j X.A) (hg : Gl X x) (ha : PA X (e :: es) t) (hk : k + 1 ≤ j := by decide) (hK : X.K = K := by rfl)
    (hdb : (x == ("__debug__" : Str)) = false := by decide) (he : starEach (e :: es) X.env = (false, eval e X.env) :: starEach es X.env := by rfl) (hpl : (backTo pos (starEach es X.env)).any (·.1) = false := by rfl) :
    PE X (.Call (.Name x p) (e :: es) [] pos) (tMakeS (He.ga K x) sp dvs (WE W) t) := by
  subst hK
  obtain ⟨f, fd, ds, M, F1, hd, hb⟩ := F.ex
  refine ⟨fun pins s0 σ H0 Q I0 h0 => ?_⟩
  refine wpAny_Call_Name_kw (ld_glob I0 hg F.g ?_ hdb)
  refine PySem.W.callWith_K (h₀ := X.base) I0.ok.mod.kin M.kp (thn (ha.run pos pins s0 σ H0 _ I0 h0) fun us s ⟨vs, H, I, r, h⟩ => ⟨I.kIn, ?_⟩) he hpl
  have hq := h (s.heap.objs.size + 1) s.heap.objs.size (I.hok.fresh (Nat.le_succ _)) (I.hok.fresh (Nat.le_refl _)) (Nat.ne_of_lt (Nat.lt_succ_self _))
  have I2 := Inv.made (C := He.ga X.K x) I
  have r2 : Vals (V.ref (s.heap.objs.size + 1) :: (vs ++ dvs)) (Value.ref (s.heap.objs.size + 1) :: (us ++ ds)) := .cons rfl (r.append hd)
  have hl : (Value.ref (s.heap.objs.size + 1) :: us ++ ds).length = ps.length := by
    have e := r2.length
    rw [F1.len _ _ _ _ hq] at e
    exact e.symm
  show wpAny _ _ (call (.ref (He.ga X.K x)) us) _ _ _
  refine wpAny_call (make_map (f := f) I.kIn M.makes M.init (beq_iff_eq.mp M.fn) (codeAny_mono (F1.run _ X.stack _ _ ⟨Value.ref (s.heap.objs.size + 1) :: us, []⟩ (Value.ref (s.heap.objs.size + 1) :: (us ++ ds)) _ _ (WE W σ) ((hr.mono hk).make (He.ga X.K x) us [])
    (I2.env0.make (He.ga X.K x) us []) (hb _ (Value.ref (s.heap.objs.size + 1) :: us) I2.kIn hl) r2 hq) fun r s' hq' => ?_))
  cases r with
  | error e => exact passAt tk σ pins _ _ e s' I2 hq'
  | ok fl =>
    cases fl with
    | ret u =>
      obtain ⟨v, H', I3, rv, ev, q3⟩ := I2.after hq'
      subst ev
      exact ⟨rv, ⟨V.ref (s.heap.objs.size + 1), H', I3, rfl, q3⟩⟩
    | next => exact False.elim hq'
    | brk => exact False.elim hq'
    | cont => exact False.elim hq'
end
end WW
set_option Elab.async false
set_option linter.all false
set_option maxRecDepth 100000
set_option maxHeartbeats 4000000
namespace WW
open PySem PySem.Spec PyProof.Rows L2
class Enc (α : Type) where
  rep : PySem.W.Frag → Hp → V → α → Prop
  mono : ∀ {K : PySem.W.Frag} {H H' : Hp} {v : V} {a : α}, Same H H' → rep K H v a → rep K H' v a
def BIG : Nat := 1000000
theorem big_line : BIG ≤ sizeLine := by decide
instance : Enc Int := ⟨fun _ _ v i => v = .int i, fun _ h => h⟩
instance : Enc Bool := ⟨fun _ _ v b => v = .bl b, fun _ h => h⟩
instance : Enc Unit := ⟨fun _ _ v _ => v = .non, fun _ h => h⟩
instance : Enc Str := ⟨fun _ _ v z => v = .str z, fun _ h => h⟩
instance {α : Type} [Enc α] : Enc (Option α) where
  rep K H v o := match o with
    | none => v = .non
    | some a => Enc.rep K H v a
  mono {K H H' v a} e h := by
    cases a with
    | none => exact h
    | some a => exact Enc.mono e h
theorem Paired.at {α β : Type} {F : α → β → Prop} : ∀ {l : List α} {r : List β} {i : Nat} {b : β}, Paired F l r → r[i]? = some b → ∃ a, l[i]? = some a ∧ F a b
  | _, _, _, _, .nil, e => by simp at e
  | _, _, 0, _, .cons f _, e => by
    simp at e
    subst e
    exact ⟨_, rfl, f⟩
  | _, _, i + 1, b, .cons _ t, e => by
    obtain ⟨u, h1, h2⟩ := Paired.at (i := i) (b := b) t (by simpa using e)
    exact ⟨u, by simpa using h1, h2⟩
theorem Paired.app {α β : Type} {F : α → β → Prop} : ∀ {l l' : List α} {r r' : List β}, Paired F l r → Paired F l' r' → Paired F (l ++ l') (r ++ r')
  | _, _, _, _, .nil, h => h
  | _, _, _, _, .cons f t, h => .cons f (Paired.app t h)
theorem Paired.tk {α β : Type} {F : α → β → Prop} : ∀ {l : List α} {r : List β} (n : Nat), Paired F l r → Paired F (l.take n) (r.take n)
  | _, _, 0, _ => by simp; exact .nil
  | _, _, _ + 1, .nil => .nil
  | _, _, n + 1, .cons f t => .cons f (Paired.tk n t)
theorem Paired.dr {α β : Type} {F : α → β → Prop} : ∀ {l : List α} {r : List β} (n : Nat), Paired F l r → Paired F (l.drop n) (r.drop n)
  | _, _, 0, h => h
  | _, _, _ + 1, .nil => .nil
  | _, _, n + 1, .cons _ t => Paired.dr n t
instance {α : Type} [Enc α] : Enc (List α) where
  rep K H v xs := xs.length ≤ BIG ∧ ∃ p vs, v = .ref p ∧ Sq K H p vs ∧ Paired (Enc.rep K H) vs xs
  mono e h := by
    obtain ⟨hl, p, vs, r, hq, hp⟩ := h
    exact ⟨hl, p, vs, r, hq.ex e, Paired.mono (fun _ _ => Enc.mono e) hp⟩
def L (α : Type) := List α
def U (α : Type) := List α
instance {α : Type} [Enc α] : Enc (L α) where
  rep K H v xs := List.length xs ≤ BIG ∧ ∃ p vs, v = .ref p ∧ H p = some (.lst vs) ∧ Paired (Enc.rep K H) vs xs
  mono e h := by
    obtain ⟨hl, p, vs, r, hq, hp⟩ := h
    exact ⟨hl, p, vs, r, e _ _ hq, Paired.mono (fun _ _ => Enc.mono e) hp⟩
instance {α : Type} [Enc α] : Enc (U α) where
  rep K H v xs := List.length xs ≤ BIG ∧ ∃ p vs, v = .ref p ∧ SqT K H p vs ∧ Paired (Enc.rep K H) vs xs
  mono e h := by
    obtain ⟨hl, p, vs, r, hq, hp⟩ := h
    exact ⟨hl, p, vs, r, Evl.ex_t e hq, Paired.mono (fun _ _ => Enc.mono e) hp⟩
instance {α β : Type} [Enc α] [Enc β] : Enc (α × β) where
  rep K H v ab := ∃ p v1 v2, v = .ref p ∧ SqT K H p [v1, v2] ∧ Enc.rep K H v1 ab.1 ∧ Enc.rep K H v2 ab.2
  mono e h := by
    obtain ⟨p, v1, v2, r, hq, h1, h2⟩ := h
    exact ⟨p, v1, v2, r, Evl.ex_t e hq, Enc.mono e h1, Enc.mono e h2⟩
structure T3 (α β γ : Type) where
  a : α
  b : β
  c : γ
instance {α β γ : Type} [Enc α] [Enc β] [Enc γ] : Enc (T3 α β γ) where
  rep K H v t := ∃ p v1 v2 v3, v = .ref p ∧ SqT K H p [v1, v2, v3] ∧ Enc.rep K H v1 t.a ∧ Enc.rep K H v2 t.b ∧ Enc.rep K H v3 t.c
  mono e h := by
    obtain ⟨p, v1, v2, v3, r, hq, h1, h2, h3⟩ := h
    exact ⟨p, v1, v2, v3, r, Evl.ex_t e hq, Enc.mono e h1, Enc.mono e h2, Enc.mono e h3⟩
def IsBx (o : Option HO) : Prop := ∃ x y z : Int, o = some (bx x y z)
structure Ext (B : Addr → Prop) (S H S' H' : Hp) : Prop where
  s : Same S S'
  i : Same S' H'
  p : ∀ a, S a = none → H a ≠ none → S' a = none ∧ (H' a = H a ∨ (B a ∧ IsBx (H' a)))
section
variable {B : Addr → Prop} {S H S1 H1 S2 H2 : Hp}
theorem IsBx.ne {o : Option HO} (h : IsBx o) : o ≠ none := by
  obtain ⟨x, y, z, e⟩ := h
  rw [e]
  exact fun q => nomatch q
theorem Ext.refl (h : Same S H) : Ext B S H S H := ⟨Same.refl S, h, fun a h _ => ⟨h, .inl rfl⟩⟩
theorem Ext.trans (a : Ext B S H S1 H1) (b : Ext B S1 H1 S2 H2) : Ext B S H S2 H2 := by
  refine ⟨a.s.trans b.s, b.i, fun x h1 h2 => ?_⟩
  obtain ⟨q1, q2⟩ := a.p x h1 h2
  have n1 : H1 x ≠ none := by
    rcases q2 with q2 | ⟨_, q2⟩
    · rw [q2]
      exact h2
    · exact q2.ne
  obtain ⟨r1, r2⟩ := b.p x q1 n1
  refine ⟨r1, ?_⟩
  rcases r2 with r2 | r2
  · rcases q2 with q2 | ⟨k, q2⟩
    · exact .inl (r2.trans q2)
    · exact .inr ⟨k, by rw [r2]; exact q2⟩
  · exact .inr r2
theorem Ext.free (e : Ext B S H S1 H1) (i : Same S H) {a : Addr} (h : H1 a = none) : H a = none := by
  cases q : S a with
  | some o => rw [e.i _ _ (e.s _ _ q)] at h; cases h
  | none =>
    cases r : H a with
    | none => rfl
    | some o =>
      rcases (e.p a q (by rw [r]; exact fun z => nomatch z)).2 with z | ⟨_, z⟩
      · rw [z, r] at h; cases h
      · exact absurd h z.ne
theorem Ext.new {p : Addr} {o : HO} (i : Same S H) (h : H p = none) : Ext B S H (upd S p o) (upd H p o) := by
  have sn := i.free h
  refine ⟨same_new sn, fun a u e => ?_, fun a h1 h2 => ?_⟩
  · by_cases z : a = p
    · subst z
      rw [upd_same] at e ⊢
      exact e
    · rw [upd_ne z] at e ⊢
      exact i _ _ e
  · have z : a ≠ p := fun z => h2 (by rw [z]; exact h)
    rw [upd_ne z, upd_ne z]
    exact ⟨h1, .inl rfl⟩
theorem Ext.priv {p : Addr} {o : HO} (i : Same S H) (h : H p = none) : Ext B S H S (upd H p o) := by
  refine ⟨Same.refl S, i.trans (same_new h), fun a h1 h2 => ⟨h1, .inl (upd_ne fun z => h2 (by rw [z]; exact h))⟩⟩
theorem Ext.grow (i : Same S H) (h : Same H H1) : Ext B S H S H1 := by
  refine ⟨Same.refl S, i.trans h, fun a h1 h2 => ⟨h1, .inl ?_⟩⟩
  cases q : H a with
  | none => exact absurd q h2
  | some o => exact h _ _ q
theorem Ext.frz {p : Addr} {o : HO} (e : Ext B S H S1 H1) (h : H p = none) (i : Same S H) (h1 : H1 p = some o) (h2 : S1 p = none) : Ext B S H (upd S1 p o) H1 := by
  refine ⟨e.s.trans (same_new h2), fun a u q => ?_, fun a q1 q2 => ?_⟩
  · by_cases z : a = p
    · subst z
      rw [upd_same] at q
      cases q
      exact h1
    · rw [upd_ne z] at q
      exact e.i _ _ q
  · have z : a ≠ p := fun z => q2 (by rw [z]; exact h)
    rw [upd_ne z]
    exact e.p a q1 q2
end
structure OwnP where
  rep : PySem.W.Frag → Hp → HO → Prop
  mono : ∀ {K : PySem.W.Frag} {S S' : Hp} {o : HO}, Same S S' → rep K S o → rep K S' o
inductive Slot : Type 1
  | no | box
  | val {α : Type} [e : Enc α] (a : α)
  | obj (P : OwnP)
  | out (P : OwnP)
def ownL {α : Type} [Enc α] (xs : List α) : OwnP := ⟨fun K S o => xs.length ≤ BIG ∧ ∃ vs, o = .lst vs ∧ Paired (Enc.rep K S) vs xs, fun e ⟨l, vs, r, h⟩ => ⟨l, vs, r, Paired.mono (fun _ _ => Enc.mono e) h⟩⟩
@[reducible] def Slot.own {α : Type} [Enc α] (xs : List α) : Slot := .obj (ownL xs)
def Slot.isOwn : Slot → Bool
  | .obj _ => true
  | _ => false
def SlotOk (K : PySem.W.Frag) (B : Addr → Prop) (H0 S H : Hp) : Option V → Slot → Prop
  | _, .no => True
  | some v, @Slot.val _ e a => e.rep K S v a
  | some v, .obj P => ∃ p o, v = .ref p ∧ H0 p = none ∧ S p = none ∧ H p = some o ∧ P.rep K S o
  | some v, .out P => ∃ p o, v = .ref p ∧ ¬ B p ∧ H0 p ≠ none ∧ S p = none ∧ H p = some o ∧ P.rep K S o
  | some v, .box => ∃ p, v = .ref p ∧ B p
  | none, _ => False
structure En (K : PySem.W.Frag) (B : Addr → Prop) (S0 H0 S H : Hp) (σ : L2.St) (ρ : List Slot) : Prop where
  i0 : Same S0 H0
  bx : ∀ p, B p → S p = none ∧ IsBx (H p) ∧ H0 p ≠ none
  ext : Ext B S0 H0 S H
  len : σ.length = ρ.length
  at' : ∀ (i : Nat) (s : Slot), ρ[i]? = some s → ∃ o, σ[i]? = some o ∧ SlotOk K B H0 S H o s
  ne : ∀ (i j : Nat) (s u : Slot), i ≠ j → ρ[i]? = some s → ρ[j]? = some u → s.isOwn = true → u.isOwn = true → σ[i]? ≠ σ[j]?
section
variable {K : PySem.W.Frag} {B : Addr → Prop} {S0 H0 S H S1 H1 : Hp} {σ : L2.St} {ρ : List Slot}
theorem En.i (E : En K B S0 H0 S H σ ρ) : Same S H := E.ext.i
theorem SlotOk.ext {o : Option V} {s : Slot} (e : Ext B S H S1 H1) (hb : ∀ p, B p → H0 p ≠ none) (h : SlotOk K B H0 S H o s) : SlotOk K B H0 S1 H1 o s := by
  cases s with
  | no => cases o <;> trivial
  | box =>
    cases o with
    | none => cases h
    | some v => exact h
  | val a =>
    cases o with
    | none => cases h
    | some v => exact Enc.mono e.s h
  | obj P =>
    cases o with
    | none => cases h
    | some v =>
      obtain ⟨p, u, r, h0, hs, hh, hp⟩ := h
      obtain ⟨q1, q2⟩ := e.p p hs (by rw [hh]; exact fun z => nomatch z)
      refine ⟨p, u, r, h0, q1, ?_, P.mono e.s hp⟩
      rcases q2 with q2 | ⟨q2, _⟩
      · rw [q2]
        exact hh
      · exact absurd h0 (hb p q2)
  | out P =>
    cases o with
    | none => cases h
    | some v =>
      obtain ⟨p, u, r, nb, h0, hs, hh, hp⟩ := h
      obtain ⟨q1, q2⟩ := e.p p hs (by rw [hh]; exact fun z => nomatch z)
      refine ⟨p, u, r, nb, h0, q1, ?_, P.mono e.s hp⟩
      rcases q2 with q2 | ⟨q2, _⟩
      · rw [q2]
        exact hh
      · exact absurd q2 nb
theorem En.go (E : En K B S0 H0 S H σ ρ) (e : Ext B S H S1 H1) : En K B S0 H0 S1 H1 σ ρ := by
  refine ⟨E.i0, fun p hp => ?_, E.ext.trans e, E.len, fun i s h => ?_, E.ne⟩
  · obtain ⟨h1, h2, h3⟩ := E.bx p hp
    obtain ⟨q1, q2⟩ := e.p p h1 h2.ne
    refine ⟨q1, ?_, h3⟩
    rcases q2 with q2 | ⟨_, q2⟩
    · rw [q2]
      exact h2
    · exact q2
  · obtain ⟨o, h1, h2⟩ := E.at' i s h
    exact ⟨o, h1, h2.ext e fun p hp => (E.bx p hp).2.2⟩
theorem En.val {i : Nat} {α : Type} [Enc α] {a : α} (E : En K B S0 H0 S H σ ρ) (h : ρ[i]? = some (.val a)) : ∃ v, σ[i]? = some (some v) ∧ Enc.rep K S v a := by
  obtain ⟨o, h1, h2⟩ := E.at' i _ h
  cases o with
  | none => cases h2
  | some v => exact ⟨v, h1, h2⟩
theorem En.obj {i : Nat} {P : OwnP} (E : En K B S0 H0 S H σ ρ) (h : ρ[i]? = some (.obj P)) : ∃ p o, σ[i]? = some (some (.ref p)) ∧ H0 p = none ∧ S p = none ∧ H p = some o ∧ P.rep K S o := by
  obtain ⟨o, h1, h2⟩ := E.at' i _ h
  cases o with
  | none => cases h2
  | some v =>
    obtain ⟨p, u, rfl, r⟩ := h2
    exact ⟨p, u, h1, r⟩
theorem En.own {i : Nat} {α : Type} [Enc α] {xs : List α} (E : En K B S0 H0 S H σ ρ) (h : ρ[i]? = some (.own xs)) : xs.length ≤ BIG ∧ ∃ p vs, σ[i]? = some (some (.ref p)) ∧ H0 p = none ∧ S p = none ∧ H p = some (.lst vs) ∧ Paired (Enc.rep K S) vs xs := by
  obtain ⟨p, o, h1, h0, hs, hh, hl, vs, rfl, r⟩ := E.obj h
  exact ⟨hl, p, vs, h1, h0, hs, hh, r⟩
theorem En.out {i : Nat} {P : OwnP} (E : En K B S0 H0 S H σ ρ) (h : ρ[i]? = some (.out P)) : ∃ p o, σ[i]? = some (some (.ref p)) ∧ ¬ B p ∧ H0 p ≠ none ∧ S p = none ∧ H p = some o ∧ P.rep K S o := by
  obtain ⟨o, h1, h2⟩ := E.at' i _ h
  cases o with
  | none => cases h2
  | some v =>
    obtain ⟨p, u, rfl, r⟩ := h2
    exact ⟨p, u, h1, r⟩
theorem En.box {i : Nat} (E : En K B S0 H0 S H σ ρ) (h : ρ[i]? = some .box) : ∃ p, σ[i]? = some (some (.ref p)) ∧ B p := by
  obtain ⟨o, h1, h2⟩ := E.at' i _ h
  cases o with
  | none => cases h2
  | some v =>
    obtain ⟨p, rfl, hb⟩ := h2
    exact ⟨p, h1, hb⟩
theorem En.set {i : Nat} {o : Option V} {s : Slot} (E : En K B S0 H0 S H σ ρ) (h : SlotOk K B H0 S H o s) (hs : s.isOwn = false) : En K B S0 H0 S H (σ.set i o) (ρ.set i s) := by
  refine ⟨E.i0, E.bx, E.ext, by rw [List.length_set, List.length_set]; exact E.len, fun j u hj => ?_, fun j k u w n hj hk ju kw => ?_⟩
  · rw [List.getElem?_set] at hj ⊢
    by_cases z : i = j
    · subst z
      rw [if_pos rfl] at hj ⊢
      rw [E.len]
      by_cases q : i < ρ.length
      · rw [if_pos q] at hj ⊢
        cases hj
        exact ⟨o, rfl, h⟩
      · rw [if_neg q] at hj
        cases hj
    · rw [if_neg z] at hj ⊢
      exact E.at' j u hj
  · rw [List.getElem?_set] at hj hk
    have z1 : i ≠ j := fun z => by
      rw [if_pos z] at hj
      split at hj
      · cases hj
        rw [hs] at ju
        cases ju
      · cases hj
    have z2 : i ≠ k := fun z => by
      rw [if_pos z] at hk
      split at hk
      · cases hk
        rw [hs] at kw
        cases kw
      · cases hk
    rw [if_neg z1] at hj
    rw [if_neg z2] at hk
    rw [List.getElem?_set_ne z1, List.getElem?_set_ne z2]
    exact E.ne j k u w n hj hk ju kw
theorem En.setV {i : Nat} {v : V} {α : Type} [Enc α] {a : α} (E : En K B S0 H0 S H σ ρ) (h : Enc.rep K S v a) : En K B S0 H0 S H (σ.set i (some v)) (ρ.set i (.val a)) := E.set h rfl
theorem En.ownNe {i j : Nat} {s u : Slot} {p q : Addr} (E : En K B S0 H0 S H σ ρ) (n : i ≠ j) (h1 : ρ[i]? = some s) (h2 : ρ[j]? = some u) (o1 : s.isOwn = true) (o2 : u.isOwn = true) (e1 : σ[i]? = some (some (.ref p))) (e2 : σ[j]? = some (some (.ref q))) : p ≠ q := fun z => E.ne i j s u n h1 h2 o1 o2 (by rw [e1, e2, z])
theorem En.setOb {i : Nat} {p : Addr} {u : HO} {P : OwnP} (E : En K B S0 H0 S H σ ρ) (e : Ext B S H S1 H1) (hp : H p = none) (hs : S1 p = none) (hh : H1 p = some u) (r : P.rep K S1 u) :
    En K B S0 H0 S1 H1 (σ.set i (some (.ref p))) (ρ.set i (.obj P)) := by
  have E1 := E.go e
  have h0 : H0 p = none := E.ext.free E.i0 hp
  refine ⟨E1.i0, E1.bx, E1.ext, by rw [List.length_set, List.length_set]; exact E1.len, fun j u hj => ?_, fun j k u w n hj hk ju kw => ?_⟩
  · rw [List.getElem?_set] at hj ⊢
    by_cases z : i = j
    · subst z
      rw [if_pos rfl] at hj ⊢
      rw [E.len]
      by_cases q : i < ρ.length
      · rw [if_pos q] at hj ⊢
        cases hj
        exact ⟨_, rfl, p, _, rfl, h0, hs, hh, r⟩
      · rw [if_neg q] at hj
        cases hj
    · rw [if_neg z] at hj ⊢
      exact E1.at' j u hj
  · have old : ∀ (j : Nat) (u : Slot), ρ[j]? = some u → u.isOwn = true → σ[j]? ≠ some (some (V.ref p)) := fun j u hu ou z => by
      obtain ⟨o, h1, h2⟩ := E.at' j u hu
      rw [z] at h1
      cases h1
      cases u with
      | obj P =>
        obtain ⟨q, _, z1, _, _, z2, _⟩ := h2
        cases z1
        rw [hp] at z2
        cases z2
      | _ => cases ou
    rw [List.getElem?_set] at hj hk
    by_cases z1 : i = j
    · have z2 : i ≠ k := fun z => n (z1.symm.trans z)
      rw [if_neg z2] at hk
      subst z1
      rw [List.getElem?_set_ne z2]
      have il : i < σ.length := by
        rw [if_pos rfl] at hj
        split at hj
        · rw [E.len]; assumption
        · cases hj
      rw [List.getElem?_set_self il]
      exact fun z => old k w hk kw z.symm
    · rw [if_neg z1] at hj
      rw [List.getElem?_set_ne z1]
      by_cases z2 : i = k
      · subst z2
        have il : i < σ.length := by
          rw [if_pos rfl] at hk
          split at hk
          · rw [E.len]; assumption
          · cases hk
        rw [List.getElem?_set_self il]
        exact old j u hj ju
      · rw [if_neg z2] at hk
        rw [List.getElem?_set_ne z2]
        exact E.ne j k u w n hj hk ju kw
theorem En.setO {i : Nat} {p : Addr} {vs : List V} {α : Type} [Enc α] {xs : List α} (E : En K B S0 H0 S H σ ρ) (e : Ext B S H S1 H1) (hp : H p = none) (hs : S1 p = none) (hh : H1 p = some (.lst vs)) (r : Paired (Enc.rep K S1) vs xs) (hl : xs.length ≤ BIG) :
    En K B S0 H0 S1 H1 (σ.set i (some (.ref p))) (ρ.set i (.own xs)) := E.setOb e hp hs hh ⟨hl, vs, rfl, r⟩
theorem En.chgOb {i : Nat} {p : Addr} {u' : HO} {P P' : OwnP} (E : En K B S0 H0 S H σ ρ) (hi : ρ[i]? = some (.obj P)) (hσ : σ[i]? = some (some (.ref p))) (r : P'.rep K S u') :
    En K B S0 H0 S (upd H p u') σ (ρ.set i (.obj P')) := by
  obtain ⟨p', ws, e1, h0, hs, hh, _⟩ := E.obj hi
  rw [hσ] at e1
  cases e1
  have nb : ∀ q, B q → q ≠ p := fun q hq z => (E.bx q hq).2.2 (by rw [z]; exact h0)
  refine ⟨E.i0, fun q hq => ?_, ⟨E.ext.s, fun a u q => ?_, fun a q1 q2 => ?_⟩, by rw [List.length_set]; exact E.len, fun j u hj => ?_, fun j k u w n hj hk ju kw => ?_⟩
  · rw [upd_ne (nb q hq)]
    exact E.bx q hq
  · rw [upd_ne (fun z => by rw [z, hs] at q; cases q)]
    exact E.i _ _ q
  · rw [upd_ne (fun z => q2 (by rw [z]; exact h0))]
    exact E.ext.p a q1 q2
  · rw [List.getElem?_set] at hj
    by_cases z : i = j
    · subst z
      rw [if_pos rfl] at hj
      split at hj
      · cases hj
        exact ⟨_, hσ, p, _, rfl, h0, hs, upd_same, r⟩
      · cases hj
    · rw [if_neg z] at hj
      obtain ⟨o, h1, h2⟩ := E.at' j u hj
      refine ⟨o, h1, ?_⟩
      cases u with
      | no => cases o <;> trivial
      | box =>
        cases o with
        | none => cases h2
        | some v => exact h2
      | val a =>
        cases o with
        | none => cases h2
        | some v => exact h2
      | obj P =>
        cases o with
        | none => cases h2
        | some v =>
          obtain ⟨q, us, rfl, g0, gs, gh, gr⟩ := h2
          refine ⟨q, us, rfl, g0, gs, ?_, gr⟩
          rw [upd_ne (fun y => E.ownNe z hi hj rfl rfl hσ h1 y.symm)]
          exact gh
      | out P =>
        cases o with
        | none => cases h2
        | some v =>
          obtain ⟨q, us, rfl, nb, g0, gs, gh, gr⟩ := h2
          refine ⟨q, us, rfl, nb, g0, gs, ?_, gr⟩
          rw [upd_ne (fun y => g0 (by rw [y]; exact h0))]
          exact gh
  · have up : ∀ (j : Nat) (u : Slot), (ρ.set i (.obj P'))[j]? = some u → u.isOwn = true → ∃ s : Slot, ρ[j]? = some s ∧ s.isOwn = true := fun j u hj ju => by
      rw [List.getElem?_set] at hj
      by_cases z : i = j
      · subst z
        exact ⟨_, hi, rfl⟩
      · rw [if_neg z] at hj
        exact ⟨u, hj, ju⟩
    obtain ⟨s, h1, h2⟩ := up j u hj ju
    obtain ⟨t, h3, h4⟩ := up k w hk kw
    exact E.ne j k s t n h1 h3 h2 h4
theorem En.chg {i : Nat} {p : Addr} {vs : List V} {α β : Type} [Enc α] [Enc β] {xs : List α} {ys : List β} (E : En K B S0 H0 S H σ ρ) (hi : ρ[i]? = some (.own xs)) (hσ : σ[i]? = some (some (.ref p))) (r : Paired (Enc.rep K S) vs ys) (hl : ys.length ≤ BIG) :
    En K B S0 H0 S (upd H p (.lst vs)) σ (ρ.set i (.own ys)) := E.chgOb hi hσ ⟨hl, vs, rfl, r⟩
theorem En.frzOb {i : Nat} {P : OwnP} {α : Type} [Enc α] {a : α} (E : En K B S0 H0 S H σ ρ) (hi : ρ[i]? = some (.obj P)) (cv : ∀ (S1 : Hp) (p : Addr) (u : HO), S1 p = some u → P.rep K S1 u → Enc.rep K S1 (.ref p) a) : ∃ S1, Ext B S0 H0 S1 H ∧ Same S S1 ∧ En K B S0 H0 S1 H σ (ρ.set i (.val a)) := by
  obtain ⟨p, w, e1, h0, hs, hh, r⟩ := E.obj hi
  have sm : Same S (upd S p w) := same_new hs
  have ex : Ext B S0 H0 (upd S p w) H := E.ext.frz h0 E.i0 hh hs
  refine ⟨_, ex, sm, ⟨E.i0, fun q hq => ?_, ex, by rw [List.length_set]; exact E.len, fun j u hj => ?_, fun j k u w n hj hk ju kw => ?_⟩⟩
  · rw [upd_ne (fun z => (E.bx q hq).2.2 (by rw [z]; exact h0))]
    exact E.bx q hq
  · rw [List.getElem?_set] at hj
    by_cases z : i = j
    · subst z
      rw [if_pos rfl] at hj
      split at hj
      · cases hj
        exact ⟨_, e1, cv _ p w upd_same (P.mono sm r)⟩
      · cases hj
    · rw [if_neg z] at hj
      obtain ⟨o, h1, h2⟩ := E.at' j u hj
      refine ⟨o, h1, ?_⟩
      cases u with
      | no => cases o <;> trivial
      | box =>
        cases o with
        | none => cases h2
        | some v => exact h2
      | val a =>
        cases o with
        | none => cases h2
        | some v => exact Enc.mono sm h2
      | obj P =>
        cases o with
        | none => cases h2
        | some v =>
          obtain ⟨q, us, rfl, g0, gs, gh, gr⟩ := h2
          refine ⟨q, us, rfl, g0, ?_, gh, P.mono sm gr⟩
          rw [upd_ne (fun y => E.ownNe z hi hj rfl rfl e1 h1 y.symm)]
          exact gs
      | out P =>
        cases o with
        | none => cases h2
        | some v =>
          obtain ⟨q, us, rfl, nb, g0, gs, gh, gr⟩ := h2
          refine ⟨q, us, rfl, nb, g0, ?_, gh, P.mono sm gr⟩
          rw [upd_ne (fun y => g0 (by rw [y]; exact h0))]
          exact gs
  · have up : ∀ (j : Nat) (u : Slot), (ρ.set i (.val a))[j]? = some u → u.isOwn = true → ρ[j]? = some u := fun j u hj ju => by
      rw [List.getElem?_set] at hj
      by_cases z : i = j
      · subst z
        rw [if_pos rfl] at hj
        split at hj
        · cases hj
          cases ju
        · cases hj
      · rw [if_neg z] at hj
        exact hj
    exact E.ne j k u w n (up j u hj ju) (up k w hk kw) ju kw
theorem En.frz {i : Nat} {α : Type} [Enc α] {xs : List α} (E : En K B S0 H0 S H σ ρ) (hi : ρ[i]? = some (.own xs)) : ∃ S1, Ext B S0 H0 S1 H ∧ Same S S1 ∧ En K B S0 H0 S1 H σ (ρ.set i (.val (α := L α) xs)) :=
  E.frzOb hi fun S1 p u hp ⟨hl, vs, e, r⟩ => ⟨hl, p, vs, rfl, by rw [hp, e], r⟩
end
end WW
set_option Elab.async false
set_option linter.all false
set_option maxRecDepth 100000
set_option maxHeartbeats 4000000
namespace WW
open PySem PySem.Spec PyProof.Rows L2
inductive ArgsOk (K : PySem.W.Frag) (B : Addr → Prop) (H0 S H : Hp) : List V → List Slot → Prop
  | nil : ArgsOk K B H0 S H [] []
  | cons {v : V} {s : Slot} {vs : List V} {ss : List Slot} : SlotOk K B H0 S H (some v) s → s.isOwn = false → ArgsOk K B H0 S H vs ss → ArgsOk K B H0 S H (v :: vs) (s :: ss)
section
variable (K : PySem.W.Frag) (B : Addr → Prop)
def DE {α : Type} [Enc α] (te : TE) (ρ : List Slot) (a : α) : Prop := ∀ S0 H0 S H σ, En K B S0 H0 S H σ ρ → ∀ Q : VK, (∀ v S' H', Ext B S H S' H' → Enc.rep K S' v a → Q v H') → te σ H Q
def DN {α : Type} [Enc α] (te : TE) (ρ : List Slot) (P : α → Prop) : Prop := ∀ S0 H0 S H σ, En K B S0 H0 S H σ ρ → ∀ Q : VK, (∀ v a S' H', P a → Ext B S H S' H' → Enc.rep K S' v a → Q v H') → te σ H Q
def DO {α : Type} [Enc α] (te : TE) (ρ : List Slot) (xs : List α) : Prop := ∀ S0 H0 S H σ, En K B S0 H0 S H σ ρ → ∀ Q : VK, (∀ p vs S' H', Ext B S H S' H' → H p = none → S' p = none → H' p = some (.lst vs) → Paired (Enc.rep K S') vs xs → xs.length ≤ BIG → Q (.ref p) H') → te σ H Q
def DT (tt : TT) (ρ : List Slot) (b : Bool) : Prop := ∀ S0 H0 S H σ, En K B S0 H0 S H σ ρ → ∀ Q : Bool → Hp → Prop, (∀ S' H', Ext B S H S' H' → Q b H') → tt σ H Q
def DA (ta : TA) (ρ : List Slot) (ss : List Slot) : Prop := ∀ S0 H0 S H σ, En K B S0 H0 S H σ ρ → ∀ Q : List V → Hp → Prop, (∀ vs S' H', Ext B S H S' H' → ArgsOk K B H' S' H' vs ss → Q vs H') → ta σ H Q
def DP (to : TO) (ρ : List Slot) (o : Option Int) : Prop := ∀ S0 H0 S H σ, En K B S0 H0 S H σ ρ → ∀ Q : Option Int → Hp → Prop, (∀ S' H', Ext B S H S' H' → Q o H') → to σ H Q
def Yld {α : Type} [Enc α] (S0 H0 : Hp) (J : It) (S : Hp) (xs : List α) : Prop := ∀ S1 H1, Same S S1 → Ext B S0 H0 S1 H1 →
  (∀ i x, xs[i]? = some x → J.go i H1 ∧ ∀ v H2, J.yld i H1 v H2 → ∃ S2, Ext B S1 H1 S2 H2 ∧ Enc.rep K S2 v x) ∧ J.stop xs.length H1
def DI {α : Type} [Enc α] (wi : TI) (ρ : List Slot) (xs : List α) : Prop := ∀ S0 H0 S H σ, En K B S0 H0 S H σ ρ → ∀ R : It → Hp → Prop, (∀ J S' H', Ext B S H S' H' → Yld K B S0 H0 J S' xs → R J H') → wi σ H R
def DG {α : Type} [Enc α] (g : TG) (a : α) (ρ ρ' : List Slot) (js : List Nat) : Prop := ∀ S0 H0 S H σ v, En K B S0 H0 S H σ ρ → Enc.rep K S v a → ∀ R : L2.St → Hp → Prop, (∀ σ', En K B S0 H0 S H σ' ρ' → σ'.length = σ.length → (∀ i, i ∉ js → σ'[i]? = σ[i]?) → R σ' H) → g v σ H R
structure Post where
  nx : List Slot → Prop
  rt : Slot → Prop
  bk : List Slot → Prop := fun _ => False
  ct : List Slot → Prop := fun _ => False
  px : Hp → Hp → Prop := fun _ _ => True
def DS (ts : TS) (ρ : List Slot) (Φ : Post) : Prop := ∀ S0 H0 S H σ (D : Ends), En K B S0 H0 S H σ ρ → Φ.px S0 H0 →
  (∀ ρ' σ' S' H', Φ.nx ρ' → Same S S' → En K B S0 H0 S' H' σ' ρ' → D.nx σ' H') → (∀ s v S' H', Φ.rt s → Ext B S0 H0 S' H' → SlotOk K B H0 S' H' (some v) s → D.rt v H') →
  (∀ ρ' σ' S' H', Φ.bk ρ' → Same S S' → En K B S0 H0 S' H' σ' ρ' → D.bk σ' H') → (∀ ρ' σ' S' H', Φ.ct ρ' → Same S S' → En K B S0 H0 S' H' σ' ρ' → D.ct σ' H') → ts D σ H
end
section
variable {K : PySem.W.Frag} {B : Addr → Prop} {ρ ρ' ρ1 : List Slot} {ta tb tc te : TE} {t u : TT} {α β γ : Type} {e_α : Enc α} {e_β : Enc β} {e_γ : Enc γ} {a : α} {b : β} {i j : Int}
theorem DE.is {a' : α} (h : DE K B te ρ a) (e : a = a') : DE K B te ρ a' := e ▸ h
theorem d_var {n : Nat} (h : ρ[n]? = some (.val a)) : DE K B (tVar n) ρ a := fun S0 H0 S H σ E Q q => by
  obtain ⟨v, h1, h2⟩ := E.val h
  exact ⟨v, h1, q v S H (Ext.refl E.i) h2⟩
theorem d_get {n : Nat} (h : ρ[n]? = some (.val (some a))) : DE K B (tVar n) ρ a := fun S0 H0 S H σ E Q q => by
  obtain ⟨v, h1, h2⟩ := E.val h
  exact ⟨v, h1, q v S H (Ext.refl E.i) h2⟩
theorem d_some (h : DE K B te ρ a) : DE K B te ρ (some a) := h
theorem d_int : DE K B (tC (.int i)) ρ i := fun _ _ S H _ E Q q => q _ S H (Ext.refl E.i) rfl
theorem d_bl {b : Bool} : DE K B (tC (.bl b)) ρ b := fun _ _ S H _ E Q q => q _ S H (Ext.refl E.i) rfl
theorem d_str {z : Str} : DE K B (tC (.str z)) ρ z := fun _ _ S H _ E Q q => q _ S H (Ext.refl E.i) rfl
theorem d_none : DE K B (tC .non) ρ (none : Option α) := fun _ _ S H _ E Q q => q _ S H (Ext.refl E.i) rfl
theorem d_unit : DE K B (tC .non) ρ () := fun _ _ S H _ E Q q => q _ S H (Ext.refl E.i) rfl
theorem d_op {r : R2} {c : γ} (ha : DE K B ta ρ a) (hb : DE K B tb ρ b) (hr : ∀ x y S H, Same S H → Enc.rep K S x a → Enc.rep K S y b → ∀ Q : VK, (∀ v S' H', Ext B S H S' H' → Enc.rep K S' v c → Q v H') → r x y H Q) : DE K B (tOp r ta tb) ρ c := fun S0 H0 S H σ E Q q =>
  ha S0 H0 S H σ E _ fun x S1 H1 e1 r1 => hb S0 H0 S1 H1 σ (E.go e1) _ fun y S2 H2 e2 r2 => hr x y S2 H2 e2.i (Enc.mono e2.s r1) r2 Q fun v S3 H3 e3 r3 => q v S3 H3 ((e1.trans e2).trans e3) r3
theorem d_un {r : V → Hp → VK → Prop} {c : γ} (ha : DE K B ta ρ a) (hr : ∀ x S H, Same S H → Enc.rep K S x a → ∀ Q : VK, (∀ v S' H', Ext B S H S' H' → Enc.rep K S' v c → Q v H') → r x H Q) : DE K B (tUn r ta) ρ c := fun S0 H0 S H σ E Q q =>
  ha S0 H0 S H σ E _ fun x S1 H1 e1 r1 => hr x S1 H1 e1.i r1 Q fun v S3 H3 e3 r3 => q v S3 H3 (e1.trans e3) r3
theorem d_add (ha : DE K B ta ρ i) (hb : DE K B tb ρ j) : DE K B (tOp (rI0 fun i j => .int (i + j)) ta tb) ρ (i + j) :=
  d_op ha hb fun x y S H hi r1 r2 Q q => ⟨i, j, r1, r2, q _ S H (Ext.refl hi) rfl⟩
theorem d_sub (ha : DE K B ta ρ i) (hb : DE K B tb ρ j) : DE K B (tOp (rI0 fun i j => .int (i - j)) ta tb) ρ (i - j) :=
  d_op ha hb fun x y S H hi r1 r2 Q q => ⟨i, j, r1, r2, q _ S H (Ext.refl hi) rfl⟩
theorem d_mul (ha : DE K B ta ρ i) (hb : DE K B tb ρ j) (hc : CMul i j) : DE K B (tOp (rI CMul fun i j => .int (i * j)) ta tb) ρ (i * j) :=
  d_op ha hb fun x y S H hi r1 r2 Q q => ⟨i, j, r1, r2, hc, q _ S H (Ext.refl hi) rfl⟩
theorem d_fdiv (ha : DE K B ta ρ i) (hb : DE K B tb ρ j) (hc : CDiv i j) : DE K B (tOp (rI CDiv fun i j => .int (i / j)) ta tb) ρ (i / j) :=
  d_op ha hb fun x y S H hi r1 r2 Q q => ⟨i, j, r1, r2, hc, q _ S H (Ext.refl hi) rfl⟩
theorem d_mod (ha : DE K B ta ρ i) (hb : DE K B tb ρ j) (hc : 0 < j) : DE K B (tOp (rI (fun _ j => 0 < j) fun i j => .int (i % j)) ta tb) ρ (i % j) :=
  d_op ha hb fun x y S H hi r1 r2 Q q => ⟨i, j, r1, r2, hc, q _ S H (Ext.refl hi) rfl⟩
theorem d_neg (ha : DE K B ta ρ i) : DE K B (tUn (rU fun i => .int (-i)) ta) ρ (-i) :=
  d_un ha fun x S H hi r1 Q q => ⟨i, r1, q _ S H (Ext.refl hi) rfl⟩
theorem d_lt (ha : DE K B ta ρ i) (hb : DE K B tb ρ j) : DE K B (tOp (rI0 fun i j => .bl (decide (i < j))) ta tb) ρ (decide (i < j)) :=
  d_op ha hb fun x y S H hi r1 r2 Q q => ⟨i, j, r1, r2, q _ S H (Ext.refl hi) rfl⟩
theorem d_le (ha : DE K B ta ρ i) (hb : DE K B tb ρ j) : DE K B (tOp (rI0 fun i j => .bl (decide (i ≤ j))) ta tb) ρ (decide (i ≤ j)) :=
  d_op ha hb fun x y S H hi r1 r2 Q q => ⟨i, j, r1, r2, q _ S H (Ext.refl hi) rfl⟩
theorem d_gt (ha : DE K B ta ρ i) (hb : DE K B tb ρ j) : DE K B (tOp (rI0 fun i j => .bl (decide (j < i))) ta tb) ρ (decide (j < i)) :=
  d_op ha hb fun x y S H hi r1 r2 Q q => ⟨i, j, r1, r2, q _ S H (Ext.refl hi) rfl⟩
theorem d_ge (ha : DE K B ta ρ i) (hb : DE K B tb ρ j) : DE K B (tOp (rI0 fun i j => .bl (decide (j ≤ i))) ta tb) ρ (decide (j ≤ i)) :=
  d_op ha hb fun x y S H hi r1 r2 Q q => ⟨i, j, r1, r2, q _ S H (Ext.refl hi) rfl⟩
class Flat (α : Type) [Enc α] [DecidableEq α] : Prop where
  eq : ∀ {K : PySem.W.Frag} {S : Hp} {x y : V} {a b : α}, Enc.rep K S x a → Enc.rep K S y b → scal x y = true ∧ decide (x = y) = decide (a = b)
instance : Flat Int where
  eq h1 h2 := by
    cases h1
    cases h2
    exact ⟨rfl, by simp⟩
instance : Flat Bool where
  eq h1 h2 := by
    cases h1
    cases h2
    exact ⟨rfl, by simp⟩
instance : Flat Str where
  eq h1 h2 := by
    cases h1
    cases h2
    exact ⟨rfl, by simp⟩
instance : Flat (Option Int) where
  eq {K S x y a b} h1 h2 := by
    cases a <;> cases b <;> cases h1 <;> cases h2 <;> exact ⟨rfl, by simp⟩
instance : Flat (Option Str) where
  eq {K S x y a b} h1 h2 := by
    cases a <;> cases b <;> cases h1 <;> cases h2 <;> exact ⟨rfl, by simp⟩
theorem d_eq {a a' : α} (ha : DE K B ta ρ a) (hb : DE K B tb ρ a') (inst : DecidableEq α) (fl : Flat α) : DE K B (tOp rEq ta tb) ρ (decide (a = a')) :=
  d_op ha hb fun x y S H hi r1 r2 Q q => by
    obtain ⟨h1, h2⟩ := Flat.eq r1 r2
    refine ⟨h1, ?_⟩
    rw [h2]
    exact q _ S H (Ext.refl hi) rfl
theorem d_ne {a a' : α} (ha : DE K B ta ρ a) (hb : DE K B tb ρ a') (inst : DecidableEq α) (fl : Flat α) : DE K B (tOp rNe ta tb) ρ (!decide (a = a')) :=
  d_op ha hb fun x y S H hi r1 r2 Q q => by
    obtain ⟨h1, h2⟩ := Flat.eq r1 r2
    refine ⟨h1, ?_⟩
    rw [h2]
    exact q _ S H (Ext.refl hi) rfl
class NotN (α : Type) [Enc α] : Prop where
  ne : ∀ {K : PySem.W.Frag} {S : Hp} {x : V} {a : α}, Enc.rep K S x a → x ≠ .non
instance : NotN Int := ⟨fun h => by cases h; exact fun z => nomatch z⟩
instance : NotN Bool := ⟨fun h => by cases h; exact fun z => nomatch z⟩
instance : NotN Str := ⟨fun h => by cases h; exact fun z => nomatch z⟩
instance : NotN (List α) := ⟨fun h => by obtain ⟨_, p, vs, rfl, _⟩ := h; exact fun z => nomatch z⟩
instance : NotN (L α) := ⟨fun h => by obtain ⟨_, p, vs, rfl, _⟩ := h; exact fun z => nomatch z⟩
instance : NotN (U α) := ⟨fun h => by obtain ⟨_, p, vs, rfl, _⟩ := h; exact fun z => nomatch z⟩
instance : NotN (α × β) := ⟨fun h => by obtain ⟨p, v1, v2, rfl, _⟩ := h; exact fun z => nomatch z⟩
instance : NotN (T3 α β γ) := ⟨fun h => by obtain ⟨p, v1, v2, v3, rfl, _⟩ := h; exact fun z => nomatch z⟩
theorem rep_isN {S : Hp} {x : V} {o : Option α} (h : Enc.rep K S x o) (hn : NotN α) : decide (x = .non) = o.isNone := by
  cases o with
  | none => cases h; rfl
  | some a => exact decide_eq_false (NotN.ne (a := a) h)
theorem d_isN {o : Option α} (ha : DE K B ta ρ o) (hn : NotN α) : DE K B (tOp (fun x y H Q => y = .non ∧ Q (.bl (decide (x = .non))) H) ta (tC .non)) ρ o.isNone :=
  d_op ha d_unit fun x y S H hi r1 r2 Q q => ⟨r2, by rw [rep_isN r1 hn]; exact q _ S H (Ext.refl hi) rfl⟩
theorem d_notN {o : Option α} (ha : DE K B ta ρ o) (hn : NotN α) : DE K B (tOp (fun x y H Q => y = .non ∧ Q (.bl (!decide (x = .non))) H) ta (tC .non)) ρ (!o.isNone) :=
  d_op ha d_unit fun x y S H hi r1 r2 Q q => ⟨r2, by rw [rep_isN r1 hn]; exact q _ S H (Ext.refl hi) rfl⟩
theorem DT.is {b c : Bool} (h : DT K B t ρ b) (e : b = c) : DT K B t ρ c := e ▸ h
theorem dt_test {b : Bool} (h : DE K B te ρ b) : DT K B (tTest te) ρ b := fun S0 H0 S H σ E Q q => h S0 H0 S H σ E _ fun v S1 H1 e r => ⟨b, r, q S1 H1 e⟩
theorem dt_B {b : Bool} (h : DE K B te ρ b) : DT K B (tB te) ρ b := fun S0 H0 S H σ E Q q => h S0 H0 S H σ E _ fun v S1 H1 e r => ⟨b, r, q S1 H1 e⟩
theorem dt_not {b : Bool} (h : DT K B t ρ b) : DT K B (tNot t) ρ (!b) := fun S0 H0 S H σ E Q q => h S0 H0 S H σ E _ fun S1 H1 e => q S1 H1 e
theorem dt_yes : DT K B tYes ρ true := fun _ _ S H _ E Q q => q S H (Ext.refl E.i)
theorem dt_and {b c : Bool} (h1 : DT K B t ρ b) (h2 : b = true → DT K B u ρ c) : DT K B (tAnd t u) ρ (b && c) := fun S0 H0 S H σ E Q q => h1 S0 H0 S H σ E _ fun S1 H1 e => by
  cases b with
  | true => exact h2 rfl S0 H0 S1 H1 σ (E.go e) Q fun S2 H2 e2 => q S2 H2 (e.trans e2)
  | false => exact q S1 H1 e
theorem dt_or {b c : Bool} (h1 : DT K B t ρ b) (h2 : b = false → DT K B u ρ c) : DT K B (tOr t u) ρ (b || c) := fun S0 H0 S H σ E Q q => h1 S0 H0 S H σ E _ fun S1 H1 e => by
  cases b with
  | true => exact q S1 H1 e
  | false => exact h2 rfl S0 H0 S1 H1 σ (E.go e) Q fun S2 H2 e2 => q S2 H2 (e.trans e2)
theorem d_andV {b c : Bool} (h1 : DE K B ta ρ b) (h2 : b = true → DE K B tb ρ c) : DE K B (tAndV ta tb) ρ (b && c) := fun S0 H0 S H σ E Q q => h1 S0 H0 S H σ E _ fun v S1 H1 e r => ⟨b, r, by
  cases b with
  | true => exact h2 rfl S0 H0 S1 H1 σ (E.go e) Q fun v S2 H2 e2 r2 => q v S2 H2 (e.trans e2) r2
  | false => exact q _ S1 H1 e rfl⟩
theorem d_orV {b c : Bool} (h1 : DE K B ta ρ b) (h2 : b = false → DE K B tb ρ c) : DE K B (tOrV ta tb) ρ (b || c) := fun S0 H0 S H σ E Q q => h1 S0 H0 S H σ E _ fun v S1 H1 e r => ⟨b, r, by
  cases b with
  | true => exact q _ S1 H1 e rfl
  | false => exact h2 rfl S0 H0 S1 H1 σ (E.go e) Q fun v S2 H2 e2 r2 => q v S2 H2 (e.trans e2) r2⟩
theorem dt_orT (h1 : DT K B t ρ true) : DT K B (tOr t u) ρ true := dt_or (c := false) h1 fun h => nomatch h
theorem d_notV {b : Bool} (h1 : DE K B ta ρ b) : DE K B (tNotV ta) ρ (!b) := fun S0 H0 S H σ E Q q => h1 S0 H0 S H σ E _ fun v S1 H1 e r => ⟨b, r, q _ S1 H1 e rfl⟩
theorem d_if {c : Bool} {a1 a2 : α} (h : DT K B t ρ c) (h1 : c = true → DE K B ta ρ a1) (h2 : c = false → DE K B tb ρ a2) : DE K B (tIf t ta tb) ρ (if c = true then a1 else a2) := fun S0 H0 S H σ E Q q => h S0 H0 S H σ E _ fun S1 H1 e => by
  cases c with
  | true => exact h1 rfl S0 H0 S1 H1 σ (E.go e) Q fun v S2 H2 e2 r2 => q v S2 H2 (e.trans e2) r2
  | false => exact h2 rfl S0 H0 S1 H1 σ (E.go e) Q fun v S2 H2 e2 r2 => q v S2 H2 (e.trans e2) r2
theorem d_ifE {c : Bool} (h : DT K B t ρ c) (h1 : c = true → DE K B ta ρ a) (h2 : c = false → DE K B tb ρ a) : DE K B (tIf t ta tb) ρ a := fun S0 H0 S H σ E Q q => h S0 H0 S H σ E _ fun S1 H1 e => by
  cases c with
  | true => exact h1 rfl S0 H0 S1 H1 σ (E.go e) Q fun v S2 H2 e2 r2 => q v S2 H2 (e.trans e2) r2
  | false => exact h2 rfl S0 H0 S1 H1 σ (E.go e) Q fun v S2 H2 e2 r2 => q v S2 H2 (e.trans e2) r2
theorem d_chain {r r' : R2} {x : β} {y : γ} {k c : Bool} (ha : DE K B ta ρ a) (hb : DE K B tb ρ x) (hc : k = true → DE K B tc ρ y)
    (hr : ∀ v w S H, Same S H → Enc.rep K S v a → Enc.rep K S w x → ∀ Q : VK, Q (.bl k) H → r v w H Q) (hr' : ∀ v w S H, Same S H → Enc.rep K S v x → Enc.rep K S w y → ∀ Q : VK, Q (.bl c) H → r' v w H Q) : DE K B (tChain r r' ta tb tc) ρ (k && c) := fun S0 H0 S H σ E Q q =>
  ha S0 H0 S H σ E _ fun v S1 H1 e1 r1 => hb S0 H0 S1 H1 σ (E.go e1) _ fun w S2 H2 e2 r2 => hr v w S2 H2 e2.i (Enc.mono e2.s r1) r2 _ ⟨k, rfl, by
    cases k with
    | true => exact hc rfl S0 H0 S2 H2 σ (E.go (e1.trans e2)) _ fun z S3 H3 e3 r3 => hr' w z S3 H3 e3.i (Enc.mono e3.s r2) r3 Q (q _ S3 H3 ((e1.trans e2).trans e3) rfl)
    | false => exact q _ S2 H2 (e1.trans e2) rfl⟩
theorem d_chLtLe {k : Int} (ha : DE K B ta ρ i) (hb : DE K B tb ρ j) (hc : DE K B tc ρ k) : DE K B (tChain (rI0 fun i j => .bl (decide (i < j))) (rI0 fun i j => .bl (decide (i ≤ j))) ta tb tc) ρ (decide (i < j) && decide (j ≤ k)) :=
  d_chain ha hb (fun _ => hc) (fun v w S H _ h1 h2 Q q => ⟨i, j, h1, h2, q⟩) fun v w S H _ h1 h2 Q q => ⟨j, k, h1, h2, q⟩
theorem d_chLtLt {k : Int} (ha : DE K B ta ρ i) (hb : DE K B tb ρ j) (hc : DE K B tc ρ k) : DE K B (tChain (rI0 fun i j => .bl (decide (i < j))) (rI0 fun i j => .bl (decide (i < j))) ta tb tc) ρ (decide (i < j) && decide (j < k)) :=
  d_chain ha hb (fun _ => hc) (fun v w S H _ h1 h2 Q q => ⟨i, j, h1, h2, q⟩) fun v w S H _ h1 h2 Q q => ⟨j, k, h1, h2, q⟩
theorem d_chLeLt {k : Int} (ha : DE K B ta ρ i) (hb : DE K B tb ρ j) (hc : DE K B tc ρ k) : DE K B (tChain (rI0 fun i j => .bl (decide (i ≤ j))) (rI0 fun i j => .bl (decide (i < j))) ta tb tc) ρ (decide (i ≤ j) && decide (j < k)) :=
  d_chain ha hb (fun _ => hc) (fun v w S H _ h1 h2 Q q => ⟨i, j, h1, h2, q⟩) fun v w S H _ h1 h2 Q q => ⟨j, k, h1, h2, q⟩
theorem da_nil : DA K B tNil ρ [] := fun _ _ S H _ E Q q => q [] S H (Ext.refl E.i) .nil
theorem da_cons {tr : TA} {ss : List Slot} (h : DE K B te ρ a) (hr : DA K B tr ρ ss) : DA K B (tCons te tr) ρ (.val a :: ss) := fun S0 H0 S H σ E Q q =>
  h S0 H0 S H σ E _ fun v S1 H1 e1 r1 => hr S0 H0 S1 H1 σ (E.go e1) _ fun vs S2 H2 e2 r2 => q _ S2 H2 (e1.trans e2) (.cons (Enc.mono e2.s r1) rfl r2)
theorem da_box {n : Nat} {tr : TA} {ss : List Slot} (h : ρ[n]? = some .box) (hr : DA K B tr ρ ss) : DA K B (tCons (tVar n) tr) ρ (.box :: ss) := fun S0 H0 S H σ E Q q => by
  obtain ⟨p, h1, h2⟩ := E.box h
  exact ⟨_, h1, hr S0 H0 S H σ E _ fun vs S2 H2 e2 r2 => q _ S2 H2 e2 (.cons ⟨p, rfl, h2⟩ rfl r2)⟩
def DL {α : Type} [Enc α] (K : PySem.W.Frag) (B : Addr → Prop) (ta : TA) (ρ : List Slot) (xs : List α) : Prop := ∀ S0 H0 S H σ, En K B S0 H0 S H σ ρ → ∀ Q : List V → Hp → Prop, (∀ vs S' H', Ext B S H S' H' → Paired (Enc.rep K S') vs xs → Q vs H') → ta σ H Q
theorem dl_nil : DL K B tNil ρ ([] : List α) := fun _ _ S H _ E Q q => q [] S H (Ext.refl E.i) .nil
theorem dl_cons {tr : TA} {xs : List α} (h : DE K B te ρ a) (hr : DL K B tr ρ xs) : DL K B (tCons te tr) ρ (a :: xs) := fun S0 H0 S H σ E Q q =>
  h S0 H0 S H σ E _ fun v S1 H1 e1 r1 => hr S0 H0 S1 H1 σ (E.go e1) _ fun vs S2 H2 e2 r2 => q _ S2 H2 (e1.trans e2) (.cons (Enc.mono e2.s r1) r2)
theorem dl_star {tr : TA} {xs ys : List α} (h : DE K B te ρ xs) (hr : DL K B tr ρ ys) : DL K B (StX.tStar K te tr) ρ (xs ++ ys) := fun S0 H0 S H σ E Q q =>
  h S0 H0 S H σ E _ fun v S1 H1 e1 r1 => by
    obtain ⟨hl, p, vs, rfl, hq, hp⟩ := r1
    exact ⟨p, vs, rfl, Or.symm (hq.ex e1.i), hr S0 H0 S1 H1 σ (E.go e1) _ fun ws S2 H2 e2 r2 => q _ S2 H2 (e1.trans e2) (Paired.app (Paired.mono (fun _ _ => Enc.mono e2.s) hp) r2)⟩
theorem d_pair (ha : DE K B ta ρ a) (hb : DE K B tb ρ b) : DE K B (tTup (tCons ta (tCons tb tNil))) ρ (a, b) := fun S0 H0 S H σ E Q q =>
  ha S0 H0 S H σ E _ fun x S1 H1 e1 r1 => hb S0 H0 S1 H1 σ (E.go e1) _ fun y S2 H2 e2 r2 => ⟨by show 2 ≤ sizeLine; decide, fun p hp => by
    have e3 : Ext B S2 H2 (upd S2 p (.tup [x, y])) (upd H2 p (.tup [x, y])) := Ext.new e2.i hp
    exact q _ _ _ ((e1.trans e2).trans e3) ⟨p, x, y, rfl, .inl (.inl upd_same), Enc.mono (e2.s.trans e3.s) r1, Enc.mono e3.s r2⟩⟩
theorem d_triple {c : γ} (ha : DE K B ta ρ a) (hb : DE K B tb ρ b) (hc : DE K B tc ρ c) : DE K B (tTup (tCons ta (tCons tb (tCons tc tNil)))) ρ (T3.mk a b c) := fun S0 H0 S H σ E Q q =>
  ha S0 H0 S H σ E _ fun x S1 H1 e1 r1 => hb S0 H0 S1 H1 σ (E.go e1) _ fun y S2 H2 e2 r2 => hc S0 H0 S2 H2 σ (E.go (e1.trans e2)) _ fun z S3 H3 e3 r3 => ⟨by show 3 ≤ sizeLine; decide, fun p hp => by
    have e4 : Ext B S3 H3 (upd S3 p (.tup [x, y, z])) (upd H3 p (.tup [x, y, z])) := Ext.new e3.i hp
    exact q _ _ _ (((e1.trans e2).trans e3).trans e4) ⟨p, x, y, z, rfl, .inl (.inl upd_same), Enc.mono ((e2.s.trans e3.s).trans e4.s) r1, Enc.mono (e3.s.trans e4.s) r2, Enc.mono e4.s r3⟩⟩
theorem d_tupU {tr : TA} {xs : List α} (h : DL K B tr ρ xs) (hl : xs.length ≤ BIG) : DE K B (tTup tr) ρ (α := U α) xs := fun S0 H0 S H σ E Q q =>
  h S0 H0 S H σ E _ fun vs S1 H1 e1 r1 => ⟨by rw [r1.length]; exact Nat.le_trans hl big_line, fun p hp => by
    have e2 : Ext B S1 H1 (upd S1 p (.tup vs)) (upd H1 p (.tup vs)) := Ext.new e1.i hp
    exact q _ _ _ (e1.trans e2) ⟨hl, p, vs, rfl, .inl (.inl upd_same), Paired.mono (fun _ _ => Enc.mono e2.s) r1⟩⟩
theorem do_lst {tr : TA} {xs : List α} (h : DL K B tr ρ xs) (hl : xs.length ≤ BIG) : DO K B (tLst tr) ρ xs := fun S0 H0 S H σ E Q q =>
  h S0 H0 S H σ E _ fun vs S1 H1 e1 r1 => ⟨by rw [r1.length]; exact Nat.le_trans hl big_line, fun p hp => q p vs S1 _ (e1.trans (Ext.priv e1.i hp)) (e1.free E.i hp) (e1.i.free hp) upd_same r1 hl⟩
theorem DO.l {xs : List α} (h : DO K B te ρ xs) : DE K B te ρ (α := L α) xs := fun S0 H0 S H σ E Q q =>
  h S0 H0 S H σ E _ fun p vs S1 H1 e1 hp hs hh r hl => q _ _ _ (e1.frz hp E.i hh hs) ⟨hl, p, vs, rfl, upd_same, Paired.mono (fun _ _ => Enc.mono (same_new hs)) r⟩
theorem d_Lq {xs : List α} (h : DE K B te ρ (α := L α) xs) : DE K B te ρ xs := fun S0 H0 S H σ E Q q =>
  h S0 H0 S H σ E _ fun v S1 H1 e1 ⟨hl, p, vs, e, hh, r⟩ => q v S1 H1 e1 ⟨hl, p, vs, e, .l hh, r⟩
theorem d_Uq {xs : List α} (h : DE K B te ρ (α := U α) xs) : DE K B te ρ xs := fun S0 H0 S H σ E Q q =>
  h S0 H0 S H σ E _ fun v S1 H1 e1 ⟨hl, p, vs, e, hh, r⟩ => q v S1 H1 e1 ⟨hl, p, vs, e, .inr hh, r⟩
theorem DO.q {xs : List α} (h : DO K B te ρ xs) : DE K B te ρ xs := d_Lq h.l
theorem d_len {xs : List α} (h : DE K B te ρ xs) : DE K B (tCB (rLenQ K) (tCons te tNil)) ρ (xs.length : Int) := fun S0 H0 S H σ E Q q =>
  h S0 H0 S H σ E _ fun v S1 H1 e1 ⟨hl, p, vs, e, hh, r⟩ => by
    subst e
    refine ⟨p, vs, rfl, hh.ex e1.i, ?_⟩
    rw [r.length]
    exact q _ S1 H1 e1 rfl
theorem d_lenO {n : Nat} {xs : List α} (h : ρ[n]? = some (.own xs)) : DE K B (tCB (rLenQ K) (tCons (tVar n) tNil)) ρ (xs.length : Int) := fun S0 H0 S H σ E Q q => by
  obtain ⟨hl, p, vs, e1, h0, hs, hh, r⟩ := E.own h
  refine ⟨_, e1, p, vs, rfl, .l hh, ?_⟩
  rw [r.length]
  exact q _ S H (Ext.refl E.i) rfl
theorem paired_atI {S : Hp} : ∀ {vs : List V} {xs : List α} {i : Int} {x : α}, Paired (Enc.rep K S) vs xs → atI xs i = some x → ∃ v, atI vs i = some v ∧ Enc.rep K S v x := fun {vs xs i x} r h => by
  unfold atI at h ⊢
  rw [r.length]
  cases q : ixN xs.length i with
  | none => rw [q] at h; cases h
  | some j =>
    rw [q] at h
    exact Paired.at r h
theorem d_ix {xs : List α} {x : α} (h : DE K B ta ρ xs) (hi : DE K B tb ρ i) (hx : atI xs i = some x) : DE K B (tOp (rIxQ K) ta tb) ρ x :=
  d_op h hi fun v w S H sm ⟨hl, p, vs, e, hh, r⟩ r2 Q q => by
    obtain ⟨y, h1, h2⟩ := paired_atI r hx
    exact ⟨p, vs, i, y, e, r2, hh.ex sm, h1, q y S H (Ext.refl sm) h2⟩
theorem d_ixO {n : Nat} {xs : List α} {x : α} (h : ρ[n]? = some (.own xs)) (hi : DE K B tb ρ i) (hx : atI xs i = some x) : DE K B (tOp (rIxQ K) (tVar n) tb) ρ x := fun S0 H0 S H σ E Q q => by
  obtain ⟨hl, p, vs, e1, h0, hs, hh, r⟩ := E.own h
  refine ⟨_, e1, ?_⟩
  refine hi S0 H0 S H σ E _ fun w S1 H1 ex r1 => ?_
  obtain ⟨_, p', vs', e1', _, _, hh', r'⟩ := (E.go ex).own h
  rw [e1] at e1'
  cases e1'
  obtain ⟨y, h1, h2⟩ := paired_atI r' hx
  exact ⟨p, vs', i, y, rfl, r1, .l hh', h1, q y S1 H1 ex h2⟩
def cutA {α : Type} (xs : List α) (lo hi : Option Int) : List α := (xs.drop (HT.sIx xs.length 0 lo)).take (HT.sIx xs.length xs.length hi - HT.sIx xs.length 0 lo)
theorem cutA_len {α : Type} (xs : List α) (lo hi : Option Int) : (cutA xs lo hi).length ≤ xs.length := by
  unfold cutA
  rw [List.length_take, List.length_drop]
  omega
theorem paired_cut {S : Hp} {vs : List V} {xs : List α} {lo hi : Option Int} (r : Paired (Enc.rep K S) vs xs) : Paired (Enc.rep K S) (cutV vs lo hi) (cutA xs lo hi) := by
  unfold cutV cutA
  rw [r.length]
  exact Paired.tk _ (Paired.dr _ r)
theorem dp_none : DP K B tNoPart ρ none := fun _ _ S H _ E Q q => q S H (Ext.refl E.i)
theorem dp_some (h : DE K B te ρ i) : DP K B (tPart te) ρ (some i) := fun S0 H0 S H σ E Q q => h S0 H0 S H σ E _ fun v S1 H1 e r => ⟨i, r, q S1 H1 e⟩
theorem d_slice {tl th : TO} {xs : List α} {lo hi : Option Int} (h : DE K B te ρ xs) (hl : DP K B tl ρ lo) (hh : DP K B th ρ hi) : DE K B (tSl (rSlQ K) te tl th) ρ (cutA xs lo hi) := fun S0 H0 S H σ E Q q =>
  h S0 H0 S H σ E _ fun v S1 H1 e1 r1 => hl S0 H0 S1 H1 σ (E.go e1) _ fun S2 H2 e2 => hh S0 H0 S2 H2 σ (E.go (e1.trans e2)) _ fun S3 H3 e3 => by
    have e13 := (e1.trans e2).trans e3
    obtain ⟨hl, p, vs, rfl, hq, r⟩ := Enc.mono (e2.s.trans e3.s) r1
    have lc : (cutA xs lo hi).length ≤ BIG := Nat.le_trans (cutA_len _ _ _) hl
    rcases hq with hq | hq
    · refine .inl ⟨p, vs, rfl, Evl.ex_l e3.i hq, fun w hw => ?_⟩
      have e4 : Ext B S3 H3 (upd S3 w (.lst (cutV vs lo hi))) (upd H3 w (.lst (cutV vs lo hi))) := Ext.new e3.i hw
      exact q _ _ _ (e13.trans e4) ⟨lc, w, _, rfl, .l upd_same, Paired.mono (fun _ _ => Enc.mono e4.s) (paired_cut r)⟩
    · by_cases hw : HT.sIx vs.length 0 lo = 0 ∧ HT.sIx vs.length vs.length hi = vs.length
      · refine .inr (.inr ⟨p, vs, rfl, Evl.ex_t e3.i hq, hw, q _ S3 H3 e13 ⟨lc, p, vs, rfl, .inr hq, ?_⟩⟩)
        have ev : cutV vs lo hi = vs := by
          unfold cutV
          rw [hw.1, hw.2]
          simp
        have r' := paired_cut (lo := lo) (hi := hi) r
        rw [ev] at r'
        exact r'
      · refine .inr (.inl ⟨p, vs, rfl, Evl.ex_t e3.i hq, hw, fun w hw => ?_⟩)
        have e4 : Ext B S3 H3 (upd S3 w (.tup (cutV vs lo hi))) (upd H3 w (.tup (cutV vs lo hi))) := Ext.new e3.i hw
        exact q _ _ _ (e13.trans e4) ⟨lc, w, _, rfl, .t upd_same, Paired.mono (fun _ _ => Enc.mono e4.s) (paired_cut r)⟩
theorem d_tuple {xs : List α} (h : DE K B te ρ xs) : DE K B (tCB (rTupQ K) (tCons te tNil)) ρ (α := U α) xs := fun S0 H0 S H σ E Q q =>
  h S0 H0 S H σ E _ fun v S1 H1 e1 ⟨hl, p, vs, e, hh, r⟩ => by
    subst e
    rcases hh with hh | hh
    · refine ⟨⟨p, vs, rfl, .inl ⟨Evl.ex_l e1.i hh, fun w hw => ?_⟩⟩⟩
      have e4 : Ext B S1 H1 (upd S1 w (.tup vs)) (upd H1 w (.tup vs)) := Ext.new e1.i hw
      exact q _ _ _ (e1.trans e4) ⟨hl, w, _, rfl, .inl (.inl upd_same), Paired.mono (fun _ _ => Enc.mono e4.s) r⟩
    · exact ⟨⟨p, vs, rfl, .inr ⟨Evl.ex_t e1.i hh, q _ S1 H1 e1 ⟨hl, p, vs, rfl, hh, r⟩⟩⟩⟩
theorem do_list {xs : List α} (h : DE K B te ρ xs) : DO K B (tCB (rListQ K) (tCons te tNil)) ρ xs := fun S0 H0 S H σ E Q q =>
  h S0 H0 S H σ E _ fun v S1 H1 e1 ⟨hl, p, vs, e, hh, r⟩ => by
    subst e
    exact ⟨p, vs, rfl, hh.ex e1.i, fun w hw => q w vs S1 _ (e1.trans (Ext.priv e1.i hw)) (e1.free E.i hw) (e1.i.free hw) upd_same r hl⟩
theorem do_cat {xs ys : List α} (h1 : DE K B ta ρ (α := L α) xs) (h2 : DE K B tb ρ (α := L α) ys) (hl : xs.length + ys.length ≤ BIG) : DO K B (tOp rCat ta tb) ρ (xs ++ ys) := fun S0 H0 S H σ E Q q =>
  h1 S0 H0 S H σ E _ fun v S1 H1 e1 r1 => h2 S0 H0 S1 H1 σ (E.go e1) _ fun w S2 H2 e2 ⟨l2, p2, vs2, z2, hh2, r2⟩ => by
    obtain ⟨l1, p1, vs1, z1, hh1, r1'⟩ := Enc.mono e2.s r1
    subst z1
    subst z2
    have r := Paired.app r1' r2
    refine ⟨p1, p2, vs1, vs2, rfl, rfl, e2.i _ _ hh1, e2.i _ _ hh2, ?_, fun p hp => q p _ S2 _ ((e1.trans e2).trans (Ext.priv e2.i hp)) ((e1.trans e2).free E.i hp) (e2.i.free hp) upd_same r ?_⟩
    · rw [r1'.length, r2.length]
      exact Nat.le_trans hl big_line
    · rw [List.length_append]
      exact hl
end
end WW
set_option Elab.async false
set_option linter.all false
set_option maxRecDepth 100000
set_option maxHeartbeats 4000000
namespace WW
open PySem PySem.Spec PyProof.Rows L2
def wipeS (ρ : List Slot) : List Nat → List Slot
  | [] => ρ
  | v :: vs => (wipeS ρ vs).set v .no
theorem wipe_off {σ : L2.St} {i : Nat} : ∀ {vs : List Nat}, i ∉ vs → (wipe σ vs)[i]? = σ[i]?
  | [], _ => rfl
  | v :: vs, h => by
    rw [List.mem_cons, not_or] at h
    show ((wipe σ vs).set v none)[i]? = σ[i]?
    rw [List.getElem?_set_ne (Ne.symm h.1)]
    exact wipe_off h.2
theorem wipe_on {σ : L2.St} {i : Nat} (hi : i < σ.length) : ∀ {vs : List Nat}, i ∈ vs → (wipe σ vs)[i]? = some none
  | v :: vs, h => by
    show ((wipe σ vs).set v none)[i]? = some none
    by_cases z : v = i
    · subst z
      rw [List.getElem?_set_self (by rw [wipe_length]; exact hi)]
    · rw [List.getElem?_set_ne z]
      exact wipe_on hi ((List.mem_cons.mp h).resolve_left (Ne.symm z))
theorem wipe_eq {σ σ' : L2.St} {vs : List Nat} (hl : σ'.length = σ.length) (h : ∀ i, i ∉ vs → σ'[i]? = σ[i]?) : wipe σ' vs = wipe σ vs := by
  refine List.ext_getElem? fun i => ?_
  by_cases hi : i < σ.length
  · by_cases hv : i ∈ vs
    · rw [wipe_on hi hv, wipe_on (by rw [hl]; exact hi) hv]
    · rw [wipe_off hv, wipe_off hv, h i hv]
  · rw [List.getElem?_eq_none (by rw [wipe_length, hl]; omega), List.getElem?_eq_none (by rw [wipe_length]; omega)]
theorem wipe_wipe {σ : L2.St} {vs : List Nat} : wipe (wipe σ vs) vs = wipe σ vs := wipe_eq (wipe_length σ vs) fun i hi => wipe_off hi
section
variable {K : PySem.W.Frag} {B : Addr → Prop} {ρ ρ' ρ1 : List Slot} {ta tb tc te : TE} {t u : TT} {α β γ : Type} {e_α : Enc α} {e_β : Enc β} {e_γ : Enc γ} {a : α} {b : β} {i j : Int}
theorem En.wp {S0 H0 S H : Hp} {σ : L2.St} (E : En K B S0 H0 S H σ ρ) : ∀ vs : List Nat, En K B S0 H0 S H (wipe σ vs) (wipeS ρ vs)
  | [] => E
  | v :: vs => (E.wp vs).set (i := v) (o := none) (s := .no) trivial rfl
theorem Ext.mut {S H S1 H1 : Hp} {D : Addr} {o : HO} (e : Ext B S H S1 H1) (h : H D = none) (h1 : S1 D = none) : Ext B S H S1 (upd H1 D o) := by
  refine ⟨e.s, fun a u q => ?_, fun a q1 q2 => ?_⟩
  · rw [upd_ne (fun z => by rw [z, h1] at q; cases q)]
    exact e.i _ _ q
  · rw [upd_ne (fun z => q2 (by rw [z]; exact h))]
    exact e.p a q1 q2
theorem di_seq {xs : List α} (h : DE K B te ρ xs) : DI K B (iSeq K te) ρ xs := fun S0 H0 S H σ E R q =>
  h S0 H0 S H σ E _ fun v S1 H1 e1 ⟨hl, p, vs, e, hh, r⟩ => by
    refine ⟨p, e, ?_⟩
    rcases hh with hh | hh
    · refine .inl ⟨⟨vs, Evl.ex_l e1.i hh⟩, q _ S1 H1 e1 fun S2 H2 s2 x2 => have i2 := x2.i; ⟨fun i x hx => ?_, vs, Evl.ex_l (s2.trans i2) hh, by rw [r.length]; exact Nat.le_refl _⟩⟩
      obtain ⟨w, h1, h2⟩ := Paired.at r hx
      refine ⟨⟨vs, w, Evl.ex_l (s2.trans i2) hh, h1⟩, fun v H3 hy => ⟨S2, ?_, ?_⟩⟩
      · rw [hy.1]
        exact Ext.refl i2
      · have z := hy.2 vs (Evl.ex_l (s2.trans i2) hh)
        rw [h1] at z
        cases z
        exact Enc.mono s2 h2
    · refine .inr ⟨⟨vs, Evl.ex_t e1.i hh⟩, q _ S1 H1 e1 fun S2 H2 s2 x2 => have i2 := x2.i; ⟨fun i x hx => ?_, vs, Evl.ex_t (s2.trans i2) hh, by rw [r.length]; exact Nat.le_refl _⟩⟩
      obtain ⟨w, h1, h2⟩ := Paired.at r hx
      refine ⟨⟨vs, w, Evl.ex_t (s2.trans i2) hh, h1⟩, fun v H3 hy => ⟨S2, ?_, ?_⟩⟩
      · rw [hy.1]
        exact Ext.refl i2
      · have z := hy.2 vs (Evl.ex_t (s2.trans i2) hh)
        rw [h1] at z
        cases z
        exact Enc.mono s2 h2
def rg (lo hi : Int) : List Int := (List.range (hi - lo).toNat).map fun i : Nat => lo + (i : Int)
theorem rg_len (lo hi : Int) : (rg lo hi).length = (hi - lo).toNat := by
  unfold rg
  rw [List.length_map, List.length_range]
theorem rg_at {lo hi : Int} {i : Nat} {x : Int} (h : (rg lo hi)[i]? = some x) : x = lo + i ∧ lo ≤ x ∧ x < hi := by
  unfold rg at h
  rw [List.getElem?_map] at h
  by_cases hi' : i < (hi - lo).toNat
  · rw [List.getElem?_range hi'] at h
    have h : some (lo + (i : Int)) = some x := h
    cases h
    omega
  · rw [List.getElem?_eq_none (by rw [List.length_range]; omega)] at h
    cases h
theorem rg_mem {lo hi x : Int} : x ∈ rg lo hi ↔ lo ≤ x ∧ x < hi := by
  unfold rg
  rw [List.mem_map]
  constructor
  · rintro ⟨i, h1, rfl⟩
    rw [List.mem_range] at h1
    omega
  · rintro ⟨h1, h2⟩
    exact ⟨(x - lo).toNat, List.mem_range.mpr (by omega), by omega⟩
theorem yld_rg {lo hi : Int} {S S0 H0 : Hp} : Yld K B S0 H0 (Itr lo (hi - lo).toNat) S (rg lo hi) := fun S1 H1 _ x1 => by
  have i1 := x1.i
  refine ⟨fun i x hx => ?_, by show (hi - lo).toNat ≤ _; rw [rg_len]; exact Nat.le_refl _⟩
  have l := (List.getElem?_eq_some_iff.mp hx).1
  rw [rg_len] at l
  refine ⟨l, fun v H2 hy => ⟨S1, ?_, ?_⟩⟩
  · rw [hy.1]
    exact Ext.refl i1
  · show v = .int x
    rw [hy.2, (rg_at hx).1]
theorem di_rng1 (h : DE K B te ρ j) (h1 : -(2 ^ 62) ≤ j) (h2 : j < 2 ^ 62) : DI K B (iRng1 (tCons te tNil)) ρ (rg 0 j) := fun S0 H0 S H σ E R q =>
  h S0 H0 S H σ E _ fun v S1 H1 e1 r => ⟨j, by cases r; rfl, h1, h2, by
    have z := q (Itr 0 (j - 0).toNat) S1 H1 e1 yld_rg
    rw [Int.sub_zero] at z
    exact z⟩
theorem dg_name {n : Nat} : DG K B (gName n) a ρ (ρ.set n (.val a)) [n] := fun S0 H0 S H σ v E r R q =>
  q _ (E.setV r) (List.length_set ..) fun i hi => by
    rw [List.mem_singleton] at hi
    rw [List.getElem?_set_ne (Ne.symm hi)]
theorem DG.pair {g g' : TG} {ρ2 : List Slot} {js js' : List Nat} (h1 : DG K B g a ρ ρ1 js) (h2 : DG K B g' b ρ1 ρ2 js') : DG K B (gTup K 2 (gCons g (gCons g' gNil))) (a, b) ρ ρ2 (js ++ js') := fun S0 H0 S H σ v E r R q => by
  obtain ⟨p, v1, v2, rfl, hq, r1, r2⟩ := r
  refine ⟨p, [v1, v2], rfl, Evl.ex_t E.i hq, rfl, v1, [v2], rfl, ?_⟩
  refine h1 S0 H0 S H σ v1 E r1 _ fun σ1 E1 l1 f1 => ⟨v2, [], rfl, ?_⟩
  refine h2 S0 H0 S H σ1 v2 E1 r2 _ fun σ2 E2 l2 f2 => ⟨rfl, q σ2 E2 (l2.trans l1) fun i hi => ?_⟩
  rw [List.mem_append, not_or] at hi
  rw [f2 i hi.2, f1 i hi.1]
theorem DG.trip {g g' g'' : TG} {c : γ} {ρ2 ρ3 : List Slot} {js js' js'' : List Nat} (h1 : DG K B g a ρ ρ1 js) (h2 : DG K B g' b ρ1 ρ2 js') (h3 : DG K B g'' c ρ2 ρ3 js'') : DG K B (gTup K 3 (gCons g (gCons g' (gCons g'' gNil)))) (T3.mk a b c) ρ ρ3 (js ++ (js' ++ js'')) := fun S0 H0 S H σ v E r R q => by
  obtain ⟨p, v1, v2, v3, rfl, hq, r1, r2, r3⟩ := r
  refine ⟨p, [v1, v2, v3], rfl, Evl.ex_t E.i hq, rfl, v1, [v2, v3], rfl, ?_⟩
  refine h1 S0 H0 S H σ v1 E r1 _ fun σ1 E1 l1 f1 => ⟨v2, [v3], rfl, ?_⟩
  refine h2 S0 H0 S H σ1 v2 E1 r2 _ fun σ2 E2 l2 f2 => ⟨v3, [], rfl, ?_⟩
  refine h3 S0 H0 S H σ2 v3 E2 r3 _ fun σ3 E3 l3 f3 => ⟨rfl, q σ3 E3 ((l3.trans l2).trans l1) fun i hi => ?_⟩
  rw [List.mem_append, not_or, List.mem_append, not_or] at hi
  rw [f3 i hi.2.2, f2 i hi.2.1, f1 i hi.1]
theorem do_lc {wi : TI} {g : TG} {vs : List Nat} {xs : List α} (p : α → Bool) (f : α → β) (hi : DI K B wi ρ xs) (hl : xs.length ≤ BIG)
    (h : ∀ x ∈ xs, ∃ ρ' js, DG K B g x (wipeS ρ vs) ρ' js ∧ (∀ i ∈ js, i ∈ vs) ∧ DT K B t ρ' (p x) ∧ (p x = true → DE K B te ρ' (f x))) : DO K B (tLc wi g t te vs) ρ ((xs.filter p).map f) := by
  intro S0 H0 S H σ E Q q
  refine hi S0 H0 S H σ E _ fun J S1 H1 e1 y D hD => ?_
  have hD0 : H D = none := e1.free E.i hD
  have nB : ¬ B D := fun z => (E.bx D z).2.2 (E.ext.free E.i0 hD0)
  let Pv : Nat → Hp → Prop := fun i Hc => ∃ Sc ws, Ext B S1 H1 Sc Hc ∧ Sc D = none ∧ Hc D = some (.lst ws) ∧ Paired (Enc.rep K Sc) ws (((xs.take i).filter p).map f)
  refine ⟨fun i m Hc => m = xs.length - i ∧ i ≤ xs.length ∧ Pv i Hc, ⟨xs.length, by simp, Nat.zero_le _, S1, [], Ext.priv e1.i hD, e1.i.free hD, upd_same, .nil⟩, ?_⟩
  rintro i m Hc ⟨rfl, hle, Sc, ws, ex, hs, hh, r⟩
  have yy := y Sc Hc ex.s (E.ext.trans (e1.trans ex))
  by_cases hlt : i < xs.length
  · refine .inr ?_
    obtain ⟨x, hx⟩ : ∃ x, xs[i]? = some x := ⟨_, List.getElem?_eq_getElem hlt⟩
    obtain ⟨hgo, hy⟩ := yy.1 i x hx
    refine ⟨hgo, Pv (i + 1), fun H' hp => ⟨xs.length - (i + 1), by omega, rfl, hlt, hp⟩, fun v H' hyl => ?_⟩
    obtain ⟨S2, e2, r2⟩ := hy v H' hyl
    obtain ⟨ρ', js, hg, hjs, ht, he⟩ := h x (List.mem_of_getElem? hx)
    have lw : ws.length < sizeLine := by
      rw [r.length, List.length_map]
      have h1 := List.length_filter_le p (xs.take i)
      rw [List.length_take] at h1
      have := big_line
      omega
    refine hg S0 H0 S2 H' (wipe σ vs) v ((E.go ((e1.trans ex).trans e2)).wp vs) r2 _ fun σ2 E2 l2 f2 => ⟨?_, ?_⟩
    · have z := wipe_eq (vs := vs) l2 fun i hi => f2 i fun z => hi (hjs i z)
      rw [z, wipe_wipe]
    · refine ht S0 H0 S2 H' σ2 E2 _ fun S3 H3 e3 => ?_
      have e13 := (ex.trans e2).trans e3
      have st : ∀ S4 H4, Ext B Sc Hc S4 H4 → S4 D = none ∧ H4 D = some (.lst ws) := fun S4 H4 e => by
        obtain ⟨q1, q2⟩ := e.p D hs (by rw [hh]; exact fun z => nomatch z)
        refine ⟨q1, ?_⟩
        rcases q2 with q2 | ⟨q2, _⟩
        · rw [q2]
          exact hh
        · exact absurd q2 nB
      cases hp : p x with
      | false =>
        obtain ⟨a1, a2⟩ := st S3 H3 (e2.trans e3)
        refine ⟨S3, ws, e13, a1, a2, ?_⟩
        rw [List.take_add_one, hx, List.filter_append]
        have z : (Option.toList (some x)).filter p = [] := by
          show [x].filter p = []
          rw [List.filter_cons, if_neg (by rw [hp]; decide), List.filter_nil]
        rw [z, List.append_nil]
        exact Paired.mono (fun _ _ => Enc.mono (e2.s.trans e3.s)) r
      | true =>
        refine he hp S0 H0 S3 H3 σ2 (E2.go e3) _ fun w S4 H4 e4 r4 => ?_
        obtain ⟨a1, a2⟩ := st S4 H4 ((e2.trans e3).trans e4)
        refine ⟨ws, a2, lw, S4, ws ++ [w], (e13.trans e4).mut hD a1, a1, upd_same, ?_⟩
        rw [List.take_add_one, hx, List.filter_append]
        have z : (Option.toList (some x)).filter p = [x] := by
          show [x].filter p = [x]
          rw [List.filter_cons, if_pos hp, List.filter_nil]
        rw [z, List.map_append]
        exact Paired.app (Paired.mono (fun _ _ => Enc.mono ((e2.s.trans e3.s).trans e4.s)) r) (.cons r4 .nil)
  · refine .inl ⟨?_, ?_⟩
    · rw [show i = xs.length by omega]
      exact yy.2
    · rw [List.take_of_length_le (by omega)] at r
      refine q D ws Sc Hc (e1.trans ex) hD0 hs hh r ?_
      rw [List.length_map]
      exact Nat.le_trans (List.length_filter_le _ _) hl
theorem do_map {wi : TI} {g : TG} {vs : List Nat} {xs : List α} (f : α → β) (hi : DI K B wi ρ xs) (hl : xs.length ≤ BIG)
    (h : ∀ x ∈ xs, ∃ ρ' js, DG K B g x (wipeS ρ vs) ρ' js ∧ (∀ i ∈ js, i ∈ vs) ∧ DE K B te ρ' (f x)) : DO K B (tLc wi g tYes te vs) ρ (xs.map f) := by
  have z := do_lc (fun _ => true) f hi hl (t := tYes) (te := te) (g := g) (vs := vs) fun x hx => by
    obtain ⟨ρ', js, h1, h2, h3⟩ := h x hx
    exact ⟨ρ', js, h1, h2, dt_yes, fun _ => h3⟩
  rw [List.filter_eq_self.mpr (fun _ _ => rfl)] at z
  exact z
def spT (K : PySem.W.Frag) (dp : List Slot → (Slot → Prop) → Prop) : Sp := fun vs H Q _ => ∃ B S ss R, Same S H ∧ (∀ p, B p → S p = none ∧ IsBx (H p)) ∧ ArgsOk K B H S H vs ss ∧ dp ss R ∧ ∀ s v S' H', R s → Ext B S H S' H' → SlotOk K B H S' H' (some v) s → Q v H'
theorem SlotOk.base {H0 S H : Hp} {o : Option V} {s : Slot} (h : SlotOk K B H0 S H o s) (hs : s.isOwn = false) : SlotOk K B H S H o s := by
  cases s with
  | no => cases o <;> trivial
  | box =>
    cases o with
    | none => cases h
    | some v => exact h
  | val a =>
    cases o with
    | none => cases h
    | some v => exact h
  | obj P => cases hs
  | out P =>
    cases o with
    | none => cases h
    | some v =>
      obtain ⟨p, u, e, nb, _, hs, hh, r⟩ := h
      exact ⟨p, u, e, nb, (by rw [hh]; exact fun z => nomatch z), hs, hh, r⟩
theorem ArgsOk.base {H0 S H : Hp} : ∀ {vs : List V} {ss : List Slot}, ArgsOk K B H0 S H vs ss → ArgsOk K B H S H vs ss
  | _, _, .nil => .nil
  | _, _, .cons h1 h2 h3 => .cons (h1.base h2) h2 h3.base
theorem ArgsOk.length {H0 S H : Hp} : ∀ {vs : List V} {ss : List Slot}, ArgsOk K B H0 S H vs ss → vs.length = ss.length
  | _, _, .nil => rfl
  | _, _, .cons _ _ h3 => by rw [List.length_cons, List.length_cons, h3.length]
theorem ArgsOk.at' {H0 S H : Hp} : ∀ {vs : List V} {ss : List Slot}, ArgsOk K B H0 S H vs ss → ∀ (i : Nat) (s : Slot), ss[i]? = some s → ∃ v, vs[i]? = some v ∧ SlotOk K B H0 S H (some v) s ∧ s.isOwn = false
  | _, _, .nil, i, s, e => by simp at e
  | _, _, .cons h1 h2 _, 0, s, e => by
    simp at e
    subst e
    exact ⟨_, rfl, h1, h2⟩
  | _, _, .cons _ _ h3, i + 1, s, e => by
    obtain ⟨v, q1, q2⟩ := h3.at' i s (by simpa using e)
    exact ⟨v, by simpa using q1, q2⟩
theorem dn_call {dp : List Slot → (Slot → Prop) → Prop} {tr : TA} {ss : List Slot} {P : α → Prop} (h : DA K B tr ρ ss) (hd : dp ss fun s => ∃ a : α, P a ∧ s = .val a) : DN K B (tCall (spT K dp) [] E0 tr) ρ P := fun S0 H0 S H σ E Q q =>
  h S0 H0 S H σ E _ fun vs S1 H1 e1 r1 => by
    show spT K dp (vs ++ []) H1 Q E0
    rw [List.append_nil]
    refine ⟨B, S1, ss, _, e1.i, fun p hp => ⟨((E.go e1).bx p hp).1, ((E.go e1).bx p hp).2.1⟩, r1.base, hd, fun s v S2 H2 hs e2 ok => ?_⟩
    obtain ⟨a, pa, rfl⟩ := hs
    exact q v a S2 H2 pa (e1.trans e2) ok
theorem DN.e (h : DN K B te ρ fun x => x = a) : DE K B te ρ a := fun S0 H0 S H σ E Q q => h S0 H0 S H σ E Q fun v x S1 H1 e ex r => q v S1 H1 ex (e ▸ r)
theorem DE.n (h : DE K B te ρ a) : DN K B te ρ fun x => x = a := fun S0 H0 S H σ E Q q => h S0 H0 S H σ E Q fun v S1 H1 ex r => q v a S1 H1 rfl ex r
theorem DN.imp {P P' : α → Prop} (h : DN K B te ρ P) (f : ∀ a, P a → P' a) : DN K B te ρ P' := fun S0 H0 S H σ E Q q => h S0 H0 S H σ E Q fun v x S1 H1 e ex r => q v x S1 H1 (f x e) ex r
theorem d_call {dp : List Slot → (Slot → Prop) → Prop} {tr : TA} {ss : List Slot} (h : DA K B tr ρ ss) (hd : dp ss fun s => s = .val a) : DE K B (tCall (spT K dp) [] E0 tr) ρ a := fun S0 H0 S H σ E Q q =>
  h S0 H0 S H σ E _ fun vs S1 H1 e1 r1 => by
    show spT K dp (vs ++ []) H1 Q E0
    rw [List.append_nil]
    refine ⟨B, S1, ss, _, e1.i, fun p hp => ⟨((E.go e1).bx p hp).1, ((E.go e1).bx p hp).2.1⟩, r1.base, hd, fun s v S2 H2 hs e2 ok => ?_⟩
    cases hs
    exact q v S2 H2 (e1.trans e2) ok
class OfCls (α : Type) [Enc α] where
  cn : Str
  fl : List Str
  is : ∀ {K : PySem.W.Frag} {S : Hp} {v : V} {a : α}, Enc.rep K S v a → ∃ x dx fs, v = .ref x ∧ S x = some (.ins (He.ga K cn) dx fs) ∧ fs.map Prod.fst = fl
theorem look_none {fs : List (Str × V)} {m : Str} : ∀ (_ : m ∉ fs.map Prod.fst), fs.lookup m = none := by
  induction fs with
  | nil => intro _; rfl
  | cons p fs ih =>
    intro h
    rw [List.map_cons, List.mem_cons, not_or] at h
    obtain ⟨k, v⟩ := p
    have z : (m == k) = false := by
      rw [beq_eq_false_iff_ne]
      exact h.1
    rw [List.lookup_cons, z]
    exact ih h.2
instance [OfCls α] : NotN α := ⟨fun h => by obtain ⟨x, dx, fs, rfl, _⟩ := OfCls.is h; exact fun z => nomatch z⟩
theorem d_meth [o : OfCls α] {m : Str} {dp : List Slot → (Slot → Prop) → Prop} {tr : TA} {ss : List Slot} (ho : DE K B te ρ a) (h : DA K B tr ρ ss) (hd : dp (.val a :: ss) fun s => s = .val b) (hm : m ∉ o.fl) : DE K B (tMeth (He.ga K o.cn) m (spT K dp) [] E0 te tr) ρ b := fun S0 H0 S H σ E Q q =>
  ho S0 H0 S H σ E _ fun x S1 H1 e1 r1 => by
    obtain ⟨y, dx, fs, rfl, hy, hf⟩ := OfCls.is r1
    refine ⟨y, dx, fs, rfl, e1.i _ _ hy, look_none (by rw [hf]; exact hm), ?_⟩
    refine h S0 H0 S1 H1 σ (E.go e1) _ fun vs S2 H2 e2 r2 => ?_
    rw [List.append_nil]
    refine ⟨B, S2, .val a :: ss, _, e2.i, fun p hp => ⟨((E.go (e1.trans e2)).bx p hp).1, ((E.go (e1.trans e2)).bx p hp).2.1⟩, .cons (Enc.mono e2.s r1) rfl r2.base, hd, fun s v S3 H3 hs e3 ok => ?_⟩
    cases hs
    exact q v S3 H3 ((e1.trans e2).trans e3) ok
end
def dp0 {γ : Type} [Enc γ] (c : γ) : List Slot → (Slot → Prop) → Prop := fun ss R => ss = [] ∧ R (.val c)
def dp1 {α γ : Type} [Enc α] [Enc γ] (pre : α → Prop) (f : α → γ) : List Slot → (Slot → Prop) → Prop := fun ss R => ∃ x : α, ss = [.val x] ∧ pre x ∧ R (.val (f x))
def dp2 {α β γ : Type} [Enc α] [Enc β] [Enc γ] (pre : α → β → Prop) (f : α → β → γ) : List Slot → (Slot → Prop) → Prop := fun ss R => ∃ (x : α) (y : β), ss = [.val x, .val y] ∧ pre x y ∧ R (.val (f x y))
def dp3 {α β δ γ : Type} [Enc α] [Enc β] [Enc δ] [Enc γ] (pre : α → β → δ → Prop) (f : α → β → δ → γ) : List Slot → (Slot → Prop) → Prop := fun ss R => ∃ (x : α) (y : β) (z : δ), ss = [.val x, .val y, .val z] ∧ pre x y z ∧ R (.val (f x y z))
def dp4 {α β δ ε γ : Type} [Enc α] [Enc β] [Enc δ] [Enc ε] [Enc γ] (pre : α → β → δ → ε → Prop) (f : α → β → δ → ε → γ) : List Slot → (Slot → Prop) → Prop := fun ss R => ∃ (x : α) (y : β) (z : δ) (w : ε), ss = [.val x, .val y, .val z, .val w] ∧ pre x y z w ∧ R (.val (f x y z w))
def dpb1 {α γ : Type} [Enc α] [Enc γ] (pre : α → Prop) (P : α → γ → Prop) : List Slot → (Slot → Prop) → Prop := fun ss R => ∃ x : α, ss = [.box, .val x] ∧ pre x ∧ ∀ c : γ, P x c → R (.val c)
section
variable {K : PySem.W.Frag} {B : Addr → Prop} {ρ : List Slot} {ta tb tc td te : TE} {α β γ δ ε : Type} {e_α : Enc α} {e_β : Enc β} {e_γ : Enc γ} {e_δ : Enc δ} {e_ε : Enc ε} {x : α} {y : β} {z : δ} {w : ε}
theorem d_call0 {c : γ} : DE K B (tCall (spT K (dp0 c)) [] E0 tNil) ρ c := d_call da_nil ⟨rfl, rfl⟩
theorem d_call1 {pre : α → Prop} {f : α → γ} (h1 : DE K B ta ρ x) (hp : pre x) : DE K B (tCall (spT K (dp1 pre f)) [] E0 (tCons ta tNil)) ρ (f x) := d_call (da_cons h1 da_nil) ⟨x, rfl, hp, rfl⟩
theorem d_call2 {pre : α → β → Prop} {f : α → β → γ} (h1 : DE K B ta ρ x) (h2 : DE K B tb ρ y) (hp : pre x y) : DE K B (tCall (spT K (dp2 pre f)) [] E0 (tCons ta (tCons tb tNil))) ρ (f x y) := d_call (da_cons h1 (da_cons h2 da_nil)) ⟨x, y, rfl, hp, rfl⟩
theorem d_call3 {pre : α → β → δ → Prop} {f : α → β → δ → γ} (h1 : DE K B ta ρ x) (h2 : DE K B tb ρ y) (h3 : DE K B tc ρ z) (hp : pre x y z) : DE K B (tCall (spT K (dp3 pre f)) [] E0 (tCons ta (tCons tb (tCons tc tNil)))) ρ (f x y z) := d_call (da_cons h1 (da_cons h2 (da_cons h3 da_nil))) ⟨x, y, z, rfl, hp, rfl⟩
theorem d_call4 {pre : α → β → δ → ε → Prop} {f : α → β → δ → ε → γ} (h1 : DE K B ta ρ x) (h2 : DE K B tb ρ y) (h3 : DE K B tc ρ z) (h4 : DE K B td ρ w) (hp : pre x y z w) : DE K B (tCall (spT K (dp4 pre f)) [] E0 (tCons ta (tCons tb (tCons tc (tCons td tNil))))) ρ (f x y z w) := d_call (da_cons h1 (da_cons h2 (da_cons h3 (da_cons h4 da_nil)))) ⟨x, y, z, w, rfl, hp, rfl⟩
theorem d_meth0 [o : OfCls α] {m : Str} {pre : α → Prop} {f : α → γ} (h1 : DE K B ta ρ x) (hp : pre x) (hm : m ∉ o.fl) : DE K B (tMeth (He.ga K o.cn) m (spT K (dp1 pre f)) [] E0 ta tNil) ρ (f x) := d_meth h1 da_nil ⟨x, rfl, hp, rfl⟩ hm
theorem dn_callb1 {n : Nat} {pre : α → Prop} {P : α → γ → Prop} (hb : ρ[n]? = some .box) (h1 : DE K B ta ρ x) (hp : pre x) : DN K B (tCall (spT K (dpb1 pre P)) [] E0 (tCons (tVar n) (tCons ta tNil))) ρ (P x) := dn_call (da_box hb (da_cons h1 da_nil)) ⟨x, rfl, hp, fun c hc => ⟨c, hc, rfl⟩⟩
theorem dn_op {r : R2} {P : α → Prop} {P' : β → Prop} {R : γ → Prop} (ha : DN K B ta ρ P) (hb : DN K B tb ρ P') (hr : ∀ a b, P a → P' b → ∀ x y S H, Same S H → Enc.rep K S x a → Enc.rep K S y b → ∀ Q : VK, (∀ v c S' H', R c → Ext B S H S' H' → Enc.rep K S' v c → Q v H') → r x y H Q) : DN K B (tOp r ta tb) ρ R := fun S0 H0 S H σ E Q q =>
  ha S0 H0 S H σ E _ fun x a S1 H1 pa e1 r1 => hb S0 H0 S1 H1 σ (E.go e1) _ fun y b S2 H2 pb e2 r2 => hr a b pa pb x y S2 H2 e2.i (Enc.mono e2.s r1) r2 Q fun v c S3 H3 hc e3 r3 => q v c S3 H3 hc ((e1.trans e2).trans e3) r3
theorem dn_add {P P' : Int → Prop} (ha : DN K B ta ρ P) (hb : DN K B tb ρ P') : DN K B (tOp (rI0 fun i j => .int (i + j)) ta tb) ρ fun c : Int => ∃ a b, P a ∧ P' b ∧ c = a + b :=
  dn_op ha hb fun a b pa pb x y S H hi r1 r2 Q q => ⟨a, b, r1, r2, q _ (a + b) S H ⟨a, b, pa, pb, rfl⟩ (Ext.refl hi) rfl⟩
end
end WW
set_option Elab.async false
set_option linter.all false
set_option maxRecDepth 100000
set_option maxHeartbeats 4000000
namespace WW
open PySem PySem.Spec PyProof.Rows L2
section
variable {K : PySem.W.Frag} {B : Addr → Prop} {ρ ρ' ρ1 : List Slot} {ta tb tc te : TE} {t u : TT} {ts tu tz : TS} {Φ : Post} {α β γ : Type} {e_α : Enc α} {e_β : Enc β} {e_γ : Enc γ} {a : α} {b : β} {i j : Int}
theorem DS.imp {Φ' : Post} (h : DS K B ts ρ Φ) (h1 : ∀ r, Φ.nx r → Φ'.nx r) (h2 : ∀ s, Φ.rt s → Φ'.rt s) (h3 : ∀ r, Φ.bk r → Φ'.bk r) (h4 : ∀ r, Φ.ct r → Φ'.ct r) (h5 : ∀ S0 H0, Φ'.px S0 H0 → Φ.px S0 H0) : DS K B ts ρ Φ' := fun S0 H0 S H σ D E px n r b c =>
  h S0 H0 S H σ D E (h5 _ _ px) (fun ρ' σ' S' H' q => n ρ' σ' S' H' (h1 _ q)) (fun s v S' H' q => r s v S' H' (h2 _ q)) (fun ρ' σ' S' H' q => b ρ' σ' S' H' (h3 _ q)) (fun ρ' σ' S' H' q => c ρ' σ' S' H' (h4 _ q))
theorem ds_seq (h : DS K B tu ρ { Φ with nx := fun ρ' => DS K B tz ρ' Φ }) : DS K B (tSeq tu tz) ρ Φ := fun S0 H0 S H σ D E px n r b c =>
  h S0 H0 S H σ { D with nx := tz D } E px (fun ρ' σ' S' H' q sm E' => q S0 H0 S' H' σ' D E' px (fun ρ2 σ2 S2 H2 q2 sm2 E2 => n ρ2 σ2 S2 H2 q2 (sm.trans sm2) E2) r (fun ρ2 σ2 S2 H2 q2 sm2 E2 => b ρ2 σ2 S2 H2 q2 (sm.trans sm2) E2) (fun ρ2 σ2 S2 H2 q2 sm2 E2 => c ρ2 σ2 S2 H2 q2 (sm.trans sm2) E2)) r b c
theorem ds_next (h : Φ.nx ρ) : DS K B tNext ρ Φ := fun S0 H0 S H σ D E px n r b c => n ρ σ S H h (Same.refl S) E
theorem ds_asgG {g : TG} {js : List Nat} (h : DE K B te ρ a) (hg : DG K B g a ρ ρ' js) (k : Φ.nx ρ') : DS K B (tAsg te g) ρ Φ := fun S0 H0 S H σ D E px n r b c =>
  h S0 H0 S H σ E _ fun v S1 H1 e1 r1 => hg S0 H0 S1 H1 σ v (E.go e1) r1 _ fun σ' E' _ _ => n ρ' σ' S1 H1 k e1.s E'
theorem ds_asgGN {g : TG} {P : α → Prop} (h : DN K B te ρ P) (hg : ∀ a, P a → ∃ ρ' js, DG K B g a ρ ρ' js ∧ Φ.nx ρ') : DS K B (tAsg te g) ρ Φ := fun S0 H0 S H σ D E px n r b c =>
  h S0 H0 S H σ E _ fun v a S1 H1 pa e1 r1 => by
    obtain ⟨ρ', js, h1, h2⟩ := hg a pa
    exact h1 S0 H0 S1 H1 σ v (E.go e1) r1 _ fun σ' E' _ _ => n ρ' σ' S1 H1 h2 e1.s E'
theorem ds_asg {n : Nat} (h : DE K B te ρ a) (k : Φ.nx (ρ.set n (.val a))) : DS K B (tAsg te (gName n)) ρ Φ := ds_asgG h dg_name k
theorem ds_asgN {n : Nat} {P : α → Prop} (h : DN K B te ρ P) (k : ∀ a, P a → Φ.nx (ρ.set n (.val a))) : DS K B (tAsg te (gName n)) ρ Φ := ds_asgGN h fun a pa => ⟨_, _, dg_name, k a pa⟩
theorem ds_asgO {n : Nat} {xs : List α} (h : DO K B te ρ xs) (k : Φ.nx (ρ.set n (.own xs))) : DS K B (tAsg te (gName n)) ρ Φ := fun S0 H0 S H σ D E px n r b c =>
  h S0 H0 S H σ E _ fun p vs S1 H1 e1 hp hs hh rr hl => n _ _ S1 H1 k e1.s (E.setO e1 hp hs hh rr hl)
theorem ds_par {n m : Nat} (h1 : DE K B ta ρ a) (h2 : DE K B tb ρ b) (k : Φ.nx ((ρ.set n (.val a)).set m (.val b))) : DS K B (tPar n m (tCons ta (tCons tb tNil))) ρ Φ := fun S0 H0 S H σ D E px n r b c =>
  h1 S0 H0 S H σ E _ fun v S1 H1 e1 r1 => h2 S0 H0 S1 H1 σ (E.go e1) _ fun w S2 H2 e2 r2 => ⟨v, w, rfl, n _ _ S2 H2 k (e1.s.trans e2.s) ((((E.go e1).go e2).setV (Enc.mono e2.s r1)).setV r2)⟩
theorem ds_parN {n m : Nat} {P : α → Prop} {P' : β → Prop} (h1 : DN K B ta ρ P) (h2 : DN K B tb ρ P') (k : ∀ a b, P a → P' b → Φ.nx ((ρ.set n (.val a)).set m (.val b))) : DS K B (tPar n m (tCons ta (tCons tb tNil))) ρ Φ := fun S0 H0 S H σ D E px n r b c =>
  h1 S0 H0 S H σ E _ fun v x S1 H1 px e1 r1 => h2 S0 H0 S1 H1 σ (E.go e1) _ fun w y S2 H2 py e2 r2 => ⟨v, w, rfl, n _ _ S2 H2 (k x y px py) (e1.s.trans e2.s) ((((E.go e1).go e2).setV (Enc.mono e2.s r1)).setV r2)⟩
theorem ds_if {c : Bool} (h : DT K B t ρ c) (h1 : c = true → DS K B tu ρ Φ) (h2 : c = false → DS K B tz ρ Φ) : DS K B (tIfS t tu tz) ρ Φ := fun S0 H0 S H σ D E px n r b ct => h S0 H0 S H σ E _ fun S1 H1 e => by
  have n' : ∀ ρ' σ' S' H', Φ.nx ρ' → Same S1 S' → En K B S0 H0 S' H' σ' ρ' → D.nx σ' H' := fun ρ' σ' S' H' q sm E' => n ρ' σ' S' H' q (e.s.trans sm) E'
  have b' : ∀ ρ' σ' S' H', Φ.bk ρ' → Same S1 S' → En K B S0 H0 S' H' σ' ρ' → D.bk σ' H' := fun ρ' σ' S' H' q sm E' => b ρ' σ' S' H' q (e.s.trans sm) E'
  have c' : ∀ ρ' σ' S' H', Φ.ct ρ' → Same S1 S' → En K B S0 H0 S' H' σ' ρ' → D.ct σ' H' := fun ρ' σ' S' H' q sm E' => ct ρ' σ' S' H' q (e.s.trans sm) E'
  cases c with
  | true => exact h1 rfl S0 H0 S1 H1 σ D (E.go e) px n' r b' c'
  | false => exact h2 rfl S0 H0 S1 H1 σ D (E.go e) px n' r b' c'
theorem ds_ret (h : DE K B te ρ a) (k : Φ.rt (.val a)) : DS K B (tRet te) ρ Φ := fun S0 H0 S H σ D E px n r b c =>
  h S0 H0 S H σ E _ fun v S1 H1 e1 r1 => r _ v S1 H1 k (E.ext.trans e1) r1
theorem ds_retE {a' : α} (k : Φ.rt (.val a')) (h : DE K B te ρ a) (e : a = a') : DS K B (tRet te) ρ Φ := ds_ret (h.is e) k
theorem ds_retN {P : α → Prop} (h : DN K B te ρ P) (k : ∀ a, P a → Φ.rt (.val a)) : DS K B (tRet te) ρ Φ := fun S0 H0 S H σ D E px n r b c =>
  h S0 H0 S H σ E _ fun v a S1 H1 pa e1 r1 => r _ v S1 H1 (k a pa) (E.ext.trans e1) r1
theorem ds_frz {n : Nat} {xs : List α} (hx : ρ[n]? = some (.own xs)) (h : DS K B ts (ρ.set n (.val (α := L α) xs)) Φ) : DS K B ts ρ Φ := fun S0 H0 S H σ D E px nx r b c => by
  obtain ⟨S1, _, sm, E1⟩ := E.frz hx
  exact h S0 H0 S1 H σ D E1 px (fun ρ' σ' S' H' q s E' => nx ρ' σ' S' H' q (sm.trans s) E') r (fun ρ' σ' S' H' q s E' => b ρ' σ' S' H' q (sm.trans s) E') (fun ρ' σ' S' H' q s E' => c ρ' σ' S' H' q (sm.trans s) E')
theorem ds_append {n : Nat} {xs : List α} (hx : ρ[n]? = some (.own xs)) (h : DE K B te ρ a) (hl : xs.length < BIG) (k : Φ.nx (ρ.set n (.own (xs ++ [a])))) : DS K B (tDrop (tBM K "list" rAppend (tVar n) (tCons te tNil))) ρ Φ := fun S0 H0 S H σ D E px nx r b c => by
  obtain ⟨_, p, vs, e1, h0, hs, hh, rr⟩ := E.own hx
  refine ⟨_, e1, .inl ⟨rfl, vs, SqL.of hh⟩, ?_⟩
  refine h S0 H0 S H σ E _ fun w S1 H1 ex r1 => ?_
  have E1 := E.go ex
  obtain ⟨_, p', vs', e1', h0', hs', hh', rr'⟩ := E1.own hx
  rw [e1] at e1'
  cases e1'
  refine ⟨p, vs', w, rfl, rfl, hh', ?_, nx _ σ S1 _ k ex.s (E1.chg hx e1 (Paired.app rr' (.cons r1 .nil)) ?_)⟩
  · rw [rr'.length]
    exact Nat.lt_of_lt_of_le hl big_line
  · rw [List.length_append]
    exact hl
theorem ds_appendN {n : Nat} {xs : List α} {P : α → Prop} (hx : ρ[n]? = some (.own xs)) (h : DN K B te ρ P) (hl : xs.length < BIG) (k : ∀ a, P a → Φ.nx (ρ.set n (.own (xs ++ [a])))) : DS K B (tDrop (tBM K "list" rAppend (tVar n) (tCons te tNil))) ρ Φ := fun S0 H0 S H σ D E px nx r b c => by
  obtain ⟨_, p, vs, e1, h0, hs, hh, rr⟩ := E.own hx
  refine ⟨_, e1, .inl ⟨rfl, vs, SqL.of hh⟩, ?_⟩
  refine h S0 H0 S H σ E _ fun w a S1 H1 pa ex r1 => ?_
  have E1 := E.go ex
  obtain ⟨_, p', vs', e1', h0', hs', hh', rr'⟩ := E1.own hx
  rw [e1] at e1'
  cases e1'
  refine ⟨p, vs', w, rfl, rfl, hh', ?_, nx _ σ S1 _ (k a pa) ex.s (E1.chg hx e1 (Paired.app rr' (.cons r1 .nil)) ?_)⟩
  · rw [rr'.length]
    exact Nat.lt_of_lt_of_le hl big_line
  · rw [List.length_append]
    exact hl
theorem ds_extend {n : Nat} {xs ys : List α} (hx : ρ[n]? = some (.own xs)) (h : DE K B te ρ (α := L α) ys) (hl : xs.length + ys.length ≤ BIG) (k : Φ.nx (ρ.set n (.own (xs ++ ys)))) : DS K B (tDrop (tBM K "list" rExtend (tVar n) (tCons te tNil))) ρ Φ := fun S0 H0 S H σ D E px nx r b c => by
  obtain ⟨_, p, vs, e1, h0, hs, hh, rr⟩ := E.own hx
  refine ⟨_, e1, .inl ⟨rfl, vs, SqL.of hh⟩, ?_⟩
  refine h S0 H0 S H σ E _ fun w S1 H1 ex r1 => ?_
  obtain ⟨l2, p2, vs2, z2, hh2, r2⟩ := r1
  subst z2
  have E1 := E.go ex
  obtain ⟨_, p', vs', e1', h0', hs', hh', rr'⟩ := E1.own hx
  rw [e1] at e1'
  cases e1'
  refine ⟨p, p2, vs', vs2, rfl, rfl, hh', ex.i _ _ hh2, ?_, nx _ σ S1 _ k ex.s (E1.chg hx e1 (Paired.app rr' r2) ?_)⟩
  · rw [rr'.length, r2.length]
    exact Nat.le_trans hl big_line
  · rw [List.length_append]
    exact hl
theorem ds_for {wi : TI} {g : TG} {xs : List α} (hi : DI K B wi ρ xs) (I : Nat → List Slot → Prop) (h0 : I 0 ρ)
    (hs : ∀ i x ρ1, xs[i]? = some x → I i ρ1 → ∃ ρ2 js, DG K B g x ρ1 ρ2 js ∧ DS K B ts ρ2 ⟨I (i + 1), Φ.rt, Φ.nx, I (i + 1), Φ.px⟩) (hd : ∀ ρ1, I xs.length ρ1 → Φ.nx ρ1) : DS K B (tFor wi g ts) ρ Φ := fun S0 H0 S H σ D E px n r b c => by
  refine hi S0 H0 S H σ E _ fun J S1 H1 e1 y => ?_
  refine ⟨fun i m σ' Hc => m = xs.length - i ∧ i ≤ xs.length ∧ ∃ ρ' Sc, I i ρ' ∧ Same S1 Sc ∧ En K B S0 H0 Sc Hc σ' ρ', ⟨xs.length, by simp, Nat.zero_le _, ρ, S1, h0, Same.refl _, E.go e1⟩, ?_⟩
  rintro i m σ' Hc ⟨rfl, hle, ρ', Sc, hI, sm, E'⟩
  have yy := y Sc Hc sm E'.ext
  by_cases hlt : i < xs.length
  · refine .inr ?_
    obtain ⟨x, hx⟩ : ∃ x, xs[i]? = some x := ⟨_, List.getElem?_eq_getElem hlt⟩
    obtain ⟨hgo, hy⟩ := yy.1 i x hx
    refine ⟨hgo, fun σ2 H2 => ∃ ρ2 S2, I (i + 1) ρ2 ∧ Same S1 S2 ∧ En K B S0 H0 S2 H2 σ2 ρ2, fun σ2 H2 hp => ⟨xs.length - (i + 1), by omega, rfl, hlt, hp⟩, fun v H' hyl => ?_⟩
    obtain ⟨S2, e2, r2⟩ := hy v H' hyl
    obtain ⟨ρ2, js, hg, hb⟩ := hs i x ρ' hx hI
    refine hg S0 H0 S2 H' σ' v (E'.go e2) r2 _ fun σ2 E2 _ _ => ?_
    refine hb S0 H0 S2 H' σ2 _ E2 px (fun ρ3 σ3 S3 H3 q s E3 => ⟨ρ3, S3, q, (sm.trans e2.s).trans s, E3⟩) r (fun ρ3 σ3 S3 H3 q s E3 => n ρ3 σ3 S3 H3 q (((e1.s.trans sm).trans e2.s).trans s) E3) (fun ρ3 σ3 S3 H3 q s E3 => ⟨ρ3, S3, q, (sm.trans e2.s).trans s, E3⟩)
  · refine .inl ⟨?_, ?_⟩
    · rw [show i = xs.length by omega]
      exact yy.2
    · rw [show i = xs.length by omega] at hI
      exact n ρ' σ' Sc Hc (hd ρ' hI) (e1.s.trans sm) E'
theorem ds_while (I : Nat → List Slot → Prop) (m0 : Nat) (h0 : I m0 ρ)
    (hs : ∀ m ρ1, I m ρ1 → ∃ c, DT K B t ρ1 c ∧ (c = true → DS K B ts ρ1 ⟨fun ρ2 => ∃ m', m' < m ∧ I m' ρ2, Φ.rt, Φ.nx, fun ρ2 => ∃ m', m' < m ∧ I m' ρ2, Φ.px⟩) ∧ (c = false → Φ.nx ρ1)) : DS K B (tWhile t ts) ρ Φ := fun S0 H0 S H σ D E px n r b c => by
  refine ⟨fun m σ' Hc => ∃ ρ' Sc, I m ρ' ∧ Same S Sc ∧ En K B S0 H0 Sc Hc σ' ρ', ⟨m0, ρ, S, h0, Same.refl _, E⟩, ?_⟩
  rintro m σ' Hc ⟨ρ', Sc, hI, sm, E'⟩
  obtain ⟨c, ht, h1, h2⟩ := hs m ρ' hI
  refine ht S0 H0 Sc Hc σ' E' _ fun S1 H1 e1 => ?_
  cases c with
  | true =>
    show ∃ N, _
    refine ⟨fun σ2 H2 => ∃ m', m' < m ∧ ∃ ρ2 S2, I m' ρ2 ∧ Same S S2 ∧ En K B S0 H0 S2 H2 σ2 ρ2, fun σ2 H2 h => h, ?_⟩
    refine h1 rfl S0 H0 S1 H1 σ' _ (E'.go e1) px (fun ρ3 σ3 S3 H3 ⟨m', hm, q⟩ s E3 => ⟨m', hm, ρ3, S3, q, (sm.trans e1.s).trans s, E3⟩) r (fun ρ3 σ3 S3 H3 q s E3 => n ρ3 σ3 S3 H3 q ((sm.trans e1.s).trans s) E3) (fun ρ3 σ3 S3 H3 ⟨m', hm, q⟩ s E3 => ⟨m', hm, ρ3, S3, q, (sm.trans e1.s).trans s, E3⟩)
  | false => exact n ρ' σ' S1 H1 (h2 rfl) (sm.trans e1.s) (E'.go e1)
theorem dq_asg {n : Nat} (h : DE K B te ρ a) (k : DS K B tz (ρ.set n (.val a)) Φ) : DS K B (tSeq (tAsg te (gName n)) tz) ρ Φ := ds_seq (ds_asg h k)
theorem dq_asgI {δ : Type} [Enc δ] {n : Nat} (a : δ) (h : DE K B te ρ a) (k : DS K B tz (ρ.set n (.val a)) Φ) : DS K B (tSeq (tAsg te (gName n)) tz) ρ Φ := ds_seq (ds_asg h k)
theorem dq_asgN {n : Nat} {P : α → Prop} (h : DN K B te ρ P) (k : ∀ a, P a → DS K B tz (ρ.set n (.val a)) Φ) : DS K B (tSeq (tAsg te (gName n)) tz) ρ Φ := ds_seq (ds_asgN h k)
theorem dq_asgO {n : Nat} {xs : List α} (h : DO K B te ρ xs) (k : DS K B tz (ρ.set n (.own xs)) Φ) : DS K B (tSeq (tAsg te (gName n)) tz) ρ Φ := ds_seq (ds_asgO h k)
theorem dq_asgG {g : TG} {js : List Nat} (h : DE K B te ρ a) (hg : DG K B g a ρ ρ' js) (k : DS K B tz ρ' Φ) : DS K B (tSeq (tAsg te g) tz) ρ Φ := ds_seq (ds_asgG h hg k)
theorem dq_par {n m : Nat} (h1 : DE K B ta ρ a) (h2 : DE K B tb ρ b) (k : DS K B tz ((ρ.set n (.val a)).set m (.val b)) Φ) : DS K B (tSeq (tPar n m (tCons ta (tCons tb tNil))) tz) ρ Φ := ds_seq (ds_par h1 h2 k)
theorem dq_when {c : Bool} (h : DT K B t ρ c) (h1 : c = true → DS K B tu ρ { Φ with nx := fun ρ' => DS K B tz ρ' Φ }) (h2 : c = false → DS K B tz ρ Φ) : DS K B (tSeq (tIfS t tu tNext) tz) ρ Φ := ds_seq (ds_if h h1 fun z => ds_next (h2 z))
theorem dq_for {wi : TI} {g : TG} {xs : List α} (hi : DI K B wi ρ xs) (I : Nat → List Slot → Prop) (h0 : I 0 ρ)
    (hs : ∀ i x ρ1, xs[i]? = some x → I i ρ1 → ∃ ρ2 js, DG K B g x ρ1 ρ2 js ∧ DS K B ts ρ2 ⟨I (i + 1), Φ.rt, fun ρ' => DS K B tz ρ' Φ, I (i + 1), Φ.px⟩) (hd : ∀ ρ1, I xs.length ρ1 → DS K B tz ρ1 Φ) : DS K B (tSeq (tFor wi g ts) tz) ρ Φ := ds_seq (ds_for hi I h0 hs hd)
def startS (N : List Str) (ss : List Slot) : List Slot := ss ++ List.replicate (N.length - ss.length) .no
theorem start_en {N : List Str} {S H : Hp} {vs : List V} {ss : List Slot} (hi : Same S H) (hb : ∀ p, B p → S p = none ∧ IsBx (H p)) (h : ArgsOk K B H S H vs ss) : En K B S H S H (start N vs) (startS N ss) := by
  have hl := h.length
  have noOwn : ∀ (i : Nat) (s : Slot), (startS N ss)[i]? = some s → s.isOwn = false := fun i s hs => by
    unfold startS at hs
    by_cases hlt : i < ss.length
    · rw [List.getElem?_append_left hlt] at hs
      obtain ⟨v, _, _, q⟩ := h.at' i s hs
      exact q
    · rw [List.getElem?_append_right (by omega), List.getElem?_replicate] at hs
      split at hs
      · cases hs
        rfl
      · cases hs
  refine ⟨hi, fun p hp => ⟨(hb p hp).1, (hb p hp).2, (hb p hp).2.ne⟩, Ext.refl hi, ?_, fun i s hs => ?_, fun i j s u _ h1 _ o1 _ => ?_⟩
  · unfold L2.start startS
    rw [List.length_append, List.length_append, List.length_map, List.length_replicate, List.length_replicate, hl]
  · unfold startS at hs
    unfold L2.start
    by_cases hlt : i < ss.length
    · rw [List.getElem?_append_left hlt] at hs
      obtain ⟨v, q1, q2, _⟩ := h.at' i s hs
      rw [List.getElem?_append_left (by rw [List.length_map, hl]; exact hlt), List.getElem?_map, q1]
      exact ⟨_, rfl, q2⟩
    · rw [List.getElem?_append_right (by omega), List.getElem?_replicate] at hs
      rw [List.getElem?_append_right (by rw [List.length_map]; omega), List.getElem?_replicate, List.length_map, hl]
      split at hs
      · cases hs
        rw [if_pos (by assumption)]
        exact ⟨_, rfl, trivial⟩
      · cases hs
  · rw [noOwn i s h1] at o1
    cases o1
end
theorem okT {P : Program} {w : World} {K : PySem.W.Frag} {mg : Str → Option Value} {base : Heap} {x qual : Str} {params : Arguments} {body : List Stmt} {scope : Scope} {dvs : List V} {kws : List (Str × V)} {f : Addr} {fd : FuncData} {N ps : List Str} {k : Nat} {dp : List Slot → (Slot → Prop) → Prop}
    (F : FunD K x qual params body scope dvs kws f fd) (S : FnScope N ps scope) (len : ∀ ss R, dp ss R → ss.length = ps.length)
    (hbody : ∀ (cdv : Value) (A : Around) (outer : List PySem.Env) (s : Shared) (H : Hp) (E : XK), Room k (A.deeper (envOfC qual scope s.heap.objs.size f cdv)) →
      ∃ t, PSs (cxOf CX0 P w K mg base N qual scope f cdv A outer s H E).nox body t ∧ ∀ (B : Addr → Prop) ss R, dp ss R → DS K B t (startS N ss) ⟨fun _ => R (.val ()), R, fun _ => False, fun _ => False, fun _ _ => True⟩) : FnOk P w K mg base CX0 (k + 1) f fd ps (spT K dp) := by
  refine F.ok S (fun vs H Q E h => ?_) (fun cdv A outer s H vs Q E hr h => ?_)
  · obtain ⟨B, S, ss, R, _, _, ha, hd, _⟩ := h
    rw [ha.length, len ss R hd]
  · obtain ⟨B, S, ss, R, hi, hb, ha, hd, q⟩ := h
    obtain ⟨t, h1, h2⟩ := hbody cdv A outer s H E hr
    refine ⟨t, PSs.nox h1, h2 B ss R hd S H S H _ _ (start_en hi hb ha) trivial (fun ρ' σ' S' H' r _ E' => q _ _ S' H' r E'.ext rfl) (fun s v S' H' r ex ok => q s v S' H' r ex ok) (fun _ _ _ _ h => h.elim) (fun _ _ _ _ h => h.elim)⟩
end WW
set_option Elab.async false
set_option linter.all false
set_option maxRecDepth 100000
set_option maxHeartbeats 4000000
namespace WW
open PySem PySem.Spec PyProof.Rows L2
class TyE (α : Type) [Enc α] where
  tn : α → String
  ty : ∀ {K : PySem.W.Frag} {S : Hp} {v : V} {a : α}, Enc.rep K S v a → TyX K S v (.type (tn a))
instance : TyE Int := ⟨fun _ => "int", fun {_ _ _ a} h => by cases h; exact .base (.int a)⟩
instance : TyE Bool := ⟨fun _ => "bool", fun {_ _ _ a} h => by cases h; exact .base (.bl a)⟩
instance : TyE Str := ⟨fun _ => "str", fun {_ _ _ a} h => by cases h; exact .base (.str a)⟩
instance : TyE Unit := ⟨fun _ => "NoneType", fun h => by cases h; exact .base .non⟩
instance {α : Type} [Enc α] [TyE α] : TyE (Option α) where
  tn o := match o with
    | none => "NoneType"
    | some a => TyE.tn a
  ty {K S v a} h := by
    cases a with
    | none => cases h; exact .base .non
    | some a => exact TyE.ty (α := α) h
theorem ty_t {K : PySem.W.Frag} {H : Hp} {a : Addr} {xs : List V} (h : SqT K H a xs) : TyX K H (.ref a) (.type "tuple") := by
  rcases h with (h | ⟨o, h⟩) | ⟨o, its, n, h1, h2, _⟩
  · exact .base (.tup h)
  · exact .fTuple h
  · exact .kTuple h1 h2
instance {α : Type} [Enc α] : TyE (L α) := ⟨fun _ => "list", fun h => by obtain ⟨_, p, vs, rfl, hh, _⟩ := h; exact .base (.lst hh)⟩
instance {α : Type} [Enc α] : TyE (U α) := ⟨fun _ => "tuple", fun h => by obtain ⟨_, p, vs, rfl, hh, _⟩ := h; exact ty_t hh⟩
instance {α β : Type} [Enc α] [Enc β] : TyE (α × β) := ⟨fun _ => "tuple", fun h => by obtain ⟨p, v1, v2, rfl, hh, _⟩ := h; exact ty_t hh⟩
instance {α β γ : Type} [Enc α] [Enc β] [Enc γ] : TyE (T3 α β γ) := ⟨fun _ => "tuple", fun h => by obtain ⟨p, v1, v2, v3, rfl, hh, _⟩ := h; exact ty_t hh⟩
section
variable {K : PySem.W.Frag} {B : Addr → Prop} {ρ ρ' ρ1 ρ2 : List Slot} {ta tb tc te : TE} {t u : TT} {ts tu tz : TS} {Φ : Post} {α β γ : Type} {e_α : Enc α} {e_β : Enc β} {e_γ : Enc γ} {a : α} {b : β} {i j : Int}
theorem d_isi {nm : String} {r : Bool} (h : DE K B te ρ a) (tt : TyE α) (hk : L2.kitB (tt.tn a) nm = some r) : DE K B (tCB (rIsi K) (tCons te (tCons (tC (.ty nm)) tNil))) ρ r := fun S0 H0 S H σ E Q q =>
  h S0 H0 S H σ E _ fun v S1 H1 e1 r1 => ⟨v, .ty nm, _, _, r, rfl, .ty nm, tyx_same e1.i (tt.ty r1), kit_ty hk, q _ S1 H1 e1 rfl⟩
theorem d_isSq {xs : List α} (h : DE K B te ρ xs) : DE K B (tCB (rIsiT K) (tCons te (tCons (tTup (tCons (tC (.ty "list")) (tCons (tC (.ty "tuple")) tNil))) tNil))) ρ true := fun S0 H0 S H σ E Q q =>
  h S0 H0 S H σ E _ fun v S1 H1 e1 ⟨hl, p, vs, z, hh, r⟩ => ⟨by show 2 ≤ sizeLine; decide, fun w hw => by
    subst z
    obtain ⟨t, b1, b2, ty, k1, k2, z, k3⟩ := Sq.hasT hh
    exact ⟨_, w, _, t, _, true, rfl, upd_same, .cons (.ty "list") (.cons (.ty "tuple") .nil), tyx_same (e1.i.trans (same_new hw)) ty, k3, q _ S1 _ (e1.trans (Ext.grow e1.i (same_new hw))) rfl⟩⟩
theorem vals_bl {S : Hp} : ∀ {vs : List V} {xs : List Bool}, Paired (Enc.rep K S) vs xs → vs = xs.map V.bl
  | _, _, .nil => rfl
  | _, _, .cons h r => by cases h; rw [vals_bl r]; rfl
theorem d_any {bs : List Bool} (h : DE K B te ρ (α := L Bool) bs) : DE K B (tCB (rAny K) (tCons te tNil)) ρ (bs.any id) := fun S0 H0 S H σ E Q q =>
  h S0 H0 S H σ E _ fun v S1 H1 e1 ⟨hl, p, vs, z, hh, r⟩ => ⟨p, bs, by rw [z], .inl (.inl (by rw [← vals_bl r]; exact e1.i _ _ hh)), q _ S1 H1 e1 rfl⟩
theorem d_all {bs : List Bool} (h : DE K B te ρ (α := L Bool) bs) : DE K B (tCB (rAll K) (tCons te tNil)) ρ (bs.all id) := fun S0 H0 S H σ E Q q =>
  h S0 H0 S H σ E _ fun v S1 H1 e1 ⟨hl, p, vs, z, hh, r⟩ => ⟨p, bs, by rw [z], .inl (.inl (by rw [← vals_bl r]; exact e1.i _ _ hh)), q _ S1 H1 e1 rfl⟩
theorem paired_map {δ : Type} {S : Hp} {e : Enc δ} (g : δ → V) (hg : ∀ x, Enc.rep K S (g x) x) : ∀ xs : List δ, Paired (Enc.rep K S) (xs.map g) xs
  | [] => .nil
  | x :: r => .cons (hg x) (paired_map g hg r)
theorem d_abs (h : DE K B te ρ i) : DE K B (tCB (fun xs H Q => ∃ i, xs = [.int i] ∧ Q (.int (if i < 0 then -i else i)) H) (tCons te tNil)) ρ (if i < 0 then -i else i) := fun S0 H0 S H σ E Q q =>
  h S0 H0 S H σ E _ fun v S1 H1 e1 r => ⟨i, by cases r; rfl, q _ S1 H1 e1 rfl⟩
theorem d_intI (h : DE K B te ρ i) : DE K B (tCB (fun xs H Q => (∃ i, xs = [.int i] ∧ Q (.int i) H) ∨ ∃ k, xs = [.bl k] ∧ Q (.int (if k then 1 else 0)) H) (tCons te tNil)) ρ i := fun S0 H0 S H σ E Q q =>
  h S0 H0 S H σ E _ fun v S1 H1 e1 r => .inl ⟨i, by cases r; rfl, q _ S1 H1 e1 rfl⟩
theorem d_intB {k : Bool} (h : DE K B te ρ k) : DE K B (tCB (fun xs H Q => (∃ i, xs = [.int i] ∧ Q (.int i) H) ∨ ∃ k, xs = [.bl k] ∧ Q (.int (if k then 1 else 0)) H) (tCons te tNil)) ρ (if k then (1 : Int) else 0) := fun S0 H0 S H σ E Q q =>
  h S0 H0 S H σ E _ fun v S1 H1 e1 r => .inr ⟨k, by cases r; rfl, q _ S1 H1 e1 rfl⟩
theorem d_max2 (h : DE K B ta ρ i) (h' : DE K B tb ρ j) : DE K B (tCB (fun xs H Q => ∃ i j, xs = [.int i, .int j] ∧ Q (.int (if j > i then j else i)) H) (tCons ta (tCons tb tNil))) ρ (max i j) := fun S0 H0 S H σ E Q q =>
  h S0 H0 S H σ E _ fun v S1 H1 e1 r => h' S0 H0 S1 H1 σ (E.go e1) _ fun w S2 H2 e2 r2 => ⟨i, j, by cases r; cases r2; rfl, q _ S2 H2 (e1.trans e2) (by
    show V.int (if j > i then j else i) = V.int (max i j)
    congr 1
    split <;> omega)⟩
theorem d_min2 (h : DE K B ta ρ i) (h' : DE K B tb ρ j) : DE K B (tCB (fun xs H Q => ∃ i j, xs = [.int i, .int j] ∧ Q (.int (if j < i then j else i)) H) (tCons ta (tCons tb tNil))) ρ (min i j) := fun S0 H0 S H σ E Q q =>
  h S0 H0 S H σ E _ fun v S1 H1 e1 r => h' S0 H0 S1 H1 σ (E.go e1) _ fun w S2 H2 e2 r2 => ⟨i, j, by cases r; cases r2; rfl, q _ S2 H2 (e1.trans e2) (by
    show V.int (if j < i then j else i) = V.int (min i j)
    congr 1
    split <;> omega)⟩
def DM {α : Type} [Enc α] (K : PySem.W.Frag) (B : Addr → Prop) (te : TE) (ρ ρ' : List Slot) (a : α) : Prop := ∀ S0 H0 S H σ, En K B S0 H0 S H σ ρ → ∀ Q : VK, (∀ v S' H', Same S S' → En K B S0 H0 S' H' σ ρ' → Enc.rep K S' v a → Q v H') → te σ H Q
def DML {α : Type} [Enc α] (K : PySem.W.Frag) (B : Addr → Prop) (ta : TA) (ρ ρ' : List Slot) (xs : List α) : Prop := ∀ S0 H0 S H σ, En K B S0 H0 S H σ ρ → ∀ Q : List V → Hp → Prop, (∀ vs S' H', Same S S' → En K B S0 H0 S' H' σ ρ' → Paired (Enc.rep K S') vs xs → Q vs H') → ta σ H Q
theorem DE.m (h : DE K B te ρ a) : DM K B te ρ ρ a := fun S0 H0 S H σ E Q q => h S0 H0 S H σ E _ fun v S1 H1 e1 r => q v S1 H1 e1.s (E.go e1) r
theorem DL.m {tr : TA} {xs : List α} (h : DL K B tr ρ xs) : DML K B tr ρ ρ xs := fun S0 H0 S H σ E Q q => h S0 H0 S H σ E _ fun v S1 H1 e1 r => q v S1 H1 e1.s (E.go e1) r
class DatE (α : Type) [Enc α] where
  d : α → PyData
  dp : ∀ {K : PySem.W.Frag} {S : Hp} {v : V} {a : α}, Enc.rep K S v a → Dp K S v (d a)
  can : ∀ a : α, PyData.canLay0 (d a) = true
  k : Nat
  dep : ∀ a : α, PyData.depth (d a) ≤ k
  inj : ∀ (a b : α), PyData.eqv (d a) (d b) = true ↔ a = b
theorem eqvAll_inj {δ : Type} {e : Enc δ} (dt : DatE δ) : ∀ (xs ys : List δ), PyData.eqvAll (xs.map dt.d) (ys.map dt.d) = true ↔ xs = ys
  | [], [] => by simp [PyData.eqvAll]
  | [], y :: q => by simp [PyData.eqvAll]
  | x :: r, [] => by simp [PyData.eqvAll]
  | x :: r, y :: q => by
    rw [List.map_cons, List.map_cons, PyData.eqvAll, Bool.and_eq_true, dt.inj, eqvAll_inj dt r q]
    simp
theorem canAll {δ : Type} {e : Enc δ} (dt : DatE δ) : ∀ xs : List δ, PyData.canLayAll0 (xs.map dt.d) = true
  | [] => by simp [PyData.canLayAll0]
  | x :: r => by rw [List.map_cons, PyData.canLayAll0, dt.can, canAll dt r]; rfl
theorem depAll {δ : Type} {e : Enc δ} (dt : DatE δ) : ∀ xs : List δ, PyData.depthAll (xs.map dt.d) ≤ dt.k
  | [] => by simp [PyData.depthAll]
  | x :: r => by rw [List.map_cons, PyData.depthAll]; exact Nat.max_le.mpr ⟨dt.dep x, depAll dt r⟩
theorem dpAll {δ : Type} {e : Enc δ} (dt : DatE δ) {S : Hp} : ∀ {vs : List V} {xs : List δ}, Paired (Enc.rep K S) vs xs → DpAll K S vs (xs.map dt.d)
  | _, _, .nil => .nil
  | _, _, .cons h r => .cons (dt.dp h) (dpAll dt r)
instance : DatE Int where
  d := .int
  dp h := by cases h; exact .int _
  can _ := by simp [PyData.canLay0]
  k := 0
  dep _ := by simp [PyData.depth]
  inj a b := by simp [PyData.eqv]
instance : DatE Bool where
  d := .bool
  dp h := by cases h; exact .bl _
  can _ := by simp [PyData.canLay0]
  k := 0
  dep _ := by simp [PyData.depth]
  inj a b := by simp [PyData.eqv]
instance : DatE (Option Int) where
  d o := match o with
    | none => .none
    | some i => .int i
  dp {K S v a} h := by
    cases a with
    | none => cases h; exact .non
    | some i => cases h; exact .int i
  can a := by cases a <;> simp [PyData.canLay0]
  k := 0
  dep a := by cases a <;> simp [PyData.depth]
  inj a b := by cases a <;> cases b <;> simp [PyData.eqv]
instance {δ : Type} [Enc δ] [dt : DatE δ] : DatE (U δ) where
  d xs := .tuple (List.map dt.d xs)
  dp h := by
    obtain ⟨_, p, vs, rfl, hh, r⟩ := h
    exact .tup hh (dpAll dt r)
  can xs := by rw [PyData.canLay0]; exact canAll dt xs
  k := dt.k + 1
  dep xs := by rw [PyData.depth]; exact Nat.succ_le_succ (depAll dt xs)
  inj a b := by rw [PyData.eqv]; exact eqvAll_inj dt a b
instance {δ : Type} [Enc δ] [dt : DatE δ] : DatE (L δ) where
  d xs := .list (List.map dt.d xs)
  dp h := by
    obtain ⟨_, p, vs, rfl, hh, r⟩ := h
    exact .lst (.inl (.inl hh)) (dpAll dt r)
  can xs := by rw [PyData.canLay0]; exact canAll dt xs
  k := dt.k + 1
  dep xs := by rw [PyData.depth]; exact Nat.succ_le_succ (depAll dt xs)
  inj a b := by rw [PyData.eqv]; exact eqvAll_inj dt a b
instance {δ ε : Type} [Enc δ] [Enc ε] [dt : DatE δ] [de : DatE ε] : DatE (δ × ε) where
  d p := .tuple [dt.d p.1, de.d p.2]
  dp h := by
    obtain ⟨p, v1, v2, rfl, hh, r1, r2⟩ := h
    exact .tup hh (.cons (dt.dp r1) (.cons (de.dp r2) .nil))
  can p := by simp [PyData.canLay0, PyData.canLayAll0, dt.can, de.can]
  k := max dt.k de.k + 1
  dep p := by
    simp only [PyData.depth, PyData.depthAll]
    have h1 := dt.dep p.1
    have h2 := de.dep p.2
    omega
  inj a b := by
    rw [PyData.eqv, PyData.eqvAll, PyData.eqvAll, PyData.eqvAll, Bool.and_eq_true, Bool.and_eq_true, dt.inj, de.inj]
    constructor
    · rintro ⟨h1, h2, _⟩
      exact Prod.ext h1 h2
    · rintro rfl
      exact ⟨rfl, rfl, rfl⟩
instance {δ ε ζ : Type} [Enc δ] [Enc ε] [Enc ζ] [dt : DatE δ] [de : DatE ε] [dz : DatE ζ] : DatE (T3 δ ε ζ) where
  d p := .tuple [dt.d p.a, de.d p.b, dz.d p.c]
  dp h := by
    obtain ⟨p, v1, v2, v3, rfl, hh, r1, r2, r3⟩ := h
    exact .tup hh (.cons (dt.dp r1) (.cons (de.dp r2) (.cons (dz.dp r3) .nil)))
  can p := by simp [PyData.canLay0, PyData.canLayAll0, dt.can, de.can, dz.can]
  k := max dt.k (max de.k dz.k) + 1
  dep p := by
    simp only [PyData.depth, PyData.depthAll]
    have h1 := dt.dep p.a
    have h2 := de.dep p.b
    have h3 := dz.dep p.c
    omega
  inj a b := by
    rw [PyData.eqv, PyData.eqvAll, PyData.eqvAll, PyData.eqvAll, PyData.eqvAll, Bool.and_eq_true, Bool.and_eq_true, Bool.and_eq_true, dt.inj, de.inj, dz.inj]
    obtain ⟨a1, a2, a3⟩ := a
    obtain ⟨b1, b2, b3⟩ := b
    constructor
    · rintro ⟨h1, h2, h3, _⟩
      cases h1
      cases h2
      cases h3
      rfl
    · rintro ⟨⟩
      exact ⟨rfl, rfl, rfl, rfl⟩
end
end WW
set_option Elab.async false
set_option linter.all false
set_option maxRecDepth 100000
set_option maxHeartbeats 4000000
namespace WW
open PySem PySem.Spec PyProof.Rows L2 ClX
structure CmAt (P : Program) (w : World) (K : PySem.W.Frag) (mg : Str → Option Value) (base : Heap) (CX : CXT) (k : Nat) (C : Addr) (m : Str) (sp : Sp) : Prop where
  ex : ∃ mc p g, CRead K C mc ∧ CMet K C mc m p g ∧ FnR P w K mg base CX k g sp
section
variable {X : Cx} {k j : Nat} {C : Addr} {sp : Sp} {o e : Expr} {es : List Expr} {m : Str} {pos apos : Pos} {ta : TE} {t : TA} {pl : Sem Bool} {W : WX}
theorem pe_cm (K : PySem.W.Frag) (F : CmAt X.prog X.w K X.mg X.base CX0 k C m sp) (hr : Room j X.A) (he : PE X o ta) (ha : PA X (e :: es) t) (hk : k ≤ j := by decide) (hK : X.K = K := by rfl)
    (hst : starEach (e :: es) X.env = (false, eval e X.env) :: starEach es X.env := by rfl) (hpl : (backTo pos (starEach es X.env)).any (·.1) = false := by rfl)
    (ht : eval (.Call (.Attribute o m apos) (e :: es) [] pos) X.env = (do
      let ov ← eval o X.env
      standAt apos.atName
      let (f, first) ← holding [ov] (getMethod ov m pl)
      callWith pos f first (backTo pos (starEach (e :: es) X.env)) (backToKw pos (keywordEach [] X.env))) := by rfl) :
    PE X (.Call (.Attribute o m apos) (e :: es) [] pos) (tCMeth C sp E0 ta t) := by
  subst hK
  obtain ⟨mc, p, g, r, c, F1⟩ := F.ex
  exact pe_cmeth (pl := pl) he r c F1 (hr.mono hk) pass0 ha hst hpl ht
end
def tMakeLS (i : Nat) (C : Addr) (sp : Sp) (dvs : List V) (E : L2.St → XK) (t : TA) : TE := fun σ H Q => σ[i]? = some (some (.ref C)) ∧ t σ H fun vs H1 => ∀ x dx, H1 x = none → H1 dx = none → dx ≠ x → sp (.ref x :: (vs ++ dvs)) (upd (upd H1 dx (.own x)) x (.ins C dx [])) (fun v H2 => v = .non ∧ Q (.ref x) H2) (E σ)
section
variable {X : Cx} {k j i : Nat} {x y : Str} {ps : List Str} {sp : Sp} {e : Expr} {es : List Expr} {t : TA} {p pos : Pos} {dvs : List V} {W : WX}
theorem pe_mkLX (K : PySem.W.Frag) (F : MkAtX X.prog X.w K X.mg X.base k y ps sp dvs) (tk : Takes X W) (hr : Room j X.A) (hN : X.N[i]? = some x) (hv : Vis X.env.scope x) (ha : PA X (e :: es) t) (hk : k + 1 ≤ j := by decide) (hK : X.K = K := by rfl)
    (hdb : (x == ("__debug__" : Str)) = false := by decide) (hcd : (x == ("__classdict__" : Str)) = false := by decide) (he : starEach (e :: es) X.env = (false, eval e X.env) :: starEach es X.env := by rfl) (hpl : (backTo pos (starEach es X.env)).any (·.1) = false := by rfl) :
    PE X (.Call (.Name x p) (e :: es) [] pos) (tMakeLS i (He.ga K y) sp dvs (WE W) t) := by
  subst hK
  obtain ⟨f, fd, ds, M, F1, hd, hb⟩ := F.ex
  refine ⟨fun pins s0 σ H0 Q I0 h0 => ?_⟩
  obtain ⟨hs0, h0⟩ := h0
  refine wpAny_Call_Name_kw (thn ((pe_var (pos := p) hN hv hdb hcd).run pins s0 σ H0 (fun v H1 => v = .ref (He.ga X.K y) ∧ H1 = H0) I0 ⟨_, hs0, rfl, rfl⟩) fun u s1 ⟨v, H1, I1, r1, q1⟩ => ?_)
  obtain ⟨rfl, rfl⟩ := q1
  cases r1
  refine PySem.W.callWith_K (h₀ := X.base) I0.ok.mod.kin M.kp (thn (ha.run pos pins s1 σ _ _ I1 h0) fun us s ⟨vs, H, I, r, h⟩ => ⟨I.kIn, ?_⟩) he hpl
  have hq := h (s.heap.objs.size + 1) s.heap.objs.size (I.hok.fresh (Nat.le_succ _)) (I.hok.fresh (Nat.le_refl _)) (Nat.ne_of_lt (Nat.lt_succ_self _))
  have I2 := Inv.made (C := He.ga X.K y) I
  have r2 : Vals (V.ref (s.heap.objs.size + 1) :: (vs ++ dvs)) (Value.ref (s.heap.objs.size + 1) :: (us ++ ds)) := .cons rfl (r.append hd)
  have hl : (Value.ref (s.heap.objs.size + 1) :: us ++ ds).length = ps.length := by
    have e := r2.length
    rw [F1.len _ _ _ _ hq] at e
    exact e.symm
  show wpAny _ _ (call (.ref (He.ga X.K y)) us) _ _ _
  refine wpAny_call (make_map (f := f) I.kIn M.makes M.init (beq_iff_eq.mp M.fn) (codeAny_mono (F1.run _ X.stack _ _ ⟨Value.ref (s.heap.objs.size + 1) :: us, []⟩ (Value.ref (s.heap.objs.size + 1) :: (us ++ ds)) _ _ (WE W σ) ((hr.mono hk).make (He.ga X.K y) us [])
    (I2.env0.make (He.ga X.K y) us []) (hb _ (Value.ref (s.heap.objs.size + 1) :: us) I2.kIn hl) r2 hq) fun r s' hq' => ?_))
  cases r with
  | error e => exact passAt tk σ pins _ _ e s' I2 hq'
  | ok fl =>
    cases fl with
    | ret u =>
      obtain ⟨v, H', I3, rv, ev, q3⟩ := I2.after hq'
      subst ev
      exact ⟨rv, ⟨V.ref (s.heap.objs.size + 1), H', I3, rfl, q3⟩⟩
    | next => exact False.elim hq'
    | brk => exact False.elim hq'
    | cont => exact False.elim hq'
end
end WW
set_option Elab.async false
set_option linter.all false
set_option maxRecDepth 100000
set_option maxHeartbeats 4000000
namespace WW
open PySem PySem.Spec PyProof.Rows L2
def oexB (K : PySem.W.Frag) (C : Addr) : Bool :=
  (match K.lookup C with
    | some ⟨.type "type", _, .cls cd, sl⟩ => (match cd.mro, sl.toList with
      | .ref C' :: bm, [_, _, _, _, some (.builtin n), _] => C' == C && n == "ValueError.__new__" && !cd.hasDel && cd.hasDict && PySem.HandSPX.refsVE bm
      | _, _ => false)
    | _ => false) && (He.eqO (PySem.W.findIn K (.ref C) "__setattr__") (some (some (.builtin "object.__setattr__"))) && (decide (PySem.W.subIn K (.ref C) (.type "BaseException") = some true) && (decide (PySem.W.typeIn K (.ref C) = some (.type "type")) && PySem.W.keepIn K (.ref C))))
theorem oexB_ok {K : PySem.W.Frag} {C : Addr} (h : oexB K C = true) : OexC K C := by
  obtain ⟨h0, h⟩ := He.ba h
  obtain ⟨h1, h⟩ := He.ba h
  obtain ⟨h2, h⟩ := He.ba h
  obtain ⟨h3, h4⟩ := He.ba h
  refine ⟨?_, He.eqO_ok h1, of_decide_eq_true h2, of_decide_eq_true h3, h4⟩
  split at h0
  · rename_i dd cd sl ho
    split at h0
    · rename_i C' bm k0 k1 k2 k3 n k5 hm hs
      simp only [Bool.and_eq_true, beq_iff_eq, Bool.not_eq_true'] at h0
      obtain ⟨⟨⟨⟨rfl, rfl⟩, hdel⟩, hdct⟩, ht⟩ := h0
      obtain ⟨nm, bs, mro, ns, qn, hd, sn, sub, ab, col, del⟩ := cd
      dsimp only at hm hdel hdct
      subst hm hdel hdct
      have hsl : sl = #[k0, k1, k2, k3, some (.builtin "ValueError.__new__"), k5] := by
        obtain ⟨l⟩ := sl
        simp only at hs
        rw [hs]
      subst hsl
      exact ⟨nm, qn, ns, bs, bm, sn, sub, ab, col, dd, k0, k1, k2, k3, k5, ho, ht⟩
    · cases h0
  · cases h0
abbrev SupV : Type := Option (Str × Arguments × FuncBody × Scope × Addr × Addr)
def supO (K : PySem.W.Frag) (C : Addr) : SupV := match K.lookup (He.ma K C "__init__") with
  | some ⟨_, _, .func fd, _⟩ => some (fd.qualname, fd.params, fd.body, fd.scope, fd.globals, fd.builtins)
  | _ => none
def supB (K : PySem.W.Frag) (file : Str) (C : Addr) : Bool :=
  (match K.lookup (He.ma K C "__init__") with
    | some ⟨_, _, .func fd, _⟩ => (match fd.closure, fd.code with
      | [(n, cc)], .ref cda => ((n == ("__class__" : Str)) && (fd.defaults == Value.none)) && (PySem.W.codeIn K (.ref cda) fd.qualname && ((match K.lookup cc with
          | some ⟨_, _, .cell (some (.ref D)), _⟩ => D == C
          | _ => false) && (match K.lookup cda with
          | some ⟨_, _, .fields vs, _⟩ => (match (vs : Array Value)[2]? with
            | some (Value.str fl _) => file == fl
            | _ => false)
          | _ => false)))
      | _, _ => false)
    | _ => false) && (oexB K C && (He.eqO (PySem.W.findIn K (.ref C) "__init__") (some (some (.ref (He.ma K C "__init__")))) && (decide (PySem.W.typeIn K (.ref (He.ma K C "__init__")) = some (.type "function")) && (He.eqO (PySem.W.ks_superIn K C C "__init__") (some (some (.builtin "ValueError.__init__"))) &&
      (decide (PySem.W.mroIn K C (.ref C) = some true) && (decide (PySem.W.subIn K (.ref C) (.type "ValueError") = some true) && He.eqO (PySem.W.nsIn K cStatics "thirdparty.any") (some none)))))))
theorem supB_ok {P : Program} {K : PySem.W.Frag} {C : Addr} {qual : Str} {params : Arguments} {body : List Stmt} {scope : Scope} (h : supB K P.main.file C = true) (e : supO K C = some (qual, params, .stmts body, scope, mainGlobals, builtinsNs)) (top : (P.main.scope.names.lookup ("super" : Str)).isSome = false) : SupC P K C (He.ma K C "__init__") qual params body scope := by
  obtain ⟨h0, h⟩ := He.ba h
  obtain ⟨h1, h⟩ := He.ba h
  obtain ⟨h2, h⟩ := He.ba h
  obtain ⟨h3, h⟩ := He.ba h
  obtain ⟨h4, h⟩ := He.ba h
  obtain ⟨h5, h⟩ := He.ba h
  obtain ⟨h6, h7⟩ := He.ba h
  refine ⟨oexB_ok h1, He.eqO_ok h2, of_decide_eq_true h3, ?_, He.eqO_ok h4, of_decide_eq_true h5, of_decide_eq_true h6, He.eqO_ok h7, top⟩
  unfold supO at e
  split at h0
  · rename_i oc od fd osl ho
    rw [ho] at e
    obtain ⟨n1, n2, n3, n4, n5, n6, n7, n8, n9, n10, n11, n12, n13, n14, n15⟩ := fd
    have e2 : (some (n2, n3, n4, n5, n6, n15) : SupV) = some (qual, params, .stmts body, scope, mainGlobals, builtinsNs) := e
    simp only [Option.some.injEq, Prod.mk.injEq] at e2
    obtain ⟨q1, q2, q3, q4, q5, q6⟩ := e2
    subst q1 q2 q3 q4 q5 q6
    split at h0
    · rename_i n cc cda hcl hcd
      dsimp only at hcl hcd
      subst hcl hcd
      obtain ⟨g1, h0⟩ := He.ba h0
      obtain ⟨g2, h0⟩ := He.ba h0
      obtain ⟨g3, g4⟩ := He.ba h0
      obtain ⟨g1, g0⟩ := He.ba g1
      rw [beq_iff_eq] at g1 g0
      subst g1 g0
      split at g3
      · rename_i cl cld D csl hcc
        rw [beq_iff_eq] at g3
        subst g3
        split at g4
        · rename_i ccl cdd vs ccs hcode
          split at g4
          · rename_i fl tf hvs
            exact ⟨n1, oc, od, n9, n10, n11, n12, cda, cc, n14, osl, ccl, cdd, vs, ccs, fl, tf, cl, cld, csl, ho, g2, hcode, hvs, g4, hcc⟩
          · cases g4
        · cases g4
      · cases g3
    · cases h0
  · cases h0
def excCB (K : PySem.W.Frag) (C : Addr) : Bool :=
  He.eqO (PySem.W.findIn K (.ref C) "__getattribute__") (some (some (.builtin "BaseException.__getattribute__"))) && (He.eqO (PySem.W.findIn K (.ref C) "__getattr__") (some none) && (decide (PySem.W.subIn K (.ref C) (.type "BaseException") = some true) && (PySem.W.hasDictIn K C && (He.eqO (PySem.W.findIn K (.ref C) "__class__") (some (some (.builtin "object.__class__"))) &&
    (He.eqO (PySem.W.specialIn K (.builtin "object.__class__") "__get__") (some (some (.builtin "getset_descriptor.__get__"))) && (decide (PySem.W.takesIn K (.builtin "object.__class__") = some true) && decide (PySem.W.mroIn K C (.type "object") = some true)))))))
theorem excCB_ok {K : PySem.W.Frag} {C : Addr} (h : excCB K C = true) : ExcC K C ∧ XfC K C := by
  obtain ⟨h1, h⟩ := He.ba h
  obtain ⟨h2, h⟩ := He.ba h
  obtain ⟨h3, h⟩ := He.ba h
  obtain ⟨h4, h⟩ := He.ba h
  obtain ⟨h5, h⟩ := He.ba h
  obtain ⟨h6, h⟩ := He.ba h
  obtain ⟨h7, h8⟩ := He.ba h
  exact ⟨⟨He.eqO_ok h1, He.eqO_ok h2, of_decide_eq_true h3, h4, He.eqO_ok h5, He.eqO_ok h6, of_decide_eq_true h7, of_decide_eq_true h8⟩, ⟨He.eqO_ok h1, He.eqO_ok h2, of_decide_eq_true h3, h4⟩⟩
section
variable (n : Nat) (fa : List He.Fa) (fn : List He5.DefA) (ex : PySem.W.Frag → Bool) (cs : List Str) (vs : List SupV)
def SaysS (K : PySem.W.Frag) : Prop := SaysW fa fn ex K ∧ (cs.map fun x => supO K (He.ga K x)) = vs
end
end WW
set_option Elab.async false
set_option linter.all false
set_option maxRecDepth 100000
set_option maxHeartbeats 4000000
namespace WW
open PySem PySem.Spec PyProof.Rows L2
def bitQ (m a : Nat) : Bool := Nat.beq (Nat.land (Nat.shiftRight m a) 1) 1
def freshQ {β : Type} : List Addr → Nat → List Addr → (Nat → List Addr → β) → β
  | [], m, acc, k => k m acc
  | a :: r, m, acc, k => match bitQ m a with
    | true => freshQ r m acc k
    | false => freshQ r (Nat.lor m (Nat.shiftLeft 1 a)) (a :: acc) k
def refsQ (g : Addr → Option PySem.Obj) : List Addr → List Addr
  | [] => []
  | a :: r => match g a with
    | some o => He.refsD o ++ refsQ g r
    | none => refsQ g r
def layQ (g : Addr → Option PySem.Obj) : Nat → List Addr → Nat → List Addr → List Addr
  | 0, fr, _, al => al ++ fr
  | n + 1, fr, m, al => freshQ (refsQ g fr) m [] fun m' fr' => layQ g n fr' m' (al ++ fr)
def asQ (g : Addr → Option PySem.Obj) (n : Nat) : List Addr := layQ g n [mainGlobals, cStatics] (Nat.lor (Nat.shiftLeft 1 mainGlobals) (Nat.shiftLeft 1 cStatics)) []
section
variable (n : Nat) (fa : List He.Fa) (fn : List He5.DefA) (ex : PySem.W.Frag → Bool) (cs : List Str) (vs : List SupV)
def obsQ (g : Addr → Option PySem.Obj) : (He.AlD × Bool) × List SupV := ((He5.obsA fa fn (He.frG g (asQ g n)), ex (He.frG g (asQ g n))), cs.map fun x => supO (He.frG g (asQ g n)) (He.ga (He.frG g (asQ g n)) x))
def hookQ : PySem.W.Hook where
  α := (He.AlD × Bool) × List SupV
  obs := fun s => obsQ n fa fn ex cs s.heap.get?
  val := fun _ => ((He5.valA fn, true), vs)
  says := fun _ h => ∃ K : PySem.W.Frag, K.In h ∧ SaysS fa fn ex cs vs K
  of := fun _ s e => ⟨He.frG s.heap.get? (asQ s.heap.get? n), He.frG_in, ⟨congrArg (fun z : (He.AlD × Bool) × List SupV => z.1.1) e, congrArg (fun z : (He.AlD × Bool) × List SupV => z.1.2) e⟩, congrArg (fun z : (He.AlD × Bool) × List SupV => z.2) e⟩
  keeps := fun _ _ _ ⟨K, hK, c⟩ k => ⟨K, PySem.W.Frag.In.keeps hK k, c⟩
end
theorem obsQ_eq {n : Nat} {fa : List He.Fa} {fn : List He5.DefA} {ex : PySem.W.Frag → Bool} {cs : List Str} {vs : List SupV} {g : Addr → Option PySem.Obj} {s : Shared} (h : ∀ a, g a = s.heap.get? a) : obsQ n fa fn ex cs g = (hookQ n fa fn ex cs vs).obs s := by
  rw [show g = s.heap.get? from funext h]
  rfl
theorem runJ {α β γ δ ε : Type} {e : Option α} {f : α → β} {g : α → γ} {h : α → δ} {k : α → ε} {x : β} {y : γ} {z : δ} {u : ε} (a : e.map (fun s => (f s, g s, h s)) = some (x, y, z)) (b : e.map k = some u) : e.map (fun s => (f s, g s, k s)) = some (x, y, u) := by
  cases e with
  | none => cases b
  | some s =>
    have a := Option.some.inj a
    have b : k s = u := Option.some.inj b
    rw [Option.map_some, b]
    exact congrArg some (Prod.ext (congrArg (fun z => z.1) a) (Prod.ext (congrArg (fun z => z.2.1) a) rfl))
end WW
set_option Elab.async false
set_option linter.all false
set_option maxRecDepth 100000
namespace WW
open PySem PySem.Spec PyProof.Rows L2
def top (i : Nat) : Stmt := PySem.Challenge.pw_waitworks_k09_modules_made.main.body.getD i (.Pass ⟨0, 0, 0, 0⟩)
abbrev FnP (K : PySem.W.Frag) (x : Str) (st : Stmt) (f : Addr) (fd : FuncData) : Prop := FunD K x x (defArgs st) (defBody st) (defScope st) [] [] f fd
end WW
set_option Elab.async false
set_option linter.all false
set_option maxRecDepth 100000
set_option maxHeartbeats 4000000
namespace WW
open PySem PySem.Spec PyProof.Rows L2
theorem cread_ok {K : PySem.W.Frag} {C : Addr} (h0 : PySem.W.readsIn K C (.type "type") = true) : ClX.CRead K C (.type "type") := by
  refine ⟨h0, ?_⟩
  have h := h0
  unfold PySem.W.readsIn at h
  obtain ⟨h, _⟩ := He.ba h
  obtain ⟨h, _⟩ := He.ba h
  obtain ⟨h, h3⟩ := He.ba h
  obtain ⟨_, h2⟩ := He.ba h
  unfold PySem.W.specialIn
  rw [beq_iff_eq.mp h2, Option.bind_some]
  exact beq_iff_eq.mp h3
end WW
set_option Elab.async false
set_option linter.all false
set_option maxRecDepth 100000
set_option maxHeartbeats 4000000
namespace WW
open PySem PySem.Spec PyProof.Rows L2
structure EmT (K : PySem.W.Frag) (a : Addr) : Prop where
  ex : ∃ (o : Obj) (n : Nat), K.lookup a = some o ∧ o.cls = .type "tuple" ∧ o.data = .seq #[] n
def emB (K : PySem.W.Frag) (a : Addr) : Bool := match K.lookup a with
  | some ⟨.type t, _, .seq its _, _⟩ => decide (t = "tuple") && its.isEmpty
  | _ => false
theorem emB_ok {K : PySem.W.Frag} {a : Addr} (h : emB K a = true) : EmT K a := by
  unfold emB at h
  split at h
  · rename_i t dd its n sl e
    rw [Bool.and_eq_true] at h
    refine ⟨_, n, e, ?_, ?_⟩
    · rw [of_decide_eq_true h.1]
    · have : its = #[] := by simpa using h.2
      rw [this]
  · cases h
end WW
set_option Elab.async false
set_option linter.all false
set_option maxRecDepth 100000
set_option maxHeartbeats 4000000
namespace WW
open PySem PySem.Spec PyProof.Rows L2
abbrev ORD : List Str := ["module", "in", "out", "at", "use", "link"]
structure SqC (K : PySem.W.Frag) (a : Addr) (zs : List Str) : Prop where
  ex : ∃ (o : Obj) (its : Array Value) (n : Nat), K.lookup a = some o ∧ o.cls = .type "tuple" ∧ o.dict = none ∧ o.data = .seq its n ∧ its.size ≤ sizeLine ∧ Vals (zs.map V.str) its.toList
def strsB : List Str → List Value → Bool
  | [], [] => true
  | z :: zs, .str y _ :: us => decide (y = z) && strsB zs us
  | _, _ => false
theorem strsB_ok : ∀ {zs : List Str} {us : List Value}, strsB zs us = true → Vals (zs.map V.str) us
  | [], [], _ => .nil
  | [], _ :: _, h => by cases h
  | z :: zs, [], h => by cases h
  | z :: zs, u :: us, h => by
    cases u with
    | str y t =>
      rw [strsB, Bool.and_eq_true] at h
      have e := of_decide_eq_true h.1
      subst e
      exact .cons ⟨t, rfl⟩ (strsB_ok h.2)
    | _ => cases h
def sqB (K : PySem.W.Frag) (a : Addr) (zs : List Str) : Bool := match K.lookup a with
  | some ⟨.type t, none, .seq its _, _⟩ => decide (t = "tuple") && (decide (its.size ≤ sizeLine) && strsB zs its.toList)
  | _ => false
theorem sqB_ok {K : PySem.W.Frag} {a : Addr} {zs : List Str} (h : sqB K a zs = true) : SqC K a zs := by
  unfold sqB at h
  split at h
  · rename_i t its n sl e
    rw [Bool.and_eq_true, Bool.and_eq_true] at h
    refine ⟨_, its, n, e, ?_, rfl, rfl, of_decide_eq_true h.2.1, strsB_ok h.2.2⟩
    rw [of_decide_eq_true h.1]
  · cases h
structure ApT (K : PySem.W.Frag) (C : Addr) (t : Value) : Prop where
  no : PySem.W.kitOne K t (.ref C) = some false
  nf : PySem.W.notFirst K C t = true
def apT (K : PySem.W.Frag) (C : Addr) (t : Value) : Bool := decide (PySem.W.kitOne K t (.ref C) = some false) && PySem.W.notFirst K C t
theorem apT_ok {K : PySem.W.Frag} {C : Addr} {t : Value} (h : apT K C t = true) : ApT K C t := by
  obtain ⟨h1, h2⟩ := He.ba h
  exact ⟨of_decide_eq_true h1, h2⟩
end WW
set_option Elab.async false
set_option linter.all false
set_option maxRecDepth 100000
set_option maxHeartbeats 4000000
namespace WW
open PySem PySem.Spec PyProof.Rows L2
abbrev s_is_integer : Stmt := top 17
abbrev s_is_number : Stmt := top 18
abbrev s_is_sequence : Stmt := top 19
abbrev s_is_name : Stmt := top 20
abbrev s_is_end : Stmt := top 25
abbrev s_are_fresh : Stmt := top 36
abbrev s_is_pair : Stmt := top 37
abbrev s_labels_in : Stmt := top 38
abbrev s_is_there : Stmt := top 39
abbrev s_is_link : Stmt := top 40
abbrev s_Module___init__ : Stmt := inClass (top 41) 0
abbrev s_led_end : Stmt := top 9
abbrev s_shape_of : Stmt := top 10
abbrev s_loose_places : Stmt := top 11
abbrev s_turned_about : Stmt := top 12
abbrev s_ring_of : Stmt := top 13
abbrev s_known_shapes : Stmt := top 44
abbrev s_ends_are_there : Stmt := top 42
abbrev s_known_modules : Stmt := top 43
abbrev s_House___init__ : Stmt := inClass (top 45) 0
abbrev s_names_line : Stmt := top 26
abbrev s_module_lines : Stmt := top 27
abbrev s_Module___str__ : Stmt := inClass (top 41) 3
abbrev s_number_in : Stmt := top 21
abbrev s_link_in : Stmt := top 28
abbrev s_is_line : Stmt := top 29
abbrev s_may_follow : Stmt := top 30
abbrev s_Told_add : Stmt := inClass (top 31) 1
abbrev s_Told___init__ : Stmt := inClass (top 31) 0
abbrev s_Told_arguments : Stmt := inClass (top 31) 2
abbrev s_told_modules : Stmt := top 32
abbrev s_l_take : Stmt := top 48
abbrev s_l_pick : Stmt := top 49
abbrev s_l_box : Stmt := top 47
abbrev s_l_mixed : Stmt := top 50
abbrev s_l_names : Stmt := top 51
abbrev s_l_begins : Stmt := top 53
abbrev s_l_goes : Stmt := top 54
abbrev s_l_links : Stmt := top 55
abbrev s_l_module : Stmt := top 52
abbrev s_l_house : Stmt := top 56
abbrev s_Module___eq__ : Stmt := inClass (top 41) 2
abbrev s_read_module : Stmt := top 34
abbrev s_Module_read : Stmt := inClass (top 41) 1
abbrev s_l_text : Stmt := top 57
abbrev s_l_shape : Stmt := top 58
abbrev s_l_is_unlike_others : Stmt := top 59
abbrev s_law : Stmt := top 60
end WW
set_option Elab.async false
set_option linter.all false
set_option maxRecDepth 100000
set_option maxHeartbeats 0
namespace WW
open PySem PySem.Spec PyProof.Rows L2
def d_l_take : He5.DefA := ⟨fun K => He.fAd K ("_law_take", none), "_law_take", "_law_take", defArgs s_l_take, defBody s_l_take, defScope s_l_take, [], []⟩
def d_l_pick : He5.DefA := ⟨fun K => He.fAd K ("_law_pick", none), "_law_pick", "_law_pick", defArgs s_l_pick, defBody s_l_pick, defScope s_l_pick, [], []⟩
def d_l_box : He5.DefA := ⟨fun K => He.fAd K ("_law_box", none), "_law_box", "_law_box", defArgs s_l_box, defBody s_l_box, defScope s_l_box, [], []⟩
def d_l_mixed : He5.DefA := ⟨fun K => He.fAd K ("_law_mixed", none), "_law_mixed", "_law_mixed", defArgs s_l_mixed, defBody s_l_mixed, defScope s_l_mixed, [], []⟩
def d_l_names : He5.DefA := ⟨fun K => He.fAd K ("_law_names", none), "_law_names", "_law_names", defArgs s_l_names, defBody s_l_names, defScope s_l_names, [], []⟩
def d_l_begins : He5.DefA := ⟨fun K => He.fAd K ("_law_begins", none), "_law_begins", "_law_begins", defArgs s_l_begins, defBody s_l_begins, defScope s_l_begins, [], []⟩
def d_l_goes : He5.DefA := ⟨fun K => He.fAd K ("_law_goes", none), "_law_goes", "_law_goes", defArgs s_l_goes, defBody s_l_goes, defScope s_l_goes, [], []⟩
def d_l_links : He5.DefA := ⟨fun K => He.fAd K ("_law_links", none), "_law_links", "_law_links", defArgs s_l_links, defBody s_l_links, defScope s_l_links, [], []⟩
def d_l_module : He5.DefA := ⟨fun K => He.fAd K ("_law_module", none), "_law_module", "_law_module", defArgs s_l_module, defBody s_l_module, defScope s_l_module, [], []⟩
def d_l_house : He5.DefA := ⟨fun K => He.fAd K ("_law_house", none), "_law_house", "_law_house", defArgs s_l_house, defBody s_l_house, defScope s_l_house, [], []⟩
def d_is_integer : He5.DefA := ⟨fun K => He.fAd K ("is_integer", none), "is_integer", "is_integer", defArgs s_is_integer, defBody s_is_integer, defScope s_is_integer, [], []⟩
def d_is_number : He5.DefA := ⟨fun K => He.fAd K ("is_number", none), "is_number", "is_number", defArgs s_is_number, defBody s_is_number, defScope s_is_number, [], []⟩
def d_is_sequence : He5.DefA := ⟨fun K => He.fAd K ("is_sequence", none), "is_sequence", "is_sequence", defArgs s_is_sequence, defBody s_is_sequence, defScope s_is_sequence, [], []⟩
def d_is_name : He5.DefA := ⟨fun K => He.fAd K ("is_name", none), "is_name", "is_name", defArgs s_is_name, defBody s_is_name, defScope s_is_name, [], []⟩
def d_is_end : He5.DefA := ⟨fun K => He.fAd K ("is_end", none), "is_end", "is_end", defArgs s_is_end, defBody s_is_end, defScope s_is_end, [], []⟩
def d_are_fresh : He5.DefA := ⟨fun K => He.fAd K ("are_fresh", none), "are_fresh", "are_fresh", defArgs s_are_fresh, defBody s_are_fresh, defScope s_are_fresh, [], []⟩
def d_is_pair : He5.DefA := ⟨fun K => He.fAd K ("is_pair", none), "is_pair", "is_pair", defArgs s_is_pair, defBody s_is_pair, defScope s_is_pair, [], []⟩
def d_labels_in : He5.DefA := ⟨fun K => He.fAd K ("labels_in", none), "labels_in", "labels_in", defArgs s_labels_in, defBody s_labels_in, defScope s_labels_in, [], []⟩
def d_is_there : He5.DefA := ⟨fun K => He.fAd K ("is_there", none), "is_there", "is_there", defArgs s_is_there, defBody s_is_there, defScope s_is_there, [], []⟩
def d_is_link : He5.DefA := ⟨fun K => He.fAd K ("is_link", none), "is_link", "is_link", defArgs s_is_link, defBody s_is_link, defScope s_is_link, [], []⟩
def d_Module___init__ : He5.DefA := ⟨fun K => He.fAd K ("Module", some "__init__"), "__init__", "Module.__init__", defArgs s_Module___init__, defBody s_Module___init__, defScope s_Module___init__, [.adr (He.dflAt ("Module", some "__init__") 0)], []⟩
def d_led_end : He5.DefA := ⟨fun K => He.fAd K ("led_end", none), "led_end", "led_end", defArgs s_led_end, defBody s_led_end, defScope s_led_end, [], []⟩
def d_shape_of : He5.DefA := ⟨fun K => He.fAd K ("shape_of", none), "shape_of", "shape_of", defArgs s_shape_of, defBody s_shape_of, defScope s_shape_of, [], []⟩
def d_loose_places : He5.DefA := ⟨fun K => He.fAd K ("loose_places", none), "loose_places", "loose_places", defArgs s_loose_places, defBody s_loose_places, defScope s_loose_places, [], []⟩
def d_turned_about : He5.DefA := ⟨fun K => He.fAd K ("turned_about", none), "turned_about", "turned_about", defArgs s_turned_about, defBody s_turned_about, defScope s_turned_about, [], []⟩
def d_ring_of : He5.DefA := ⟨fun K => He.fAd K ("ring_of", none), "ring_of", "ring_of", defArgs s_ring_of, defBody s_ring_of, defScope s_ring_of, [], []⟩
def d_known_shapes : He5.DefA := ⟨fun K => He.fAd K ("known_shapes", none), "known_shapes", "known_shapes", defArgs s_known_shapes, defBody s_known_shapes, defScope s_known_shapes, [], []⟩
def d_ends_are_there : He5.DefA := ⟨fun K => He.fAd K ("ends_are_there", none), "ends_are_there", "ends_are_there", defArgs s_ends_are_there, defBody s_ends_are_there, defScope s_ends_are_there, [], []⟩
def d_known_modules : He5.DefA := ⟨fun K => He.fAd K ("known_modules", none), "known_modules", "known_modules", defArgs s_known_modules, defBody s_known_modules, defScope s_known_modules, [], []⟩
def d_House___init__ : He5.DefA := ⟨fun K => He.fAd K ("House", some "__init__"), "__init__", "House.__init__", defArgs s_House___init__, defBody s_House___init__, defScope s_House___init__, [], []⟩
def d_names_line : He5.DefA := ⟨fun K => He.fAd K ("names_line", none), "names_line", "names_line", defArgs s_names_line, defBody s_names_line, defScope s_names_line, [], []⟩
def d_module_lines : He5.DefA := ⟨fun K => He.fAd K ("module_lines", none), "module_lines", "module_lines", defArgs s_module_lines, defBody s_module_lines, defScope s_module_lines, [], []⟩
def d_Module___str__ : He5.DefA := ⟨fun K => He.fAd K ("Module", some "__str__"), "__str__", "Module.__str__", defArgs s_Module___str__, defBody s_Module___str__, defScope s_Module___str__, [], []⟩
def d_Module___eq__ : He5.DefA := ⟨fun K => He.fAd K ("Module", some "__eq__"), "__eq__", "Module.__eq__", defArgs s_Module___eq__, defBody s_Module___eq__, defScope s_Module___eq__, [], []⟩
def d_number_in : He5.DefA := ⟨fun K => He.fAd K ("number_in", none), "number_in", "number_in", defArgs s_number_in, defBody s_number_in, defScope s_number_in, [], []⟩
def d_link_in : He5.DefA := ⟨fun K => He.fAd K ("link_in", none), "link_in", "link_in", defArgs s_link_in, defBody s_link_in, defScope s_link_in, [], []⟩
def d_is_line : He5.DefA := ⟨fun K => He.fAd K ("is_line", none), "is_line", "is_line", defArgs s_is_line, defBody s_is_line, defScope s_is_line, [], []⟩
def d_may_follow : He5.DefA := ⟨fun K => He.fAd K ("may_follow", none), "may_follow", "may_follow", defArgs s_may_follow, defBody s_may_follow, defScope s_may_follow, [], []⟩
def d_Told___init__ : He5.DefA := ⟨fun K => He.fAd K ("Told", some "__init__"), "__init__", "Told.__init__", defArgs s_Told___init__, defBody s_Told___init__, defScope s_Told___init__, [], []⟩
def d_Told_add : He5.DefA := ⟨fun K => He.fAd K ("Told", some "add"), "add", "Told.add", defArgs s_Told_add, defBody s_Told_add, defScope s_Told_add, [], []⟩
def d_Told_arguments : He5.DefA := ⟨fun K => He.fAd K ("Told", some "arguments"), "arguments", "Told.arguments", defArgs s_Told_arguments, defBody s_Told_arguments, defScope s_Told_arguments, [], []⟩
def d_told_modules : He5.DefA := ⟨fun K => He.fAd K ("told_modules", none), "told_modules", "told_modules", defArgs s_told_modules, defBody s_told_modules, defScope s_told_modules, [], []⟩
def d_read_module : He5.DefA := ⟨fun K => He.fAd K ("read_module", none), "read_module", "read_module", defArgs s_read_module, defBody s_read_module, defScope s_read_module, [], []⟩
def d_Module_read : He5.DefA := ⟨fun K => He5.wf K (He.ga K "Module") "classmethod" "read", "read", "Module.read", defArgs s_Module_read, defBody s_Module_read, defScope s_Module_read, [], []⟩
def d_l_shape : He5.DefA := ⟨fun K => He.fAd K ("_law_shape", none), "_law_shape", "_law_shape", defArgs s_l_shape, defBody s_l_shape, defScope s_l_shape, [], []⟩
def d_l_text : He5.DefA := ⟨fun K => He.fAd K ("_law_text", none), "_law_text", "_law_text", defArgs s_l_text, defBody s_l_text, defScope s_l_text, [], []⟩
def d_l_is_unlike_others : He5.DefA := ⟨fun K => He.fAd K ("_law_is_unlike_others", none), "_law_is_unlike_others", "_law_is_unlike_others", defArgs s_l_is_unlike_others, defBody s_l_is_unlike_others, defScope s_l_is_unlike_others, [], []⟩
def d_law : He5.DefA := ⟨fun K => He.fAd K ("law", none), "law", "law", defArgs s_law, defBody s_law, defScope s_law, [], []⟩
def steps : Nat := 9000
def fn : List He5.DefA := ([d_l_take, d_l_pick, d_l_box, d_l_mixed, d_l_names, d_l_begins, d_l_goes, d_l_links, d_l_module, d_l_house, d_is_integer, d_is_number] : List He5.DefA) ++ ([d_is_sequence, d_is_name, d_is_end, d_are_fresh, d_is_pair, d_labels_in, d_is_there, d_is_link, d_Module___init__, d_led_end, d_shape_of, d_loose_places] : List He5.DefA) ++ ([d_turned_about, d_ring_of, d_known_shapes, d_ends_are_there, d_known_modules, d_House___init__, d_names_line, d_module_lines, d_Module___str__, d_Module___eq__, d_number_in, d_link_in] : List He5.DefA) ++ ([d_is_line, d_may_follow, d_Told___init__, d_Told_add, d_Told_arguments, d_told_modules, d_read_module, d_Module_read, d_l_shape, d_l_text, d_l_is_unlike_others, d_law] : List He5.DefA)
def fa : List He.Fa := ([.glo "_law_take", .glo "_law_pick", .glo "_law_box", .glo "_law_mixed", .glo "_law_names", .glo "_law_begins", .glo "_law_goes", .glo "_law_links", .glo "_law_module", .glo "_law_house", .glo "is_integer", .glo "is_number"] : List He.Fa) ++ ([.glo "is_sequence", .glo "is_name", .glo "is_end", .glo "are_fresh", .glo "is_pair", .glo "labels_in", .glo "is_there", .glo "is_link", .glo "led_end", .glo "shape_of", .glo "loose_places", .glo "turned_about"] : List He.Fa) ++ ([.glo "ring_of", .glo "known_shapes", .glo "ends_are_there", .glo "known_modules", .glo "names_line", .glo "module_lines", .glo "number_in", .glo "link_in", .glo "is_line", .glo "may_follow", .meth "Told" "add", .meth "Told" "arguments"] : List He.Fa) ++ ([.glo "told_modules", .glo "read_module", .glo "_law_shape", .glo "_law_text", .glo "_law_is_unlike_others", .glo "law", .free "int", .free "len", .free "isinstance", .free "bool", .free "list", .free "tuple"] : List He.Fa) ++ ([.free "any", .free "all", .free "range", .free "abs", .free "super", .free "str", .free "max", .free "min", .free "set", .free "dict", .free "enumerate", .free "sorted"] : List He.Fa) ++ ([.free "repr", .cls "Module", .noat "Module" "name", .noat "Module" "inlets", .noat "Module" "outlets", .noat "Module" "stations", .noat "Module" "links", .noat "Module" "calls", .mkr "Module", .glo "Module", .cls "House", .noat "House" "known"] : List He.Fa) ++ ([.noat "House" "modules", .noat "House" "shapes", .mkr "House", .glo "House", .cls "Told", .noat "Told" "title", .noat "Told" "rows", .noat "Told" "calls", .noat "Told" "links", .mkr "Told", .glo "Told", .glo "InvalidModule"] : List He.Fa) ++ ([.glo "InvalidHouse", .glo "NeverGoes", .glo "ORDER", .str "SMALL" "abcdefghijklmnopqrstuvwxyz", .str "DIGITS" "0123456789", .int "MOST_DIGITS" (3)] : List He.Fa)
def loose : List Str := (["_wall", "WaitError", "InvalidModule", "InvalidHouse", "InvalidText", "NeverGoes", "NoPlace", "led_end", "shape_of", "loose_places", "turned_about", "ring_of"] : List Str) ++ (["SMALL", "DIGITS", "is_integer", "is_number", "is_sequence", "is_name", "number_in", "MOST_DIGITS", "ORDER", "is_end", "names_line", "module_lines"] : List Str) ++ (["link_in", "is_line", "may_follow", "Told", "told_modules", "read_modules", "read_module", "are_fresh", "is_pair", "labels_in", "is_there", "is_link"] : List Str) ++ (["Module", "ends_are_there", "known_modules", "known_shapes", "House", "_law_box", "_law_take", "_law_pick", "_law_mixed", "_law_names", "_law_module", "_law_begins"] : List Str) ++ (["_law_goes", "_law_links", "_law_house", "_law_text", "_law_shape", "_law_is_unlike_others"] : List Str)
abbrev st_InvalidModule : Stmt := inClass (top 3) 0
abbrev st_InvalidHouse : Stmt := inClass (top 4) 0
abbrev st_NeverGoes : Stmt := inClass (top 6) 0
def cs : List Str := ["InvalidModule", "InvalidHouse", "NeverGoes"]
def vsS : List SupV := [some ("InvalidModule.__init__", defArgs st_InvalidModule, .stmts (defBody st_InvalidModule), defScope st_InvalidModule, mainGlobals, builtinsNs), some ("InvalidHouse.__init__", defArgs st_InvalidHouse, .stmts (defBody st_InvalidHouse), defScope st_InvalidHouse, mainGlobals, builtinsNs), some ("NeverGoes.__init__", defArgs st_NeverGoes, .stmts (defBody st_NeverGoes), defScope st_NeverGoes, mainGlobals, builtinsNs)]
abbrev R : PySem.W.OpenRow := PySem.W.OpenLaw.row PySem.Challenge.rw_waitworks_k09_modules_made
def fileS : Str := R.prog.main.file
def exK (K : PySem.W.Frag) : Bool := supB K fileS (He.ga K "InvalidModule") && (excCB K (He.ga K "InvalidModule") && (He.eqO (PySem.W.findIn K (.ref (He.ga K "InvalidModule")) "word") (some none) && (supB K fileS (He.ga K "InvalidHouse") && (excCB K (He.ga K "InvalidHouse") && (He.eqO (PySem.W.findIn K (.ref (He.ga K "InvalidHouse")) "at") (some none) && (supB K fileS (He.ga K "NeverGoes") && (excCB K (He.ga K "NeverGoes") && (He.eqO (PySem.W.findIn K (.ref (He.ga K "NeverGoes")) "ring") (some none) && (strB K (He.ga K "Module") && (eqB K (He.ga K "Module") && ((PySem.W.readsIn K (He.ga K "Module") (.type "type") && (He5.wrapB K (He.ga K "Module") "classmethod" "classmethod.__get__" "read" && PySem.W.fnIn K (He5.wf K (He.ga K "Module") "classmethod" "read"))) && (tyB K (He.ga K "Module") && (tyB K (He.ga K "House") && (emB K (He.dflAt ("Module", some "__init__") 0 K) && (sqB K (He.ga K "ORDER") ORD && (apT K (He.ga K "Module") (.type "str") && (apT K (He.ga K "Module") (.type "int") && (apT K (He.ga K "Module") (.ref (He.ga K "House"))))))))))))))))))))
abbrev hk : PySem.W.Hook := hookQ 6 fa fn exK cs vsS
def ob (s : PySem.W.SharedT) : (He.AlD × Bool) × List SupV := obsQ 6 fa fn exK cs (HandSHeadRun.getT s)
theorem ob_eq (s : PySem.W.SharedT) : ob s = hk.obs s.abs := obsQ_eq (HandSHeadRun.getT_eq s)
abbrev hk0 : PySem.W.Hook := hookQ 1 [] [] (fun _ => true) [] []
def ob0 (s : PySem.W.SharedT) : (He.AlD × Bool) × List SupV := obsQ 1 [] [] (fun _ => true) [] (HandSHeadRun.getT s)
theorem runA (w : World) : HandSHeadRun.RunEq R (PySem.W.view R.prog [60]) hk0 ob0 steps loose w := by
  intro os
  kernel_rfl
theorem runO (w : World) (os : OsState) : (HandSHeadRun.endF (HandSHeadRun.stepQ (HandSHeadRun.denQ HandSHeadRun.tabQ) R.prog w) steps R.prog w os).map ob = some (hk.val w) := by
  kernel_rfl
theorem run (w : World) : HandSHeadRun.RunEq R (PySem.W.view R.prog [60]) hk ob steps loose w := by
  intro os
  exact runJ (runA w os) (runO w os)
end WW
set_option Elab.async false
set_option linter.all false
set_option maxRecDepth 100000
set_option maxHeartbeats 4000000
set_option Elab.async false
set_option linter.all false
set_option maxRecDepth 100000
set_option maxHeartbeats 4000000
namespace WW
open PySem PySem.Spec PyProof.Rows L2
section
variable {K : PySem.W.Frag} {B : Addr → Prop} {ρ ρ' ρ1 ρ2 : List Slot} {ta tb tc te : TE} {t u : TT} {ts tu tz : TS} {Φ : Post} {α β γ : Type} {e_α : Enc α} {e_β : Enc β} {e_γ : Enc γ} {a : α} {b : β} {i j : Int} {z y : Str}
theorem vals_str {S : Hp} : ∀ {vs : List V} {xs : List Str}, Paired (Enc.rep K S) vs xs → vs = xs.map V.str
  | _, _, .nil => rfl
  | _, _, .cons h r => by cases h; rw [vals_str r]; rfl
theorem do_split (h1 : DE K B ta ρ z) (h2 : DE K B tb ρ y) (hy : (y.length == 0) = false) (hz : z.length + 2 ≤ BIG) (hl : (Txt.split z y).length ≤ BIG) :
    DO K B (tM1 (fun x xs H Q => ∃ a b, x = .str a ∧ xs = [.str b] ∧ (b.length == 0) = false ∧ a.length + 2 ≤ sizeLine ∧ rNewStrs (Txt.split a b) H Q) ta tb) ρ (Txt.split z y) := fun S0 H0 S H σ E Q q =>
  h1 S0 H0 S H σ E _ fun v S1 H1 e1 r1 => ⟨⟨z, r1⟩, h2 S0 H0 S1 H1 σ (E.go e1) _ fun w S2 H2 e2 r2 => ⟨z, y, r1, by cases r2; rfl, hy, Nat.le_trans hz big_line, fun p hp =>
    q p _ S2 _ ((e1.trans e2).trans (Ext.priv e2.i hp)) ((e1.trans e2).free E.i hp) (e2.i.free hp) upd_same (paired_map V.str (fun _ => rfl) _) hl⟩⟩
theorem d_join {ws : List Str} (h1 : DE K B ta ρ z) (h2 : DE K B tb ρ ws) (hs : (ws.map (·.length)).sum + ws.length * z.length ≤ 16777216) : DE K B (tM1 (rJoin K) ta tb) ρ (Txt.join z ws) := fun S0 H0 S H σ E Q q =>
  h1 S0 H0 S H σ E _ fun v S1 H1 e1 r1 => ⟨⟨z, r1⟩, h2 S0 H0 S1 H1 σ (E.go e1) _ fun w S2 H2 e2 ⟨hl, p, vs, e, hh, r⟩ => by
    subst e
    have hv := vals_str r
    subst hv
    exact ⟨z, p, ws, r1, rfl, hh.ex e2.i, hs, q _ S2 H2 (e1.trans e2) rfl⟩⟩
theorem d_strI (h : DE K B te ρ i) (hz : i.natAbs.log2 < 1920) : DE K B (tCB (fun xs H Q => ∃ i, xs = [.int i] ∧ i.natAbs.log2 < 1920 ∧ Q (.str (toString i)) H) (tCons te tNil)) ρ (Str.ofString (toString i)) := fun S0 H0 S H σ E Q q =>
  h S0 H0 S H σ E _ fun v S1 H1 e1 r => ⟨i, by cases r; rfl, hz, q _ S1 H1 e1 rfl⟩
theorem d_lenS (h : DE K B te ρ z) (hz : z.length ≤ BIG) : DE K B (tCB (fun xs H Q => ∃ z, xs = [.str z] ∧ z.length ≤ sizeLine ∧ Q (.int z.length) H) (tCons te tNil)) ρ (z.length : Int) := fun S0 H0 S H σ E Q q =>
  h S0 H0 S H σ E _ fun v S1 H1 e1 r => ⟨z, by cases r; rfl, Nat.le_trans hz big_line, q _ S1 H1 e1 rfl⟩
theorem d_ixS {c : Nat} (h : DE K B ta ρ z) (hi : DE K B tb ρ i) (hz : z.length ≤ BIG) (hc : atI z.cps.toList i = some c) : DE K B (tOp rIxS ta tb) ρ (⟨#[c]⟩ : Str) :=
  d_op h hi fun v w S H sm r1 r2 Q q => ⟨z, i, c, r1, r2, Nat.le_trans hz big_line, hc, q _ S H (Ext.refl sm) rfl⟩
theorem d_inSign {c : Nat} (h1 : DE K B ta ρ (⟨#[c]⟩ : Str)) (h2 : DE K B tb ρ z) : DE K B (tOp (fun x y H Q => ∃ (c : Nat) (z : Str), x = .str ⟨#[c]⟩ ∧ y = .str z ∧ Q (.bl (decide (c ∈ z.cps.toList))) H) ta tb) ρ (decide (c ∈ z.cps.toList)) :=
  d_op h1 h2 fun v w S H sm r1 r2 Q q => ⟨c, z, r1, r2, q _ S H (Ext.refl sm) rfl⟩
theorem d_notInSign {c : Nat} (h1 : DE K B ta ρ (⟨#[c]⟩ : Str)) (h2 : DE K B tb ρ z) : DE K B (tOp (fun x y H Q => ∃ (c : Nat) (z : Str), x = .str ⟨#[c]⟩ ∧ y = .str z ∧ Q (.bl (!decide (c ∈ z.cps.toList))) H) ta tb) ρ (!decide (c ∈ z.cps.toList)) :=
  d_op h1 h2 fun v w S H sm r1 r2 Q q => ⟨c, z, r1, r2, q _ S H (Ext.refl sm) rfl⟩
theorem d_intS {n : Int} (h : DE K B te ρ z) (hn : PySem.intText? z = some n) (hz : z.length ≤ 640) : DE K B (tCB (fun xs H Q => ∃ a n, xs = [.str a] ∧ PySem.intText? a = some n ∧ a.length ≤ 640 ∧ Q (.int n) H) (tCons te tNil)) ρ n := fun S0 H0 S H σ E Q q =>
  h S0 H0 S H σ E _ fun v S1 H1 e1 r => ⟨z, n, by cases r; rfl, hn, hz, q _ S1 H1 e1 rfl⟩
def signs (z : Str) : List Str := z.cps.toList.map fun c => ⟨#[c]⟩
theorem signs_len (z : Str) : (signs z).length = z.length := by
  unfold signs
  rw [List.length_map, Array.length_toList]
  rfl
theorem di_str (h : DE K B te ρ z) : DI K B (iStr te) ρ (signs z) := fun S0 H0 S H σ E R q =>
  h S0 H0 S H σ E _ fun v S1 H1 e1 r => ⟨z, r, q _ S1 H1 e1 fun S2 H2 s2 x2 => by
    have i2 := x2.i
    refine ⟨fun n x hx => ?_, by show z.cps.size ≤ _; rw [signs_len]; exact Nat.le_refl _⟩
    unfold signs at hx
    rw [List.getElem?_map] at hx
    have lt : n < z.cps.size := by
      cases hc : z.cps.toList[n]? with
      | none => rw [hc] at hx; cases hx
      | some c => simpa using (List.getElem?_eq_some_iff.mp hc).1
    refine ⟨lt, fun v' H3 hy => ⟨S2, ?_, ?_⟩⟩
    · rw [hy.1]
      exact Ext.refl i2
    · obtain ⟨_, c, h1, h2⟩ := hy
      rw [Array.getElem?_toList, h1] at hx
      cases hx
      exact h2⟩
theorem d_indexS {ws : List Str} {n : Nat} (h1 : DE K B ta ρ (α := L Str) ws) (h2 : DE K B tb ρ z) (hn : ws[n]? = some z) (hf : ∀ m, m < n → ws[m]? ≠ some z) : DE K B (tBM K "list" (rIndex K) ta (tCons tb tNil)) ρ (n : Int) := fun S0 H0 S H σ E Q q =>
  h1 S0 H0 S H σ E _ fun v S1 H1 e1 ⟨hl, p, vs, e, hh, r⟩ => by
    subst e
    have hv := vals_str r
    subst hv
    refine ⟨.inl ⟨rfl, _, .inl (.inl (e1.i _ _ hh))⟩, h2 S0 H0 S1 H1 σ (E.go e1) _ fun w S2 H2 e2 r2 => ?_⟩
    cases r2
    refine ⟨p, _, _, n, .str z, rfl, rfl, .inl (.inl (e2.i _ _ (e2.s _ _ hh))), rfl, by rw [List.all_map]; simp [flatV], by rw [List.getElem?_map, hn]; rfl, ?_, fun m z' hm hz' => ?_, q _ S2 H2 (e1.trans e2) rfl⟩
    · simp [eqV]
    · rw [List.getElem?_map] at hz'
      cases hx : ws[m]? with
      | none => rw [hx] at hz'; cases hz'
      | some x =>
        rw [hx] at hz'
        cases hz'
        simp only [eqV]
        have : x ≠ z := fun e => hf m hm (by rw [hx, e])
        simpa using this
end
theorem do_nil {K : PySem.W.Frag} {B : Addr → Prop} {ρ : List Slot} (α : Type) [Enc α] : DO K B (tLst tNil) ρ ([] : List α) := do_lst dl_nil (Nat.zero_le _)
theorem mt_indexK {X : Cx} (K : PySem.W.Frag) (hK : X.K = K := by rfl) : MtR X "list.index" (rIndex K) := by
  subst hK
  exact mt_index
theorem pe_gv {X : Cx} {x : Str} {v : V} {p : Pos} (hg : Gl X x) (h : ∃ u, X.mg x = some u ∧ RelV v u) (hdb : (x == ("__debug__" : Str)) = false := by decide) : PE X (.Name x p) (tC v) := by
  obtain ⟨u, h1, h2⟩ := h
  exact pe_glob hg h1 h2 hdb
end WW
set_option Elab.async false
set_option linter.all false
set_option maxRecDepth 100000
set_option maxHeartbeats 4000000
namespace WW
open PySem PySem.Spec PyProof.Rows L2
abbrev XP := Addr → List (Str × V) → Prop
def PX (B : Addr → Prop) (X : XP) (E : XK) (S0 H0 : Hp) : Prop := ∀ C fs d S' H', X C fs → Ext B S0 H0 S' H' → H0 d = none → H' d = some (.xd fs) → E (.ref C) (some d) H'
section
variable {K : PySem.W.Frag} {B : Addr → Prop} {ρ : List Slot} {ta tb tc te : TE} {Φ : Post}
theorem ds_raise {C : Addr} {fld : Str} {v : V} {E : XK} {X : XP} (h : ∀ S0 H0 S H σ, En K B S0 H0 S H σ ρ → ∀ Q : VK, (∀ S' H', Ext B S H S' H' → Q v H') → te σ H Q) (hx : X C [(fld, v)]) (hp : ∀ S0 H0, Φ.px S0 H0 → PX B X E S0 H0) :
    DS K B (fun _ σ H => tMkS C fld te σ H fun cls d H' => E cls d H') ρ Φ := fun S0 H0 S H σ D En px n r b c =>
  h S0 H0 S H σ En _ fun S1 H1 e1 d hd => hp S0 H0 px C _ d S1 _ hx ((En.ext.trans e1).trans (Ext.priv e1.i hd)) ((En.ext.trans e1).free En.i0 hd) upd_same
theorem dr_str {z : Str} (h : DE K B te ρ z) : ∀ S0 H0 S H σ, En K B S0 H0 S H σ ρ → ∀ Q : VK, (∀ S' H', Ext B S H S' H' → Q (.str z) H') → te σ H Q := fun S0 H0 S H σ E Q q => h S0 H0 S H σ E Q fun v S1 H1 e1 r => by cases r; exact q S1 H1 e1
end
end WW
set_option Elab.async false
set_option linter.all false
set_option maxRecDepth 100000
set_option maxHeartbeats 4000000
namespace WW
open PySem PySem.Spec PyProof.Rows L2
inductive Wk : List Slot → List Slot → Prop
  | nil : Wk [] []
  | keep {s : Slot} {r r' : List Slot} : Wk r r' → Wk (s :: r) (s :: r')
  | drop {s : Slot} {r r' : List Slot} : Wk r r' → Wk (s :: r) (.no :: r')
def Slot.plain : Slot → Bool
  | .no => true
  | @Slot.val _ _ _ => true
  | _ => false
def Slot.unbox : Slot → Slot
  | .box => .no
  | .out _ => .no
  | s => s
theorem Wk.refl : ∀ r : List Slot, Wk r r
  | [] => .nil
  | _ :: r => .keep (Wk.refl r)
theorem Wk.trans : ∀ {a b c : List Slot}, Wk a b → Wk b c → Wk a c
  | _, _, _, .nil, .nil => .nil
  | _, _, _, .keep h, .keep k => .keep (h.trans k)
  | _, _, _, .keep h, .drop k => .drop (h.trans k)
  | _, _, _, .drop h, .keep k => .drop (h.trans k)
  | _, _, _, .drop h, .drop k => .drop (h.trans k)
theorem Wk.unbox : ∀ {a b : List Slot}, Wk a b → Wk (a.map Slot.unbox) (b.map Slot.unbox)
  | _, _, .nil => .nil
  | _, _, .keep h => .keep h.unbox
  | _, _, .drop h => .drop h.unbox
theorem Wk.length : ∀ {a b : List Slot}, Wk a b → a.length = b.length
  | _, _, .nil => rfl
  | _, _, .keep h => by rw [List.length_cons, List.length_cons, h.length]
  | _, _, .drop h => by rw [List.length_cons, List.length_cons, h.length]
theorem Wk.at' : ∀ {a b : List Slot}, Wk a b → ∀ (i : Nat) (s : Slot), b[i]? = some s → a[i]? = some s ∨ (s = .no ∧ ∃ u, a[i]? = some u)
  | _, _, .nil, i, s, e => by simp at e
  | _, _, .keep h, 0, s, e => .inl e
  | _, _, .drop h, 0, s, e => .inr ⟨by simp at e; exact e.symm, _, rfl⟩
  | _, _, .keep h, i + 1, s, e => by
    simp only [List.getElem?_cons_succ] at e ⊢
    exact h.at' i s e
  | _, _, .drop h, i + 1, s, e => by
    simp only [List.getElem?_cons_succ] at e ⊢
    exact h.at' i s e
section
variable {K : PySem.W.Frag} {B : Addr → Prop} {ρ ρ' ρ1 ρ2 : List Slot} {ta tb tc te : TE} {t u : TT} {ts tu tz : TS} {Φ : Post} {α β γ : Type} {e_α : Enc α} {e_β : Enc β} {e_γ : Enc γ} {a : α} {b : β} {i j : Int}
theorem En.weak {S0 H0 S H : Hp} {σ : L2.St} (E : En K B S0 H0 S H σ ρ) (h : Wk ρ ρ') : En K B S0 H0 S H σ ρ' := by
  refine ⟨E.i0, E.bx, E.ext, E.len.trans h.length, fun i s hs => ?_, fun i j s u n h1 h2 o1 o2 => ?_⟩
  · rcases h.at' i s hs with q | ⟨rfl, u, q⟩
    · exact E.at' i s q
    · obtain ⟨o, e, _⟩ := E.at' i u q
      exact ⟨o, e, by cases o <;> trivial⟩
  · rcases h.at' i s h1 with q | ⟨rfl, _⟩
    · rcases h.at' j u h2 with q2 | ⟨rfl, _⟩
      · exact E.ne i j s u n q q2 o1 o2
      · cases o2
    · cases o1
theorem DS.weak (h : DS K B ts ρ' Φ) (w : Wk ρ ρ') : DS K B ts ρ Φ := fun S0 H0 S H σ D E => h S0 H0 S H σ D (E.weak w)
theorem DG.weak {g : TG} {js : List Nat} (h : DG K B g a ρ' ρ2 js) (w : Wk ρ ρ') : DG K B g a ρ ρ2 js := fun S0 H0 S H σ v E => h S0 H0 S H σ v (E.weak w)
theorem dq_forW {wi : TI} {g : TG} {xs : List α} (ρf : List Slot) (hi : DI K B wi ρ xs) (h0 : Wk ρ ρf)
    (hs : ∀ x ∈ xs, ∃ ρ2 js, DG K B g x ρf ρ2 js ∧ DS K B ts ρ2 ⟨fun r => Wk r ρf, Φ.rt, fun ρ' => DS K B tz ρ' Φ, fun r => Wk r ρf, Φ.px⟩) (hd : DS K B tz ρf Φ) : DS K B (tSeq (tFor wi g ts) tz) ρ Φ :=
  dq_for hi (fun _ r => Wk r ρf) h0 (fun i x ρ1 hx hw => by
    obtain ⟨ρ2, js, h1, h2⟩ := hs x (List.mem_of_getElem? hx)
    exact ⟨ρ2, js, h1.weak hw, h2⟩) fun ρ1 hw => hd.weak hw
theorem ds_forW {wi : TI} {g : TG} {xs : List α} (ρf : List Slot) (hi : DI K B wi ρ xs) (h0 : Wk ρ ρf)
    (hs : ∀ x ∈ xs, ∃ ρ2 js, DG K B g x ρf ρ2 js ∧ DS K B ts ρ2 ⟨fun r => Wk r ρf, Φ.rt, Φ.nx, fun r => Wk r ρf, Φ.px⟩) (hd : ∀ r, Wk r ρf → Φ.nx r) : DS K B (tFor wi g ts) ρ Φ :=
  ds_for hi (fun _ r => Wk r ρf) h0 (fun i x ρ1 hx hw => by
    obtain ⟨ρ2, js, h1, h2⟩ := hs x (List.mem_of_getElem? hx)
    exact ⟨ρ2, js, h1.weak hw, h2⟩) fun ρ1 hw => hd ρ1 hw
theorem DS.runB {nx : List Slot → Prop} (h : DS K B ts ρ ⟨nx, fun _ => False, fun _ => False, fun _ => False, fun _ _ => True⟩) {S0 H0 S H : Hp} {σ : L2.St} {D : Ends} (E : En K B S0 H0 S H σ ρ) (n : ∀ ρ' σ' S' H', nx ρ' → Same S S' → En K B S0 H0 S' H' σ' ρ' → tz D σ' H') : tSeq ts tz D σ H :=
  h S0 H0 S H σ { D with nx := tz D } E trivial n (fun _ _ _ _ h => h.elim) (fun _ _ _ _ h => h.elim) (fun _ _ _ _ h => h.elim)
theorem cutA_take {δ : Type} {xs : List δ} {t : Nat} : cutA xs none (some (t : Int)) = xs.take t := by
  unfold cutA
  rw [HT.sIx_none, HT.sIx_nat, List.drop_zero, Nat.sub_zero]
  by_cases h : t ≤ xs.length
  · rw [Nat.min_eq_left h]
  · rw [Nat.min_eq_right (by omega), List.take_length, List.take_of_length_le (by omega)]
theorem dn_slTo {P : List α → Prop} (h : DN K B te ρ (α := L α) P) (hl : DE K B tb ρ i) : DN K B (tSl (rSlQ K) te tNoPart (tPart tb)) ρ (α := L α) (fun zs => ∃ xs, P xs ∧ zs = cutA xs none (some i)) := fun S0 H0 S H σ E Q q =>
  h S0 H0 S H σ E _ fun v xs S1 H1 px e1 r1 => hl S0 H0 S1 H1 σ (E.go e1) _ fun w S3 H3 e3 r3 => by
    cases r3
    have e13 := e1.trans e3
    obtain ⟨hl, p, vs, rfl, hq, r⟩ := Enc.mono e3.s r1
    have lc : (cutA xs none (some i)).length ≤ BIG := Nat.le_trans (cutA_len _ _ _) hl
    refine ⟨i, rfl, .inl ⟨p, vs, rfl, Evl.ex_l e3.i (.inl (.inl hq)), fun w hw => ?_⟩⟩
    have e4 : Ext B S3 H3 (upd S3 w (.lst (cutV vs none (some i)))) (upd H3 w (.lst (cutV vs none (some i)))) := Ext.new e3.i hw
    exact q _ _ _ _ ⟨xs, px, rfl⟩ (e13.trans e4) ⟨lc, w, _, rfl, upd_same, Paired.mono (fun _ _ => Enc.mono e4.s) (paired_cut r)⟩
theorem ds_parOO {n m : Nat} {xs : List α} {ys : List β} (h1 : DO K B ta ρ xs) (h2 : DO K B tb ρ ys) (hm : n ≠ m) (k : Φ.nx ((ρ.set n (.own xs)).set m (.own ys))) : DS K B (tPar n m (tCons ta (tCons tb tNil))) ρ Φ := fun S0 H0 S H σ D E px nx r b c => by
  refine h1 S0 H0 S H σ E _ fun p vs S1 H1 e1 hp hs hh rr hl => h2 S0 H0 S1 H1 σ (E.go e1) _ fun p2 vs2 S2 H2 e2 hp2 hs2 hh2 rr2 hl2 => ⟨_, _, rfl, ?_⟩
  have E1 := E.setO (i := n) e1 hp hs hh rr hl
  have E2 := E1.setO (i := m) e2 hp2 hs2 hh2 rr2 hl2
  exact nx _ _ S2 H2 k (e1.s.trans e2.s) E2
theorem paired_erase {S : Hp} : ∀ {vs : List V} {xs : List α} (k : Nat), Paired (Enc.rep K S) vs xs → Paired (Enc.rep K S) (vs.eraseIdx k) (xs.eraseIdx k)
  | _, _, _, .nil => .nil
  | _, _, 0, .cons _ t => t
  | _, _, k + 1, .cons f t => .cons f (paired_erase k t)
theorem ds_popApp {n m : Nat} {xs ys : List α} {P : Int → Prop} (hn : ρ[n]? = some (.own xs)) (hm : ρ[m]? = some (.own ys)) (hne : n ≠ m) (hi : DN K B te ρ P) (hP : ∀ i, P i → 0 ≤ i ∧ i < (ys.length : Int)) (hl : xs.length < BIG)
    (k : ∀ (i : Int) (j : Nat) (y : α), P i → i = j → ys[j]? = some y → Φ.nx ((ρ.set m (.own (ys.eraseIdx j))).set n (.own (xs ++ [y])))) : DS K B (tDrop (tBM K "list" rAppend (tVar n) (tCons (tBM K "list" rPopAt (tVar m) (tCons te tNil)) tNil))) ρ Φ := fun S0 H0 S H σ D E px nx r b c => by
  obtain ⟨_, p, vs, e1, h0, hs, hh, rr⟩ := E.own hn
  obtain ⟨yl, p2, vs2, f1, g0, gs, gh, gr⟩ := E.own hm
  refine ⟨_, e1, .inl ⟨rfl, vs, SqL.of hh⟩, _, f1, .inl ⟨rfl, vs2, SqL.of gh⟩, ?_⟩
  refine hi S0 H0 S H σ E _ fun w i S1 H1 pi ex r1 => ?_
  cases r1
  have E1 := E.go ex
  obtain ⟨_, p', vs', f1', _, _, gh', gr'⟩ := E1.own hm
  rw [f1] at f1'
  cases f1'
  obtain ⟨i0, i1⟩ := hP i pi
  obtain ⟨j, rfl⟩ : ∃ j : Nat, i = j := ⟨i.toNat, by omega⟩
  have jl : j < ys.length := by omega
  obtain ⟨x, hx⟩ : ∃ x, ys[j]? = some x := ⟨_, List.getElem?_eq_getElem jl⟩
  obtain ⟨y, hy, ry⟩ := Paired.at gr' hx
  have sq : seqIndex? (j : Int) vs'.length = some j := (L2.ixN_seq (show ixN vs'.length (j : Int) = some j by
    unfold ixN
    rw [if_pos (by omega), if_pos (by rw [gr'.length]; omega)]
    simp)).1
  have b62 : (BIG : Int) < 2 ^ 62 := by decide
  have E2 := E1.chg hm f1 (paired_erase j gr') (by rw [List.length_eraseIdx]; split <;> omega)
  have hn2 : (ρ.set m (.own (ys.eraseIdx j)))[n]? = some (.own xs) := by rw [List.getElem?_set_ne (Ne.symm hne)]; exact hn
  obtain ⟨_, p'', vs'', e1'', _, _, hh'', rr''⟩ := E2.own hn2
  rw [e1] at e1''
  cases e1''
  refine ⟨p2, vs', (j : Int), j, y, rfl, rfl, gh', by omega, by omega, sq, hy, p, vs'', y, rfl, rfl, hh'', ?_, nx _ σ S1 _ (k j j x pi rfl hx) ex.s (E2.chg hn2 e1 (Paired.app rr'' (.cons ry .nil)) ?_)⟩
  · rw [rr''.length]
    exact Nat.lt_of_lt_of_le hl big_line
  · rw [List.length_append]
    exact hl
theorem do_slice {tl th : TO} {xs : List α} {lo hi : Option Int} (h : DE K B te ρ (α := L α) xs) (hl : DP K B tl ρ lo) (hh : DP K B th ρ hi) : DO K B (tSl (rSlQ K) te tl th) ρ (cutA xs lo hi) := fun S0 H0 S H σ E Q q =>
  h S0 H0 S H σ E _ fun v S1 H1 e1 r1 => hl S0 H0 S1 H1 σ (E.go e1) _ fun S2 H2 e2 => hh S0 H0 S2 H2 σ (E.go (e1.trans e2)) _ fun S3 H3 e3 => by
    have e13 := (e1.trans e2).trans e3
    obtain ⟨hl, p, vs, rfl, hq, r⟩ := Enc.mono (e2.s.trans e3.s) r1
    exact .inl ⟨p, vs, rfl, .inl (.inl (e3.i _ _ hq)), fun w hw => q w _ S3 _ (e13.trans (Ext.priv e3.i hw)) (e13.free E.i hw) (e3.i.free hw) upd_same (paired_cut r) (Nat.le_trans (cutA_len _ _ _) hl)⟩
end
end WW
set_option Elab.async false
set_option linter.all false
set_option maxRecDepth 100000
set_option maxHeartbeats 4000000
namespace WW
open PySem PySem.Spec PyProof.Rows L2
def unl (xs : List Str) : Nat → Nat
  | 0 => 0
  | i + 1 => if (xs.take i).any (· == xs.getD i Str.empty) = true then unl xs i else unl xs i + 1
theorem unl_succ (xs : List Str) (i : Nat) : unl xs (i + 1) = if (xs.take i).any (· == xs.getD i Str.empty) = true then unl xs i else unl xs i + 1 := rfl
theorem unl_le (xs : List Str) : ∀ i, unl xs i ≤ i
  | 0 => Nat.le_refl 0
  | i + 1 => by
    have h := unl_le xs i
    rw [unl_succ]
    split <;> omega
theorem any_in {xs : List Str} {z : Str} : xs.any (· == z) = true ↔ z ∈ xs := by
  rw [List.any_eq_true]
  constructor
  · rintro ⟨y, hy, e⟩
    rwa [← beq_iff_eq.mp e]
  · exact fun h => ⟨z, h, beq_self_eq_true z⟩
theorem take_one {xs : List Str} {i : Nat} (h : i < xs.length) : xs.take (i + 1) = xs.take i ++ [xs.getD i Str.empty] := by
  rw [List.take_add_one, List.getD_eq_getElem?_getD, List.getElem?_eq_getElem h]
  rfl
theorem unl_nodup {xs : List Str} : ∀ {i : Nat}, i ≤ xs.length → (unl xs i = i ↔ (xs.take i).Nodup)
  | 0, _ => by simp [unl]
  | i + 1, h => by
    have ih := unl_nodup (xs := xs) (i := i) (by omega)
    have le := unl_le xs i
    rw [take_one (by omega), List.nodup_append, ← ih, unl_succ]
    by_cases c : (xs.take i).any (· == xs.getD i Str.empty) = true
    · rw [if_pos c]
      constructor
      · intro e; omega
      · rintro ⟨_, _, h3⟩
        exact absurd rfl (h3 _ (any_in.mp c) _ (List.mem_singleton.mpr rfl))
    · rw [if_neg c]
      constructor
      · intro e
        refine ⟨by omega, by simp, fun a ha b hb z => ?_⟩
        rw [List.mem_singleton.mp hb] at z
        subst z
        exact c (any_in.mpr ha)
      · rintro ⟨e, _⟩
        omega
theorem unl_all {xs : List Str} : unl xs xs.length = xs.length ↔ xs.Nodup := by
  have h := unl_nodup (xs := xs) (i := xs.length) (Nat.le_refl _)
  rwa [List.take_length] at h
abbrev setNew (led : Bool) : PySem.Obj := { cls := .type "set", dict := none, data := .set #[] 0 (.fresh 0 0 led) }
abbrev SetFst (P : Program) (w : World) (h : Heap) (S : Addr) (xs : List Str) (i : Nat) : Prop := h.SetOf (PySem.strKind P w) S (fun z => (xs.take i).any (· == z)) (unl xs i)
section
variable {P : Program} {w : World} {A : Around} {R : Result → Shared → Prop} {I S : Addr} {fp wr : List Addr} {G : Array GenState → Array GenState → Prop} {Pv : Nat → Value → Prop} {St : Nat → Shared → Prop} {xs : List Str}
theorem fill_texts (W : WalksS P w A.in1 I fp wr G xs.length Pv St) (nS : S ∉ fp) (few : xs.length + 1 < scanBound) (got : ∀ i v, Pv i v → ∃ t, v = .str (xs.getD i Str.empty) t)
    (fin : ∀ s', Moved (S :: wr) G s s' → SetFst P w s'.heap S xs xs.length → R (.ok (.ret .none)) s') :
    ∀ (m i : Nat) (s₁ : Shared), xs.length = i + m → Moved (S :: wr) G s s₁ → St i s₁ → SetFst P w s₁.heap S xs i → codeAny (model P w) A (.builtin "set.update.loop" ⟨[.ref S, .ref I], []⟩) R s₁ := by
  have nW : S ∉ wr := fun z => nS (W.sub _ z)
  have sub : ∀ b ∈ wr, b ∈ S :: wr := fun b z => List.mem_cons_of_mem _ z
  intro m
  induction m with
  | zero =>
    intro i s₁ e mv st so
    obtain rfl : i = xs.length := by omega
    refine codeAny_builtin F.entry_set_update_loop ?_
    rw [Around.under_plainId F.plain_set_update_loop _]
    show wpAny _ A.in1 (pyNext (.ref I) >>= _) _ _ s₁
    refine wpAny_bind (W.done s₁ _ _ st fun s₂ m2 => ?_)
    show wpAny _ A.in1 (ret Value.none) _ _ s₂
    refine wpAny_pure (fin s₂ (Moved.trans W.gtrans mv (m2.mono sub)) ?_)
    obtain ⟨o, es, ep, t, ho, r⟩ := so
    exact ⟨o, es, ep, t, m2.heap S _ nW ho, r⟩
  | succ m ih =>
    intro i s₁ e mv st so
    have lt : i < xs.length := by omega
    refine codeAny_builtin F.entry_set_update_loop ?_
    rw [Around.under_plainId F.plain_set_update_loop _]
    show wpAny _ A.in1 (pyNext (.ref I) >>= _) _ _ s₁
    refine wpAny_bind (W.item i s₁ _ _ lt st fun v s₂ pv st2 m2 => ?_)
    obtain ⟨t, rfl⟩ := got i v pv
    have so2 : SetFst P w s₂.heap S xs i := by
      obtain ⟨o, es, ep, tb, ho, r⟩ := so
      exact ⟨o, es, ep, tb, m2.heap S _ nW ho, r⟩
    generalize hz : xs.getD i Str.empty = z
    show wpAny _ A.in1 (holding [Value.str z t] (setAdd S (.str z t)) >>= _) _ _ s₂
    refine wpAny_bind (wpAny_holding ?_)
    unfold setAdd
    refine wpAny_holding (wpAny_bind ((PySem.strKind P w).pyHash (k := z) (strKind_is _ _ _ _) ?_))
    refine wpAny_setAddHashed_of (knd := PySem.strKind P w) (s := { s₂ with toks := s₂.toks + 1 }) (strKind_is _ _ _ _) rfl so2 (by have := unl_le xs i; omega) fun h' sb so3 => ?_
    have so4 : SetFst P w h' S xs (i + 1) := by
      refine SetOf_congr so3 (fun k => ?_) ?_
      · rw [take_one lt, List.any_append, hz]
        by_cases c : k = z
        · subst c; simp
        · have c' : (z == k) = false := beq_eq_false_iff_ne.mpr (Ne.symm c)
          simp [c, c']
      · rw [unl_succ, hz]
    have mv3 : Moved (S :: wr) G s { s₂ with heap := h', toks := s₂.toks + 1 } := Moved.trans W.gtrans mv ((m2.mono sub).then_heap (Nat.le_succ _) fun b o hb eo => by
      rw [sb.2 b (fun z => hb (by rw [z]; exact List.mem_cons_self))]
      exact eo)
    refine wpAny_pure ⟨plainId_quiet F.plain_set_update_loop _, ih (i + 1) _ (by omega) mv3 (W.frame _ s₂ _ _ st2 (Nat.le_succ _) fun b hb o eo => ?_) so4⟩
    rw [sb.2 b (fun z : b = S => nS (by rw [← z]; exact hb))]
    exact eo
end
section
variable {P : Program} {w : World} {A : Around} {E : Value → Shared → Prop} {s : Shared} {l : Addr} {items : Array Value} {xs : List Str} {Q : Value → Shared → Prop}
theorem set_texts (calm : A.handled = none) (at_ : s.heap.IsList l items ∨ s.heap.IsTuple l items) (are : StrsAre items.toList xs) (few : xs.length + 1 < scanBound)
    (q : ∀ (h' : Heap) (tk : Nat), SetFst P w h' s.heap.objs.size xs xs.length → (∀ b o, b < s.heap.objs.size → s.heap.get? b = some o → h'.get? b = some o) → Q (.ref s.heap.objs.size) { s with heap := h', toks := tk }) :
    wpAny (model P w) A (call (.type "set") [.ref l]) Q E s := by
  obtain ⟨c, tl, hmro⟩ := PySem.F.called_set.mro
  have hmade := PySem.F.called_set.made
  have hsub := PySem.F.called_set.sub
  refine wpAny_call (codeAny_of_tree (show wpAny _ _ (callAny (.type "set") _) _ _ _ from ?_))
  refine wpAny_pure ⟨Code.quiet_builtin _ (by decide +kernel), codeAny_builtin PySem.F.entry_type_call ?_⟩
  rw [Around.under_plain (weight_type_call_type "set" [.ref l] []) rfl]
  have n1 := PySem.F.called_set.notType
  have n2 := PySem.F.called_set.canCreate
  have n3 := PySem.F.typeCall_set_1 (.ref l)
  repeat (any_goals (first | assumption | wp_step))
  refine codeAny_mono (code_set_new_1 (.ref l) (E := E) (Q₁ := fun ob s₁ => ∃ led : Bool, ob = .ref s.heap.objs.size ∧ s₁ = { s with heap := s.heap.push (setNew led) }) fun led => ⟨led, rfl, rfl⟩) fun r s₁ hr => ?_
  match r, hr with
  | .error e, hr => exact hr
  | .ok .next, hr => exact hr.elim
  | .ok .brk, hr => exact hr.elim
  | .ok .cont, hr => exact hr.elim
  | .ok (.ret ob), hr =>
    obtain ⟨led, rfl, rfl⟩ := hr
    have gS : (s.heap.push (setNew led)).get? s.heap.objs.size = some (setNew led) := Heap.get?_push_size _ rfl
    have tS : Shared.TypeIs { s with heap := s.heap.push (setNew led) } (.ref s.heap.objs.size) "set" := ⟨_, gS, rfl⟩
    have i1 := PySem.F.called_set.init.lookup
    have i2 := PySem.F.called_set.init.bind (.ref s.heap.objs.size)
    repeat (any_goals (first | assumption | wp_step))
    refine codeAny_mono (codeAny_call_builtin (R := wants (fun r s₂ => r = .none ∧ ∃ h' tk, s₂ = { s with heap := h', toks := tk } ∧ SetFst P w h' s.heap.objs.size xs xs.length ∧ ∀ b o, b < s.heap.objs.size → s.heap.get? b = some o → h'.get? b = some o) E)
      PySem.F.called_set.init.plain PySem.F.entry_set_init (check_set_init_1 tS ?_)) fun r₂ s₂ hr₂ => ?_
    · have len : xs.length = items.size := by rw [← StrsAre.len_eq are, Array.length_toList]
      have got : ∀ (i : Nat) (v : Value), items[i]? = some v → ∃ t, v = .str (xs.getD i Str.empty) t := fun i v hv => SS.strs_at are i v (by rw [Array.getElem?_toList]; exact hv)
      have calm3 : A.in1.in1.in1.handled = none := by simp [calm]
      have sz : (s.heap.push (setNew led)).objs.size = s.heap.objs.size + 1 := by rw [Heap.size_push]
      rcases at_ with at_ | at_
      · obtain ⟨⟨oc, od, odt, osl⟩, ho, hc, nl, hd⟩ := at_
        simp only at hc hd
        subst hc hd
        have ll : l < s.heap.objs.size := Heap.lt_size ho
        have ho2 := Heap.get?_push_of_some (setNew led) ho
        have u1 := PySem.F.sub_list_set
        have u2 := PySem.F.sub_list_frozenset
        have u3 : (Value.type "list" == Value.type "dict") = false := by decide
        have isl : (s.heap.push (setNew led)).IsList l items := ⟨_, ho2, rfl, nl, rfl⟩
        unfold Builtin.«set.__init__» noKeywords Builtin.Frozenset.updateFrom
        generalize hPI : pyIter = PI
        wp_walk
        subst hPI
        refine wpAny_pyIter_list isl (wpAny_bind (wpAny_runValue ?_))
        have W := (Walks.list (prog := P) (w := w) (A := A.in1.in1.in1) calm3 ((s.heap.push (setNew led)).objs.size) l (Nat.ne_of_lt (by rw [sz]; exact Nat.lt_succ_of_lt ll)) items).toS
        rw [← len] at W
        have few2 : 0 < scanBound := by unfold scanBound; omega
        refine fill_texts W (S := s.heap.objs.size) (fun z => by
          rcases List.mem_cons.mp z with z | z
          · exact absurd z (Nat.ne_of_lt (by rw [sz]; exact Nat.lt_succ_self _))
          · exact absurd (List.mem_singleton.mp z) (Nat.ne_of_gt ll)) few got (fun s' mv so => ?_) xs.length 0 _ (by omega) ⟨fun _ _ _ e => e, rfl, rfl, rfl, Nat.le_refl _⟩ ⟨⟨_, Heap.get?_push_size _ rfl, rfl, rfl⟩, isl.push _⟩ ?_
        · obtain ⟨h', g', d', tk', os'⟩ := s'
          obtain rfl : g' = s.gens := mv.gens
          obtain rfl : d' = s.drawn := mv.drawn
          obtain rfl : os' = s.os := mv.os
          refine wpAny_pure (show wpAny _ _ (ret Value.none) _ _ _ from wpAny_pure ⟨rfl, h', tk', rfl, so, fun b o hb e => mv.heap b o ?_ (Heap.get?_push_of_some _ (Heap.get?_push_of_some _ e))⟩)
          intro z
          rcases List.mem_cons.mp z with z | z
          · exact absurd z (Nat.ne_of_lt hb)
          · exact absurd (List.mem_singleton.mp z) (Nat.ne_of_lt (by rw [sz]; exact Nat.lt_succ_of_lt hb))
        · exact SetOf_congr ((setObjOf_fresh (knd := PySem.strKind P w) led).setOf (Heap.get?_push_of_some _ gS) few2) (fun _ => rfl) rfl
      · obtain ⟨⟨oc, od, odt, osl⟩, ho, hc, nl, hd⟩ := at_
        simp only at hc hd
        subst hc hd
        have ll : l < s.heap.objs.size := Heap.lt_size ho
        have ho2 := Heap.get?_push_of_some (setNew led) ho
        have u1 := PySem.F.sub_tuple_set
        have u2 := PySem.F.sub_tuple_frozenset
        have u3 : (Value.type "tuple" == Value.type "dict") = false := by decide
        have isl : (s.heap.push (setNew led)).IsTuple l items := ⟨_, ho2, rfl, nl, rfl⟩
        unfold Builtin.«set.__init__» noKeywords Builtin.Frozenset.updateFrom
        generalize hPI : pyIter = PI
        wp_walk
        subst hPI
        refine wpAny_pyIter_tuple isl (wpAny_bind (wpAny_runValue ?_))
        have W := (Walks.tuple (prog := P) (w := w) (A := A.in1.in1.in1) calm3 ((s.heap.push (setNew led)).objs.size) l (Nat.ne_of_lt (by rw [sz]; exact Nat.lt_succ_of_lt ll)) items).toS
        rw [← len] at W
        have few2 : 0 < scanBound := by unfold scanBound; omega
        refine fill_texts W (S := s.heap.objs.size) (fun z => by
          rcases List.mem_cons.mp z with z | z
          · exact absurd z (Nat.ne_of_lt (by rw [sz]; exact Nat.lt_succ_self _))
          · exact absurd (List.mem_singleton.mp z) (Nat.ne_of_gt ll)) few got (fun s' mv so => ?_) xs.length 0 _ (by omega) ⟨fun _ _ _ e => e, rfl, rfl, rfl, Nat.le_refl _⟩ ⟨⟨_, Heap.get?_push_size _ rfl, rfl, rfl⟩, isl.push _⟩ ?_
        · obtain ⟨h', g', d', tk', os'⟩ := s'
          obtain rfl : g' = s.gens := mv.gens
          obtain rfl : d' = s.drawn := mv.drawn
          obtain rfl : os' = s.os := mv.os
          refine wpAny_pure (show wpAny _ _ (ret Value.none) _ _ _ from wpAny_pure ⟨rfl, h', tk', rfl, so, fun b o hb e => mv.heap b o ?_ (Heap.get?_push_of_some _ (Heap.get?_push_of_some _ e))⟩)
          intro z
          rcases List.mem_cons.mp z with z | z
          · exact absurd z (Nat.ne_of_lt hb)
          · exact absurd (List.mem_singleton.mp z) (Nat.ne_of_lt (by rw [sz]; exact Nat.lt_succ_of_lt hb))
        · exact SetOf_congr ((setObjOf_fresh (knd := PySem.strKind P w) led).setOf (Heap.get?_push_of_some _ gS) few2) (fun _ => rfl) rfl
    · match r₂, hr₂ with
      | .error e, hr₂ => exact hr₂
      | .ok .next, hr₂ => exact hr₂.elim
      | .ok .brk, hr₂ => exact hr₂.elim
      | .ok .cont, hr₂ => exact hr₂.elim
      | .ok (.ret r), hr₂ =>
        obtain ⟨rfl, h', tk, rfl, so, k⟩ := hr₂
        repeat (any_goals (first | assumption | wp_step))
        exact q _ _ so k
end
end WW
set_option Elab.async false
set_option linter.all false
set_option maxRecDepth 100000
set_option maxHeartbeats 4000000
namespace WW
open PySem PySem.Spec PyProof.Rows L2
def tLenSetT (K : PySem.W.Frag) (ta : TE) : TE := fun σ H Q => ta σ H fun x H1 => ∃ (l : Addr) (xs : List Str), x = .ref l ∧ (SqL K H1 l (xs.map V.str) ∨ SqT K H1 l (xs.map V.str)) ∧ xs.length ≤ 2000 ∧ Q (.int (unl xs xs.length)) H1
theorem pe_lenSetT {X : Cx} (K : PySem.W.Frag) {a : Expr} {ta : TE} {p p2 q pos : Pos} (calm : X.calm = true) (g1 : Gl X "len") (m1 : X.mg "len" = none) (g2 : Gl X "set") (m2 : X.mg "set" = none) (ha : PE X a ta) (hK : X.K = K := by rfl)
    (na : starEach [a] X.env = (false, eval a X.env) :: starEach [] X.env := by rfl) : PE X (.Call (.Name "len" p) [.Call (.Name "set" p2) [a] [] q] [] pos) (tLenSetT K ta) := by
  subst hK
  refine ⟨fun pins s σ H Q I h => Call_ (ld_blt I g1 m1 boot_len (PyProof.Rows.callWith_builtin1 (PyProof.Rows.args_cons (Call_ (ld_blt I g2 m2 boot_set (PyProof.Rows.callWith_type1 (PyProof.Rows.args_cons (thn (ha.run pins s σ H _ I h) fun v s1 ⟨x, H1, I1, r1, q1⟩ => PyProof.Rows.args_nil ?_) na) na rfl))) rfl) rfl rfl))⟩
  obtain ⟨l, xs, rfl, at_, le, q1⟩ := q1
  cases r1
  have few : xs.length + 1 < scanBound := by
    have : (2001 : Nat) < scanBound := by decide
    omega
  have go : ∀ (its : List Value), (s1.heap.IsList l its.toArray ∨ s1.heap.IsTuple l its.toArray) → StrsAre its xs → wpAny (model X.prog X.w) X.A (call (.type "set") [.ref l]) (fun u s2 => wpAny (model X.prog X.w) X.A (spliced (backTo pos (starEach [] X.env))) (fun vs s3 => wpAny (model X.prog X.w) X.A (call (.builtin "len") (u :: vs)) (EP X pins σ Q) X.xe s3) X.xe s2) X.xe s1 := fun its h1 h2 => by
    refine set_texts (I1.ok.hd calm) h1 (by simpa using h2) few fun h' tk so k => PyProof.Rows.args_nil ?_
    obtain ⟨o, es, ep, t, ho, hex, hd, _, _, _, hf, hn⟩ := so
    have I2 : Inv X pins σ H1 { s1 with heap := h', toks := tk } := I1.kept fun b u e => k b u (Heap.lt_size e) e
    have le2 := unl_le xs xs.length
    exact call_len_set ho hex hd hf (by rw [hn]; omega) ⟨.int (unl xs xs.length), H1, I2.tok _, ⟨_, by rw [hn]⟩, q1⟩
  rcases at_ with at_ | at_
  · obtain ⟨its, r, pl, hz⟩ := I1.list at_
    exact go its (.inl pl.isList) (strsAre_of r)
  · obtain ⟨its, r, pl, hz⟩ := I1.tuple at_
    exact go its (.inr pl) (strsAre_of r)
end WW
set_option Elab.async false
set_option linter.all false
set_option maxRecDepth 100000
set_option maxHeartbeats 4000000
namespace WW
open PySem PySem.Spec PyProof.Rows L2
instance : Enc V := ⟨fun _ _ v a => v = a, fun _ h => h⟩
end WW
set_option Elab.async false
set_option linter.all false
set_option maxRecDepth 100000
set_option maxHeartbeats 4000000
namespace WW
open PySem PySem.Spec PyProof.Rows L2
inductive AV where
  | non
  | bl (b : Bool)
  | int (i : Int)
  | str (z : Str)
  | lst (xs : List AV)
  | tup (xs : List AV)
mutual
def AV.rep (K : PySem.W.Frag) (S : Hp) (v : V) : AV → Prop
  | .non => v = .non
  | .bl b => v = .bl b
  | .int i => v = .int i
  | .str z => v = .str z
  | .lst xs => xs.length ≤ BIG ∧ ∃ p vs, v = .ref p ∧ S p = some (.lst vs) ∧ AV.reps K S vs xs
  | .tup xs => xs.length ≤ BIG ∧ ∃ p vs, v = .ref p ∧ SqT K S p vs ∧ AV.reps K S vs xs
def AV.reps (K : PySem.W.Frag) (S : Hp) (vs : List V) : List AV → Prop
  | [] => vs = []
  | x :: r => ∃ v us, vs = v :: us ∧ AV.rep K S v x ∧ AV.reps K S us r
end
theorem AV.pr {K : PySem.W.Frag} {S : Hp} : ∀ {xs : List AV} {vs : List V}, AV.reps K S vs xs ↔ Paired (AV.rep K S) vs xs
  | [], vs => by
    rw [AV.reps]
    exact ⟨fun h => by subst h; exact .nil, fun h => by cases h; rfl⟩
  | x :: r, vs => by
    rw [AV.reps]
    constructor
    · rintro ⟨v, us, rfl, h1, h2⟩
      exact .cons h1 (AV.pr.mp h2)
    · intro h
      cases h with
      | cons h1 h2 => exact ⟨_, _, rfl, h1, AV.pr.mpr h2⟩
mutual
theorem AV.mono {K : PySem.W.Frag} {S S' : Hp} (e : Same S S') : ∀ {v : V} (a : AV), AV.rep K S v a → AV.rep K S' v a
  | v, .non, h => by rw [AV.rep] at h ⊢; exact h
  | v, .bl b, h => by rw [AV.rep] at h ⊢; exact h
  | v, .int b, h => by rw [AV.rep] at h ⊢; exact h
  | v, .str b, h => by rw [AV.rep] at h ⊢; exact h
  | v, .lst xs, h => by
    rw [AV.rep] at h ⊢
    obtain ⟨hl, p, vs, r, hq, hp⟩ := h
    exact ⟨hl, p, vs, r, e _ _ hq, AV.monos e xs hp⟩
  | v, .tup xs, h => by
    rw [AV.rep] at h ⊢
    obtain ⟨hl, p, vs, r, hq, hp⟩ := h
    exact ⟨hl, p, vs, r, Evl.ex_t e hq, AV.monos e xs hp⟩
theorem AV.monos {K : PySem.W.Frag} {S S' : Hp} (e : Same S S') : ∀ {vs : List V} (xs : List AV), AV.reps K S vs xs → AV.reps K S' vs xs
  | vs, [], h => by rw [AV.reps] at h ⊢; exact h
  | vs, x :: r, h => by
    rw [AV.reps] at h ⊢
    obtain ⟨v, us, e1, h1, h2⟩ := h
    exact ⟨v, us, e1, AV.mono e x h1, AV.monos e r h2⟩
end
instance : Enc AV := ⟨AV.rep, fun e h => AV.mono e _ h⟩
theorem sqT_upd {K : PySem.W.Frag} {S : Hp} {p q : Addr} {o : HO} {kvs : List (Key × V)} {vs : List V} (hp : S p = some (.dK kvs)) (h : SqT K S q vs) : SqT K (upd S p o) q vs := by
  have ne : ∀ {u}, S q = some u → (∀ l, u ≠ .dK l) → q ≠ p := fun {u} h1 h2 e => by
    rw [e, hp] at h1
    cases h1
    exact h2 _ rfl
  rcases h with (h | ⟨u, h⟩) | h
  · exact .inl (.inl (by rw [upd_ne (ne h fun _ z => nomatch z)]; exact h))
  · exact .inl (.inr ⟨u, by rw [upd_ne (ne h fun _ z => nomatch z)]; exact h⟩)
  · exact .inr h
mutual
theorem AV.updD {K : PySem.W.Frag} {S : Hp} {p : Addr} {o : HO} {kvs : List (Key × V)} (hp : S p = some (.dK kvs)) : ∀ {v : V} (a : AV), AV.rep K S v a → AV.rep K (upd S p o) v a
  | v, .non, h => by rw [AV.rep] at h ⊢; exact h
  | v, .bl b, h => by rw [AV.rep] at h ⊢; exact h
  | v, .int b, h => by rw [AV.rep] at h ⊢; exact h
  | v, .str b, h => by rw [AV.rep] at h ⊢; exact h
  | v, .lst xs, h => by
    rw [AV.rep] at h ⊢
    obtain ⟨hl, q, vs, r, hq, hr⟩ := h
    exact ⟨hl, q, vs, r, by rw [upd_ne (fun e => by rw [e, hp] at hq; cases hq)]; exact hq, AV.updDs hp xs hr⟩
  | v, .tup xs, h => by
    rw [AV.rep] at h ⊢
    obtain ⟨hl, q, vs, r, hq, hr⟩ := h
    exact ⟨hl, q, vs, r, sqT_upd hp hq, AV.updDs hp xs hr⟩
theorem AV.updDs {K : PySem.W.Frag} {S : Hp} {p : Addr} {o : HO} {kvs : List (Key × V)} (hp : S p = some (.dK kvs)) : ∀ {vs : List V} (xs : List AV), AV.reps K S vs xs → AV.reps K (upd S p o) vs xs
  | vs, [], h => by rw [AV.reps] at h ⊢; exact h
  | vs, x :: r, h => by
    rw [AV.reps] at h ⊢
    obtain ⟨v, us, e1, h1, h2⟩ := h
    exact ⟨v, us, e1, AV.updD hp x h1, AV.updDs hp r h2⟩
end
structure T4 (α β γ δ : Type) where
  a : α
  b : β
  c : γ
  d : δ
instance {α β γ δ : Type} [Enc α] [Enc β] [Enc γ] [Enc δ] : Enc (T4 α β γ δ) where
  rep K S v t := ∃ p v1 v2 v3 v4, v = .ref p ∧ SqT K S p [v1, v2, v3, v4] ∧ Enc.rep K S v1 t.a ∧ Enc.rep K S v2 t.b ∧ Enc.rep K S v3 t.c ∧ Enc.rep K S v4 t.d
  mono e h := by
    obtain ⟨p, v1, v2, v3, v4, r, hq, h1, h2, h3, h4⟩ := h
    exact ⟨p, v1, v2, v3, v4, r, Evl.ex_t e hq, Enc.mono e h1, Enc.mono e h2, Enc.mono e h3, Enc.mono e h4⟩
class IsAV (α : Type) [Enc α] where
  av : α → AV
  iff : ∀ {K : PySem.W.Frag} {S : Hp} {v : V} {a : α}, AV.rep K S v (av a) ↔ Enc.rep K S v a
instance : IsAV AV := ⟨id, Iff.rfl⟩
instance : IsAV Int := ⟨.int, by intro K S v a; show AV.rep K S v (.int a) ↔ v = .int a; rw [AV.rep]⟩
instance : IsAV Bool := ⟨.bl, by intro K S v a; show AV.rep K S v (.bl a) ↔ v = .bl a; rw [AV.rep]⟩
instance : IsAV Str := ⟨.str, by intro K S v a; show AV.rep K S v (.str a) ↔ v = .str a; rw [AV.rep]⟩
theorem av_pair {α : Type} [Enc α] [i : IsAV α] {K : PySem.W.Frag} {S : Hp} : ∀ {xs : List α} {vs : List V}, Paired (AV.rep K S) vs (xs.map i.av) ↔ Paired (Enc.rep K S) vs xs
  | [], vs => by
    rw [List.map_nil]
    exact ⟨fun h => by cases h; exact .nil, fun h => by cases h; exact .nil⟩
  | x :: r, vs => by
    rw [List.map_cons]
    constructor
    · intro h
      cases h with
      | cons h1 h2 => exact .cons (i.iff.mp h1) (av_pair.mp h2)
    · intro h
      cases h with
      | cons h1 h2 => exact .cons (i.iff.mpr h1) (av_pair.mpr h2)
instance {α : Type} [Enc α] [i : IsAV α] : IsAV (L α) where
  av xs := .lst (List.map i.av xs)
  iff {K S v a} := by
    rw [AV.rep]
    have ll : (List.map i.av a).length = List.length a := List.length_map ..
    constructor
    · rintro ⟨hl, p, vs, e, hq, r⟩
      exact ⟨Nat.le_trans (Nat.le_of_eq ll.symm) hl, p, vs, e, hq, av_pair.mp (AV.pr.mp r)⟩
    · rintro ⟨hl, p, vs, e, hq, r⟩
      exact ⟨Nat.le_trans (Nat.le_of_eq ll) hl, p, vs, e, hq, AV.pr.mpr (av_pair.mpr r)⟩
instance {α : Type} [Enc α] [i : IsAV α] : IsAV (U α) where
  av xs := .tup (List.map i.av xs)
  iff {K S v a} := by
    rw [AV.rep]
    have ll : (List.map i.av a).length = List.length a := List.length_map ..
    constructor
    · rintro ⟨hl, p, vs, e, hq, r⟩
      exact ⟨Nat.le_trans (Nat.le_of_eq ll.symm) hl, p, vs, e, hq, av_pair.mp (AV.pr.mp r)⟩
    · rintro ⟨hl, p, vs, e, hq, r⟩
      exact ⟨Nat.le_trans (Nat.le_of_eq ll) hl, p, vs, e, hq, AV.pr.mpr (av_pair.mpr r)⟩
instance {α β : Type} [Enc α] [Enc β] [i : IsAV α] [j : IsAV β] : IsAV (α × β) where
  av t := .tup [i.av t.1, j.av t.2]
  iff {K S v a} := by
    rw [AV.rep]
    simp only [AV.reps, i.iff, j.iff]
    constructor
    · rintro ⟨_, p, vs, rfl, hq, v1, u1, rfl, h1, v2, u2, rfl, h2, rfl⟩
      exact ⟨p, v1, v2, rfl, hq, h1, h2⟩
    · rintro ⟨p, v1, v2, rfl, hq, h1, h2⟩
      exact ⟨by show 2 ≤ BIG; decide, p, _, rfl, hq, v1, _, rfl, h1, v2, _, rfl, h2, rfl⟩
instance {α β γ : Type} [Enc α] [Enc β] [Enc γ] [i : IsAV α] [j : IsAV β] [k : IsAV γ] : IsAV (T3 α β γ) where
  av t := .tup [i.av t.a, j.av t.b, k.av t.c]
  iff {K S v a} := by
    rw [AV.rep]
    simp only [AV.reps, i.iff, j.iff, k.iff]
    constructor
    · rintro ⟨_, p, vs, rfl, hq, v1, u1, rfl, h1, v2, u2, rfl, h2, v3, u3, rfl, h3, rfl⟩
      exact ⟨p, v1, v2, v3, rfl, hq, h1, h2, h3⟩
    · rintro ⟨p, v1, v2, v3, rfl, hq, h1, h2, h3⟩
      exact ⟨by show 3 ≤ BIG; decide, p, _, rfl, hq, v1, _, rfl, h1, v2, _, rfl, h2, v3, _, rfl, h3, rfl⟩
instance {α β γ δ : Type} [Enc α] [Enc β] [Enc γ] [Enc δ] [i : IsAV α] [j : IsAV β] [k : IsAV γ] [l : IsAV δ] : IsAV (T4 α β γ δ) where
  av t := .tup [i.av t.a, j.av t.b, k.av t.c, l.av t.d]
  iff {K S v a} := by
    rw [AV.rep]
    simp only [AV.reps, i.iff, j.iff, k.iff, l.iff]
    constructor
    · rintro ⟨_, p, vs, rfl, hq, v1, u1, rfl, h1, v2, u2, rfl, h2, v3, u3, rfl, h3, v4, u4, rfl, h4, rfl⟩
      exact ⟨p, v1, v2, v3, v4, rfl, hq, h1, h2, h3, h4⟩
    · rintro ⟨p, v1, v2, v3, v4, rfl, hq, h1, h2, h3, h4⟩
      exact ⟨by show 4 ≤ BIG; decide, p, _, rfl, hq, v1, _, rfl, h1, v2, _, rfl, h2, v3, _, rfl, h3, v4, _, rfl, h4, rfl⟩
theorem inV_str (z : Str) : ∀ ws : List Str, inV (.str z) (ws.map V.str) = decide (z ∈ ws) := fun ws => by
  unfold inV
  rw [List.any_map, Bool.eq_iff_iff, List.any_eq_true, decide_eq_true_iff]
  constructor
  · rintro ⟨y, hy, e⟩
    have e : (y == z) = true := e
    rwa [← beq_iff_eq.mp e]
  · exact fun h => ⟨z, h, (beq_self_eq_true z : (z == z) = true)⟩
def AV.tn : AV → String
  | .non => "NoneType"
  | .bl _ => "bool"
  | .int _ => "int"
  | .str _ => "str"
  | .lst _ => "list"
  | .tup _ => "tuple"
def AV.isStr : AV → Bool
  | .str _ => true
  | _ => false
def AV.isTup : AV → Bool
  | .tup _ => true
  | _ => false
def AV.isInt : AV → Bool
  | .int _ => true
  | _ => false
def AV.isNum : AV → Bool
  | .int i => decide (0 ≤ i)
  | _ => false
def AV.isSeq : AV → Bool
  | .lst _ => true
  | .tup _ => true
  | _ => false
def AV.items : AV → List AV
  | .lst xs => xs
  | .tup xs => xs
  | _ => []
def AV.txt : AV → Str
  | .str z => z
  | _ => Str.empty
def AV.num : AV → Int
  | .int i => i
  | _ => 0
mutual
def AV.sm : AV → Bool
  | .str z => decide (z.length ≤ 1000)
  | .lst xs => decide (xs.length ≤ 1000) && AV.sms xs
  | .tup xs => decide (xs.length ≤ 1000) && AV.sms xs
  | _ => true
def AV.sms : List AV → Bool
  | [] => true
  | x :: r => AV.sm x && AV.sms r
end
theorem AV.sms_iff : ∀ {xs : List AV}, AV.sms xs = true ↔ ∀ x ∈ xs, x.sm = true
  | [] => by simp [AV.sms]
  | x :: r => by rw [AV.sms, Bool.and_eq_true, AV.sms_iff]; simp
theorem AV.sm_items {a : AV} (h : a.sm = true) : a.items.length ≤ 1000 ∧ ∀ x ∈ a.items, x.sm = true := by
  cases a with
  | lst xs =>
    rw [AV.sm, Bool.and_eq_true, AV.sms_iff] at h
    exact ⟨of_decide_eq_true h.1, h.2⟩
  | tup xs =>
    rw [AV.sm, Bool.and_eq_true, AV.sms_iff] at h
    exact ⟨of_decide_eq_true h.1, h.2⟩
  | _ => exact ⟨by show 0 ≤ 1000; decide, fun x hx => nomatch hx⟩
theorem AV.sm_txt {a : AV} (h : a.sm = true) : a.txt.length ≤ 1000 := by
  cases a with
  | str z =>
    rw [AV.sm] at h
    exact of_decide_eq_true h
  | _ => show 0 ≤ 1000; decide
theorem AV.ty {K : PySem.W.Frag} {S : Hp} {v : V} : ∀ {a : AV}, AV.rep K S v a → TyX K S v (.type a.tn)
  | .non, h => by rw [AV.rep] at h; subst h; exact .base .non
  | .bl b, h => by rw [AV.rep] at h; subst h; exact .base (.bl b)
  | .int b, h => by rw [AV.rep] at h; subst h; exact .base (.int b)
  | .str b, h => by rw [AV.rep] at h; subst h; exact .base (.str b)
  | .lst xs, h => by rw [AV.rep] at h; obtain ⟨_, p, vs, rfl, hh, _⟩ := h; exact .base (.lst hh)
  | .tup xs, h => by rw [AV.rep] at h; obtain ⟨_, p, vs, rfl, hh, _⟩ := h; exact ty_t hh
instance : TyE AV := ⟨AV.tn, fun h => AV.ty h⟩
theorem AV.hasT {K : PySem.W.Frag} {S : Hp} {v : V} : ∀ {a : AV}, AV.rep K S v a → HasT K S v a.isSeq
  | .non, h => by rw [AV.rep] at h; subst h; exact hasT_non
  | .bl b, h => by rw [AV.rep] at h; subst h; exact hasT_bl b
  | .int b, h => by rw [AV.rep] at h; subst h; exact hasT_int b
  | .str b, h => by rw [AV.rep] at h; subst h; exact hasT_str b
  | .lst xs, h => by rw [AV.rep] at h; obtain ⟨_, p, vs, rfl, hh, _⟩ := h; exact Sq.hasT (.l hh)
  | .tup xs, h => by rw [AV.rep] at h; obtain ⟨_, p, vs, rfl, hh, _⟩ := h; exact Sq.hasT (.inr hh)
section
variable {K : PySem.W.Frag} {B : Addr → Prop} {ρ ρ' ρ1 ρ2 : List Slot} {ta tb tc td te : TE} {t u : TT} {ts tu tz : TS} {Φ : Post} {α β γ δ : Type} {e_α : Enc α} {e_β : Enc β} {e_γ : Enc γ} {e_δ : Enc δ} {a : α} {b : β} {i j : Int} {x : AV}
theorem DE.conv {a : α} {b : β} (h : DE K B te ρ a) (f : ∀ S v, Enc.rep K S v a → Enc.rep K S v b) : DE K B te ρ b := fun S0 H0 S H σ E Q q => h S0 H0 S H σ E Q fun v S1 H1 e r => q v S1 H1 e (f _ _ r)
theorem DN.conv {P : α → Prop} {P' : β → Prop} (h : DN K B te ρ P) (f : ∀ a, P a → ∃ b, P' b ∧ ∀ S v, Enc.rep K S v a → Enc.rep K S v b) : DN K B te ρ P' := fun S0 H0 S H σ E Q q => h S0 H0 S H σ E Q fun v a S1 H1 pa e r => by
  obtain ⟨b, pb, g⟩ := f a pa
  exact q v b S1 H1 pb e (g _ _ r)
theorem d_av [s : IsAV α] (h : DE K B te ρ a) : DE K B te ρ (s.av a) := h.conv fun _ _ r => s.iff.mpr r
theorem d_va [s : IsAV α] (h : DE K B te ρ (s.av a)) : DE K B te ρ a := h.conv fun _ _ r => s.iff.mp r
theorem dn_av [s : IsAV α] {P : α → Prop} (h : DN K B te ρ P) : DN K B te ρ (fun b : AV => ∃ a, P a ∧ b = s.av a) := h.conv fun a pa => ⟨s.av a, ⟨a, pa, rfl⟩, fun _ _ r => s.iff.mpr r⟩
theorem d_avS {z : Str} (h : DE K B te ρ z) : DE K B te ρ (AV.str z) := d_av h
theorem d_chLeLe {k : Int} (ha : DE K B ta ρ i) (hb : DE K B tb ρ j) (hc : DE K B tc ρ k) : DE K B (tChain (rI0 fun i j => .bl (decide (i ≤ j))) (rI0 fun i j => .bl (decide (i ≤ j))) ta tb tc) ρ (decide (i ≤ j) && decide (j ≤ k)) :=
  d_chain ha hb (fun _ => hc) (fun v w S H _ h1 h2 Q q => ⟨i, j, h1, h2, q⟩) fun v w S H _ h1 h2 Q q => ⟨j, k, h1, h2, q⟩
theorem d_asStrA (h : DE K B te ρ x) (hs : x.isStr = true) : DE K B te ρ x.txt := h.conv fun S v r => by
  cases x with
  | str z => exact IsAV.iff.mp r
  | _ => cases hs
theorem d_asInt (h : DE K B te ρ x) (hs : x.isInt = true) : DE K B te ρ x.num := h.conv fun S v r => by
  cases x with
  | int z => exact IsAV.iff.mp r
  | _ => cases hs
theorem d_asSeq (h : DE K B te ρ x) (hs : x.isSeq = true) : DE K B te ρ x.items := h.conv fun S v r => by
  have r : AV.rep K S v x := r
  cases x with
  | lst xs =>
    rw [AV.rep] at r
    obtain ⟨hl, p, vs, e, hq, r⟩ := r
    exact ⟨hl, p, vs, e, .l hq, AV.pr.mp r⟩
  | tup xs =>
    rw [AV.rep] at r
    obtain ⟨hl, p, vs, e, hq, r⟩ := r
    exact ⟨hl, p, vs, e, .inr hq, AV.pr.mp r⟩
  | _ => cases hs
theorem d_isA {nm : String} {r : AV → Bool} (h : DE K B te ρ x) (hk : ∀ y : AV, L2.kitB y.tn nm = some (r y)) : DE K B (tCB (rIsi K) (tCons te (tCons (tC (.ty nm)) tNil))) ρ (r x) := d_isi h inferInstance (hk x)
def AV.isBl : AV → Bool
  | .bl _ => true
  | _ => false
theorem kit_str : ∀ y : AV, L2.kitB y.tn "str" = some y.isStr
  | .non => (by decide +kernel : L2.kitB "NoneType" "str" = some false)
  | .bl _ => (by decide +kernel : L2.kitB "bool" "str" = some false)
  | .int _ => (by decide +kernel : L2.kitB "int" "str" = some false)
  | .str _ => (by decide +kernel : L2.kitB "str" "str" = some true)
  | .lst _ => (by decide +kernel : L2.kitB "list" "str" = some false)
  | .tup _ => (by decide +kernel : L2.kitB "tuple" "str" = some false)
theorem kit_tup : ∀ y : AV, L2.kitB y.tn "tuple" = some y.isTup
  | .non => (by decide +kernel : L2.kitB "NoneType" "tuple" = some false)
  | .bl _ => (by decide +kernel : L2.kitB "bool" "tuple" = some false)
  | .int _ => (by decide +kernel : L2.kitB "int" "tuple" = some false)
  | .str _ => (by decide +kernel : L2.kitB "str" "tuple" = some false)
  | .lst _ => (by decide +kernel : L2.kitB "list" "tuple" = some false)
  | .tup _ => (by decide +kernel : L2.kitB "tuple" "tuple" = some true)
theorem kit_int : ∀ y : AV, L2.kitB y.tn "int" = some (y.isInt || y.isBl)
  | .non => (by decide +kernel : L2.kitB "NoneType" "int" = some false)
  | .bl _ => (by decide +kernel : L2.kitB "bool" "int" = some true)
  | .int _ => (by decide +kernel : L2.kitB "int" "int" = some true)
  | .str _ => (by decide +kernel : L2.kitB "str" "int" = some false)
  | .lst _ => (by decide +kernel : L2.kitB "list" "int" = some false)
  | .tup _ => (by decide +kernel : L2.kitB "tuple" "int" = some false)
theorem kit_bool : ∀ y : AV, L2.kitB y.tn "bool" = some y.isBl
  | .non => (by decide +kernel : L2.kitB "NoneType" "bool" = some false)
  | .bl _ => (by decide +kernel : L2.kitB "bool" "bool" = some true)
  | .int _ => (by decide +kernel : L2.kitB "int" "bool" = some false)
  | .str _ => (by decide +kernel : L2.kitB "str" "bool" = some false)
  | .lst _ => (by decide +kernel : L2.kitB "list" "bool" = some false)
  | .tup _ => (by decide +kernel : L2.kitB "tuple" "bool" = some false)
theorem d_isSeqA (h : DE K B te ρ x) : DE K B (tCB (rIsiT K) (tCons te (tCons (tTup (tCons (tC (.ty "list")) (tCons (tC (.ty "tuple")) tNil))) tNil))) ρ x.isSeq := fun S0 H0 S H σ E Q q =>
  h S0 H0 S H σ E _ fun v S1 H1 e1 r => ⟨by show 2 ≤ sizeLine; decide, fun w hw => by
    obtain ⟨t, b1, b2, ty, k1, k2, z, k3⟩ := AV.hasT r
    exact ⟨_, w, _, t, _, _, rfl, upd_same, .cons (.ty "list") (.cons (.ty "tuple") .nil), tyx_same (e1.i.trans (same_new hw)) ty, k3, q _ S1 _ (e1.trans (Ext.grow e1.i (same_new hw))) rfl⟩⟩
theorem d_isIntA (h : DE K B te ρ x) : DE K B (tAndV (tCB (rIsi K) (tCons te (tCons (tC (.ty "int")) tNil))) (tNotV (tCB (rIsi K) (tCons te (tCons (tC (.ty "bool")) tNil))))) ρ x.isInt := by
  refine DE.is (d_andV (d_isA h kit_int) fun _ => d_notV (d_isA h kit_bool)) ?_
  cases x <;> rfl
theorem d_inS {z : Str} {ws : List Str} (h1 : DE K B ta ρ z) (h2 : DE K B tb ρ ws) : DE K B (tOp (rIn K false) ta tb) ρ (decide (z ∈ ws)) :=
  d_op h1 h2 fun x y S H i r1 ⟨hl, p, vs, e, hq, r⟩ Q q => by
    cases r1
    cases vals_str r
    refine ⟨p, _, e, hq.ex i, rfl, ?_, ?_⟩
    · rw [List.all_map]
      exact List.all_eq_true.mpr fun _ _ => rfl
    · have e : inV (.str z) (ws.map V.str) = decide (z ∈ ws) := inV_str z ws
      rw [e]
      exact q _ S H (Ext.refl i) rfl
theorem d_notInS {z : Str} {ws : List Str} (h1 : DE K B ta ρ z) (h2 : DE K B tb ρ ws) : DE K B (tOp (rIn K true) ta tb) ρ (!decide (z ∈ ws)) :=
  d_op h1 h2 fun x y S H i r1 ⟨hl, p, vs, e, hq, r⟩ Q q => by
    cases r1
    cases vals_str r
    refine ⟨p, _, e, hq.ex i, rfl, ?_, ?_⟩
    · rw [List.all_map]
      exact List.all_eq_true.mpr fun _ _ => rfl
    · have e : inV (.str z) (ws.map V.str) = decide (z ∈ ws) := inV_str z ws
      rw [e]
      exact q _ S H (Ext.refl i) rfl
theorem d_lenSet {ws : List Str} (h : DE K B te ρ ws) (hl : ws.length ≤ 2000) : DE K B (tLenSetT K te) ρ (unl ws ws.length : Int) := fun S0 H0 S H σ E Q q =>
  h S0 H0 S H σ E _ fun v S1 H1 e1 ⟨_, p, vs, e, hq, r⟩ => by
    cases vals_str r
    exact ⟨p, ws, e, hq.ex e1.i, hl, q _ S1 H1 e1 rfl⟩
theorem d_partition {y z : Str} (h1 : DE K B ta ρ y) (h2 : DE K B tb ρ z) (hz : (z.length == 0) = false) (hy : y.length ≤ BIG) : DE K B (tM1 (fun x xs H Q => ∃ a b, x = .str a ∧ xs = [.str b] ∧ (b.length == 0) = false ∧ a.length ≤ sizeLine ∧ ∀ p, H p = none → Q (.ref p) (upd H p (.tup [.str (Txt.partition a b).1, .str (Txt.partition a b).2.1, .str (Txt.partition a b).2.2]))) ta tb) ρ (T3.mk (Txt.partition y z).1 (Txt.partition y z).2.1 (Txt.partition y z).2.2) := fun S0 H0 S H σ E Q q =>
  h1 S0 H0 S H σ E _ fun v S1 H1 e1 r1 => by
    cases r1
    refine ⟨⟨y, rfl⟩, h2 S0 H0 S1 H1 σ (E.go e1) _ fun w S2 H2 e2 r2 => ?_⟩
    cases r2
    refine ⟨y, z, rfl, rfl, hz, Nat.le_trans hy big_line, fun p hp => ?_⟩
    have e3 : Ext B S2 H2 (upd S2 p (.tup [.str (Txt.partition y z).1, .str (Txt.partition y z).2.1, .str (Txt.partition y z).2.2])) (upd H2 p (.tup [.str (Txt.partition y z).1, .str (Txt.partition y z).2.1, .str (Txt.partition y z).2.2])) := Ext.new e2.i hp
    exact q _ _ _ ((e1.trans e2).trans e3) ⟨p, _, _, _, rfl, .inl (.inl upd_same), rfl, rfl, rfl⟩
theorem d_quad {a : α} {b : β} {c : γ} {d : δ} (ha : DE K B ta ρ a) (hb : DE K B tb ρ b) (hc : DE K B tc ρ c) (hd : DE K B td ρ d) : DE K B (tTup (tCons ta (tCons tb (tCons tc (tCons td tNil))))) ρ (T4.mk a b c d) := fun S0 H0 S H σ E Q q =>
  ha S0 H0 S H σ E _ fun x S1 H1 e1 r1 => hb S0 H0 S1 H1 σ (E.go e1) _ fun y S2 H2 e2 r2 => hc S0 H0 S2 H2 σ (E.go (e1.trans e2)) _ fun z S3 H3 e3 r3 => hd S0 H0 S3 H3 σ (E.go ((e1.trans e2).trans e3)) _ fun w S4 H4 e4 r4 => ⟨by show 4 ≤ sizeLine; decide, fun p hp => by
    have e5 : Ext B S4 H4 (upd S4 p (.tup [x, y, z, w])) (upd H4 p (.tup [x, y, z, w])) := Ext.new e4.i hp
    exact q _ _ _ ((((e1.trans e2).trans e3).trans e4).trans e5) ⟨p, x, y, z, w, rfl, .inl (.inl upd_same), Enc.mono (((e2.s.trans e3.s).trans e4.s).trans e5.s) r1, Enc.mono ((e3.s.trans e4.s).trans e5.s) r2, Enc.mono (e4.s.trans e5.s) r3, Enc.mono e5.s r4⟩⟩
end
end WW
set_option Elab.async false
set_option linter.all false
set_option maxRecDepth 100000
namespace WW
open PySem PySem.Spec PyProof.Rows L2
abbrev N_is_integer : List Str := ["value"]
theorem sc_is_integer : FnScope N_is_integer ["value"] (defScope s_is_integer) := ⟨rfl, rfl, rfl, by decide +kernel, rfl, by decide +kernel, by decide +kernel⟩
abbrev N_is_number : List Str := ["value"]
theorem sc_is_number : FnScope N_is_number ["value"] (defScope s_is_number) := ⟨rfl, rfl, rfl, by decide +kernel, rfl, by decide +kernel, by decide +kernel⟩
abbrev N_is_sequence : List Str := ["value"]
theorem sc_is_sequence : FnScope N_is_sequence ["value"] (defScope s_is_sequence) := ⟨rfl, rfl, rfl, by decide +kernel, rfl, by decide +kernel, by decide +kernel⟩
end WW
set_option Elab.async false
set_option linter.all false
set_option maxRecDepth 100000
set_option maxHeartbeats 4000000
namespace WW
open PySem PySem.Spec PyProof.Rows L2
abbrev SMALLS : Str := "abcdefghijklmnopqrstuvwxyz"
def nameB (z : Str) : Bool := (decide (0 < (z.length : Int)) && decide ((z.length : Int) < 6)) && z.cps.toList.all fun c => decide (c ∈ SMALLS.cps.toList)
def isName : AV → Bool
  | .str z => nameB z
  | _ => false
def freshB (v : AV) (tk : List Str) : Bool := v.isSeq && (v.items.all (fun x => isName x && !decide (x.txt ∈ tk)) && decide (v.items.map AV.txt).Nodup)
def pairB (v : AV) : Bool := v.isTup && (decide (v.items.length = 2) && v.items.all isName)
def labelsOf (v : AV) : List Str := if v.isSeq = true then (v.items.filter pairB).map (fun p => (p.items.getD 0 .non).txt) else []
def dot : Str := "."
def endB (z : Str) : Bool := (decide (1 ≤ (Txt.split z ".").length) && decide ((Txt.split z ".").length ≤ 2)) && (Txt.split z ".").all nameB
def thereB (e : AV) (ns ls : List Str) : Bool := (e.isStr && endB e.txt) && (if decide ((Txt.partition e.txt ".").2.1 = dot) = true then decide ((Txt.partition e.txt ".").1 ∈ ls) else decide (e.txt ∈ ns))
def linkB (v : AV) (bs gs ls : List Str) : Bool := (v.isTup && decide (v.items.length = 4)) && ((thereB (v.items.getD 0 .non) bs ls && thereB (v.items.getD 1 .non) gs ls) && ((v.items.getD 2 .non).isNum && (v.items.getD 3 .non).isNum))
theorem name_str {x : AV} (h : isName x = true) : x.isStr = true ∧ x = .str x.txt ∧ nameB x.txt = true := by
  cases x <;> first | exact ⟨rfl, rfl, h⟩ | cases h
section
variable {K : PySem.W.Frag} {B : Addr → Prop} {ρ ρ' ρ1 ρ2 : List Slot} {ta tb tc td te : TE} {x : AV}
theorem pair_txt {S : Hp} : ∀ {vs : List V} {xs : List AV}, Paired (AV.rep K S) vs xs → (∀ y ∈ xs, y.isStr = true) → Paired (Enc.rep K S) vs (xs.map AV.txt)
  | _, _, .nil, _ => .nil
  | _, y :: r, .cons h t, g => .cons (by
      have := g y List.mem_cons_self
      cases y with
      | str z => rw [AV.rep] at h; exact h
      | _ => cases this) (pair_txt t fun z hz => g z (List.mem_cons_of_mem _ hz))
theorem d_asStrs (h : DE K B te ρ x) (hs : x.isSeq = true) (ha : ∀ y ∈ x.items, y.isStr = true) : DE K B te ρ (x.items.map AV.txt) := (d_asSeq h hs).conv fun S v ⟨hl, p, vs, e, hq, r⟩ => ⟨by rw [List.length_map]; exact hl, p, vs, e, hq, pair_txt r ha⟩
theorem d_ixA {i : Int} {y : AV} (h : DE K B ta ρ x) (hs : x.isSeq = true) (hi : DE K B tb ρ i) (hy : atI x.items i = some y) : DE K B (tOp (rIxQ K) ta tb) ρ y := d_ix (d_asSeq h hs) hi hy
end
theorem op_inK {X : Cx} (K : PySem.W.Frag) (h : X.K = K := by rfl) : OpR X (compareOp .In) (rIn K false) := by
  subst h
  exact op_in_seq
theorem op_notInK {X : Cx} (K : PySem.W.Frag) (h : X.K = K := by rfl) : OpR X (compareOp .NotIn) (rIn K true) := by
  subst h
  exact op_notIn_seq
theorem all_get {α : Type} {p : α → Bool} {l : List α} (h : l.all p = true) {x : α} (hx : x ∈ l) : p x = true := List.all_eq_true.mp h x hx
section
variable {P : Program} {w : World} {K : PySem.W.Frag} {mg : Str → Option Value} {base : Heap} {f : Addr} {fd : FuncData}
abbrev Sm1 : AV → Prop := fun v => v.sm = true
abbrev dpInt := dp1 (fun _ : AV => True) AV.isInt
abbrev dpNum := dp1 (fun _ : AV => True) AV.isNum
abbrev dpSeq := dp1 (fun _ : AV => True) AV.isSeq
abbrev dpName := dp1 Sm1 isName
theorem ok_is_integer (F : FnP K "is_integer" s_is_integer f fd) (m_isinstance : mg "isinstance" = none) (m_int : mg "int" = none) (m_bool : mg "bool" = none) : FnOk P w K mg base CX0 1 f fd ["value"] (spT K dpInt) := by
  refine okT F sc_is_integer (fun ss R h => ?_) (fun cdv A outer s H E hr => ⟨_, (pss_one (ps_ret (pe_and (pe_callB (call_isiK1 K) rfl m_isinstance (by decide +kernel) (pa_cons (pv 0) (pa_cons (pe_bltn (v := .ty "int") (u := .type "int") rfl m_int (by decide +kernel) rfl) (pa_nil)))) (pe_one (pe_not (pe_callB (call_isiK1 K) rfl m_isinstance (by decide +kernel) (pa_cons (pv 0) (pa_cons (pe_bltn (v := .ty "bool") (u := .type "bool") rfl m_bool (by decide +kernel) rfl) (pa_nil))))))))), fun B ss R h => ?_⟩)
  · obtain ⟨x, rfl, _⟩ := h
    rfl
  · obtain ⟨v, rfl, _, q⟩ := h
    exact ds_ret (d_isIntA (d_var rfl)) q
theorem ok_is_number (F : FnP K "is_number" s_is_number f fd) (g_is_integer : FnAt P w K mg base CX0 1 "is_integer" ["value"] (spT K dpInt)) : FnOk P w K mg base CX0 2 f fd ["value"] (spT K dpNum) := by
  refine okT F sc_is_number (fun ss R h => ?_) (fun cdv A outer s H E hr => ⟨_, (pss_one (ps_ret (pe_and (pe_fn g_is_integer hr rfl (pa_cons (pv 0) (pa_nil))) (pe_one (pe_cmpR op_ge (pv 0) (pe_int) (nomark _)))))), fun B ss R h => ?_⟩)
  · obtain ⟨x, rfl, _⟩ := h
    rfl
  · obtain ⟨v, rfl, _, q⟩ := h
    refine ds_retE q (d_andV (d_call1 (d_var rfl) trivial) fun h => d_ge (d_asInt (d_var rfl) h) d_int) ?_
    cases v <;> rfl
theorem ok_is_sequence (F : FnP K "is_sequence" s_is_sequence f fd) (m_isinstance : mg "isinstance" = none) (m_list : mg "list" = none) (m_tuple : mg "tuple" = none) : FnOk P w K mg base CX0 1 f fd ["value"] (spT K dpSeq) := by
  refine okT F sc_is_sequence (fun ss R h => ?_) (fun cdv A outer s H E hr => ⟨_, (pss_one (ps_ret (pe_callB (call_isiTK K) rfl m_isinstance (by decide +kernel) (pa_cons (pv 0) (pa_cons (pe_tup (pa_cons (pe_bltn (v := .ty "list") (u := .type "list") rfl m_list (by decide +kernel) rfl) (pa_cons (pe_bltn (v := .ty "tuple") (u := .type "tuple") rfl m_tuple (by decide +kernel) rfl) (pa_nil)))) (pa_nil)))))), fun B ss R h => ?_⟩)
  · obtain ⟨x, rfl, _⟩ := h
    rfl
  · obtain ⟨v, rfl, _, q⟩ := h
    exact ds_ret (d_isSeqA (d_var rfl)) q
abbrev N_is_name : List Str := ["value", "sign"]
theorem sc_is_name : FnScope N_is_name ["value"] (defScope s_is_name) := ⟨rfl, rfl, rfl, by decide +kernel, rfl, by decide +kernel, by decide +kernel⟩
theorem ok_is_name (F : FnP K "is_name" s_is_name f fd) (m_isinstance : mg "isinstance" = none) (m_str : mg "str" = none) (m_len : mg "len" = none) (m_all : mg "all" = none) (v_SMALL : ∃ u, mg "SMALL" = some u ∧ RelV (.str SMALLS) u) : FnOk P w K mg base CX0 1 f fd ["value"] (spT K dpName) := by
  refine okT F sc_is_name (fun ss R h => ?_) (fun cdv A outer s H E hr => ⟨_, (pss_one (ps_ret (pe_and (pe_callB (call_isiK1 K) rfl m_isinstance (by decide +kernel) (pa_cons (pv 0) (pa_cons (pe_bltn (v := .ty "str") (u := .type "str") rfl m_str (by decide +kernel) rfl) (pa_nil)))) (pe_and (pe_chain op_lt op_lt (pe_int) (pe_callB call_len_str rfl m_len (by decide +kernel) (pa_cons (pv 0) (pa_nil))) (pe_int)) (pe_one (pe_callB (cr_allK K) rfl m_all (by decide +kernel) (pa_cons (pe_lc (own := [("sign", 1)]) rfl sc_is_name.nd (pi_str (pv 0)) (blkOk_by (N := N_is_name) (sc := defScope s_is_name) (by decide +kernel)) (fun _ _ _ _ _ => pg_name (i := 1) sc_is_name.nd rfl (.inl rfl)) (fun _ _ _ _ _ => pts_nil) (fun _ _ _ _ _ => pe_cmpR op_in_sign (pv 1) (pe_gv rfl v_SMALL) rfl)) (pa_nil)))))))), fun B ss R h => ?_⟩)
  · obtain ⟨x, rfl, _⟩ := h
    rfl
  · obtain ⟨v, rfl, hv, q⟩ := h
    have hb : v.txt.length ≤ BIG := Nat.le_trans (AV.sm_txt hv) (by decide)
    refine ds_retE q (d_andV (d_isA (d_var rfl) kit_str) fun h => d_andV (d_chLtLt d_int (d_lenS (d_asStrA (d_var rfl) h) hb) d_int) fun _ => d_all (DO.l (do_map (fun z : Str => decide ((z.cps.toList.getD 0 0) ∈ SMALLS.cps.toList)) (di_str (d_asStrA (d_var rfl) h)) (by rw [signs_len]; exact hb) fun x hx => ?_))) ?_
    · obtain ⟨c, _, rfl⟩ := List.mem_map.mp hx
      exact ⟨_, _, dg_name, by simp, d_inSign (d_var rfl) d_str⟩
    · cases v with
      | str z =>
        show (true && ((decide _ && decide _) && ((signs z).map _).all id)) = nameB z
        unfold nameB signs
        rw [List.all_map, List.all_map]
        rfl
      | _ => rfl
abbrev N_is_end : List Str := ["word", "names", "name"]
theorem sc_is_end : FnScope N_is_end ["word"] (defScope s_is_end) := ⟨rfl, rfl, rfl, by decide +kernel, rfl, by decide +kernel, by decide +kernel⟩
theorem ok_is_end (F : FnP K "is_end" s_is_end f fd) (m_len : mg "len" = none) (m_all : mg "all" = none) (g_is_name : FnAt P w K mg base CX0 1 "is_name" ["value"] (spT K dpName)) : FnOk P w K mg base CX0 2 f fd ["word"] (spT K (dp1 (fun z : Str => z.length ≤ 1000) endB)) := by
  refine okT F sc_is_end (fun ss R h => ?_) (fun cdv A outer s H E hr => ⟨_, (pss_cons (ps_set (i := 1) sc_is_end.nd rfl (.inl rfl) (pe_split (pv 0) pe_str))
 (pss_one (ps_ret (pe_and (pe_chain op_le op_le (pe_int) (pe_callB (call_lenK K) rfl m_len (by decide +kernel) (pa_cons (pv 1) (pa_nil))) (pe_int)) (pe_one (pe_callB (cr_allK K) rfl m_all (by decide +kernel) (pa_cons (pe_lc (own := [("name", 2)]) rfl sc_is_end.nd (pi_seqK K (pv 1)) (blkOk_by (N := N_is_end) (sc := defScope s_is_end) (by decide +kernel)) (fun _ _ _ _ _ => pg_name (i := 2) sc_is_end.nd rfl (.inl rfl)) (fun _ _ _ _ _ => pts_nil) (fun _ _ _ _ _ => pe_fn g_is_name hr rfl (pa_cons (pv 2) (pa_nil)))) (pa_nil)))))))), fun B ss R h => ?_⟩)
  · obtain ⟨x, rfl, _⟩ := h
    rfl
  · obtain ⟨z, rfl, hz, q⟩ := h
    show DS K B _ [.val z, .no, .no] _
    have sw := PyProof.Rows.split_weight z "." (by decide)
    have wl : (Txt.split z ".").length ≤ 1001 := by omega
    have wp : ∀ w ∈ Txt.split z ".", w.length ≤ 1000 := fun w hw => by
      have : w.length ≤ ((Txt.split z ".").map (·.length)).sum := by
        clear sw wl
        generalize Txt.split z "." = l at hw
        induction l with
        | nil => cases hw
        | cons a r ih =>
          rw [List.map_cons, List.sum_cons]
          rcases List.mem_cons.mp hw with e | e
          · rw [e]; omega
          · have := ih e; omega
      have l1 : 0 < (Txt.split z ".").length := List.length_pos_of_mem hw
      omega
    refine dq_asgI (δ := L Str) (Txt.split z ".") (DO.l (do_split (d_var rfl) d_str (by decide) (Nat.le_trans (Nat.add_le_add_right hz 2) (by decide)) (Nat.le_trans wl (by decide)))) ?_
    show DS K B _ [.val z, .val (α := L Str) (Txt.split z "."), .no] _
    refine ds_retE q (d_andV (d_chLeLe d_int (d_len (d_Lq (d_var rfl))) d_int) fun _ => d_all (DO.l (do_map nameB (di_seq (d_Lq (d_var rfl))) (Nat.le_trans wl (by decide)) fun x hx => ⟨_, _, dg_name, by simp, (d_call1 (x := AV.str x) (f := isName) (d_avS (d_var rfl)) ?_)⟩))) ?_
    · show AV.sm (.str x) = true
      rw [AV.sm]
      exact decide_eq_true (wp x hx)
    · unfold endB
      rw [List.all_map]
      have e1 : decide ((1 : Int) ≤ ((Txt.split z ".").length : Int)) = decide (1 ≤ (Txt.split z ".").length) := by congr 1; exact propext ⟨fun h => by omega, fun h => by omega⟩
      have e2 : decide (((Txt.split z ".").length : Int) ≤ 2) = decide ((Txt.split z ".").length ≤ 2) := by congr 1; exact propext ⟨fun h => by omega, fun h => by omega⟩
      show (decide ((1 : Int) ≤ ((Txt.split z ".").length : Int)) && decide (((Txt.split z ".").length : Int) ≤ 2) && _) = _
      rw [e1, e2]
      rfl
abbrev N_are_fresh : List Str := ["value", "taken", "name"]
theorem sc_are_fresh : FnScope N_are_fresh ["value", "taken"] (defScope s_are_fresh) := ⟨rfl, rfl, rfl, by decide +kernel, rfl, by decide +kernel, by decide +kernel⟩
theorem ok_are_fresh (F : FnP K "are_fresh" s_are_fresh f fd) (m_len : mg "len" = none) (m_all : mg "all" = none) (m_set : mg "set" = none) (g_is_sequence : FnAt P w K mg base CX0 1 "is_sequence" ["value"] (spT K dpSeq)) (g_is_name : FnAt P w K mg base CX0 1 "is_name" ["value"] (spT K dpName)) : FnOk P w K mg base CX0 2 f fd ["value", "taken"] (spT K (dp2 (fun v (_ : List Str) => Sm1 v) freshB)) := by
  refine okT F sc_are_fresh (fun ss R h => ?_) (fun cdv A outer s H E hr => ⟨_, (pss_cons (ps_if (PW.pt (pw_or (pt_not (pt_val (pe_fn g_is_sequence hr rfl (pa_cons (pv 0) (pa_nil))))) (pw_or1 (pt_not (pt_val (pe_callB (cr_allK K) rfl m_all (by decide +kernel) (pa_cons (pe_lc (own := [("name", 2)]) rfl sc_are_fresh.nd (pi_seqK K (pv 0)) (blkOk_by (N := N_are_fresh) (sc := defScope s_are_fresh) (by decide +kernel)) (fun _ _ _ _ _ => pg_name (i := 2) sc_are_fresh.nd rfl (.inl rfl)) (fun _ _ _ _ _ => pts_nil) (fun _ _ _ _ _ => pe_and (pe_fn g_is_name hr rfl (pa_cons (pv 2) (pa_nil))) (pe_one (pe_cmpR (op_notInK K) (pv 2) (pv 1) rfl)))) (pa_nil)))))))) (pss_one (ps_ret (pe_bl))) (pss_nil))
 (pss_one (ps_ret (pe_cmpR op_eq (pe_lenSetT K rfl rfl m_len rfl m_set (pv 0)) (pe_callB (call_lenK K) rfl m_len (by decide +kernel) (pa_cons (pv 0) (pa_nil))) (nomark _))))), fun B ss R h => ?_⟩)
  · obtain ⟨x, y, rfl, _⟩ := h
    rfl
  · obtain ⟨v, tk, rfl, hv, q⟩ := h
    obtain ⟨il, ism⟩ := AV.sm_items hv
    refine dq_when (c := !v.isSeq || !(v.items.all fun x => isName x && !decide (x.txt ∈ tk))) (dt_or (dt_not (dt_B (d_call1 (d_var rfl) trivial))) fun h => dt_not (dt_B ?_)) (fun h => ?_) (fun h => ?_)
    · have hs : v.isSeq = true := by cases hh : v.isSeq <;> simp [hh] at h ⊢
      refine DE.is (d_all (DO.l (do_map (fun x : AV => isName x && !decide (x.txt ∈ tk)) (di_seq (d_asSeq (d_var rfl) hs)) (Nat.le_trans il (by decide)) fun x hx => ⟨_, _, dg_name, by simp, d_andV (d_call1 (d_var rfl) (ism x hx)) fun hn => d_notInS (d_asStrA (d_var rfl) (name_str hn).1) (d_var rfl)⟩))) ?_
      rw [List.all_map]
      rfl
    · refine ds_retE q d_bl ?_
      show false = freshB v tk
      unfold freshB
      cases h1 : v.isSeq
      · rfl
      · rw [h1] at h
        cases h2 : (v.items.all fun x => isName x && !decide (x.txt ∈ tk))
        · rfl
        · rw [h2] at h; cases h
    · have hh : v.isSeq = true ∧ (v.items.all fun x => isName x && !decide (x.txt ∈ tk)) = true := by
        revert h
        cases v.isSeq <;> cases (v.items.all fun x => isName x && !decide (x.txt ∈ tk)) <;> simp
      have hn : ∀ y ∈ v.items, y.isStr = true := fun y hy => by
        have := all_get hh.2 hy
        rw [Bool.and_eq_true] at this
        exact (name_str this.1).1
      refine ds_retE q (d_eq (d_lenSet (d_asStrs (d_var rfl) hh.1 hn) (by rw [List.length_map]; omega)) (d_len (d_asSeq (d_var rfl) hh.1)) inferInstance inferInstance) ?_
      unfold freshB
      rw [hh.1, hh.2, Bool.true_and, Bool.true_and]
      congr 1
      rw [List.length_map]
      have e := unl_all (xs := v.items.map AV.txt)
      rw [List.length_map] at e
      exact propext ⟨fun z => e.mp (by omega), fun z => by have := e.mpr z; omega⟩
abbrev N_is_pair : List Str := ["value", "word"]
theorem sc_is_pair : FnScope N_is_pair ["value"] (defScope s_is_pair) := ⟨rfl, rfl, rfl, by decide +kernel, rfl, by decide +kernel, by decide +kernel⟩
theorem ok_is_pair (F : FnP K "is_pair" s_is_pair f fd) (m_isinstance : mg "isinstance" = none) (m_tuple : mg "tuple" = none) (m_len : mg "len" = none) (m_all : mg "all" = none) (g_is_name : FnAt P w K mg base CX0 1 "is_name" ["value"] (spT K dpName)) : FnOk P w K mg base CX0 2 f fd ["value"] (spT K (dp1 Sm1 pairB)) := by
  refine okT F sc_is_pair (fun ss R h => ?_) (fun cdv A outer s H E hr => ⟨_, (pss_one (ps_ret (pe_and (pe_callB (call_isiK1 K) rfl m_isinstance (by decide +kernel) (pa_cons (pv 0) (pa_cons (pe_bltn (v := .ty "tuple") (u := .type "tuple") rfl m_tuple (by decide +kernel) rfl) (pa_nil)))) (pe_and (pe_cmpR op_eq (pe_callB (call_lenK K) rfl m_len (by decide +kernel) (pa_cons (pv 0) (pa_nil))) (pe_int) (nomark _)) (pe_one (pe_callB (cr_allK K) rfl m_all (by decide +kernel) (pa_cons (pe_lc (own := [("word", 1)]) rfl sc_is_pair.nd (pi_seqK K (pv 0)) (blkOk_by (N := N_is_pair) (sc := defScope s_is_pair) (by decide +kernel)) (fun _ _ _ _ _ => pg_name (i := 1) sc_is_pair.nd rfl (.inl rfl)) (fun _ _ _ _ _ => pts_nil) (fun _ _ _ _ _ => pe_fn g_is_name hr rfl (pa_cons (pv 1) (pa_nil)))) (pa_nil)))))))), fun B ss R h => ?_⟩)
  · obtain ⟨x, rfl, _⟩ := h
    rfl
  · obtain ⟨v, rfl, hv, q⟩ := h
    obtain ⟨il, ism⟩ := AV.sm_items hv
    have ts : v.isTup = true → v.isSeq = true := fun h => by cases v <;> first | rfl | cases h
    refine ds_retE q (d_andV (d_isA (d_var rfl) kit_tup) fun h => d_andV (d_eq (d_len (d_asSeq (d_var rfl) (ts h))) d_int inferInstance inferInstance) fun _ => d_all (DO.l (do_map isName (di_seq (d_asSeq (d_var rfl) (ts h))) (Nat.le_trans il (by decide)) fun x hx => ⟨_, _, dg_name, by simp, d_call1 (d_var rfl) (ism x hx)⟩))) ?_
    unfold pairB
    rw [List.all_map]
    have e : decide ((v.items.length : Int) = 2) = decide (v.items.length = 2) := by congr 1; exact propext ⟨fun h => by omega, fun h => by omega⟩
    rw [e]
    rfl
abbrev N_labels_in : List Str := ["calls", "pair"]
theorem sc_labels_in : FnScope N_labels_in ["calls"] (defScope s_labels_in) := ⟨rfl, rfl, rfl, by decide +kernel, rfl, by decide +kernel, by decide +kernel⟩
theorem ok_labels_in (F : FnP K "labels_in" s_labels_in f fd) (g_is_sequence : FnAt P w K mg base CX0 1 "is_sequence" ["value"] (spT K dpSeq)) (g_is_pair : FnAt P w K mg base CX0 2 "is_pair" ["value"] (spT K (dp1 Sm1 pairB))) : FnOk P w K mg base CX0 3 f fd ["calls"] (spT K (dp1 (γ := L Str) Sm1 labelsOf)) := by
  refine okT F sc_labels_in (fun ss R h => ?_) (fun cdv A outer s H E hr => ⟨_, (pss_one (ps_ret (pe_ifExp (pt_val (pe_fn g_is_sequence hr rfl (pa_cons (pv 0) (pa_nil)))) (pe_lc (own := [("pair", 1)]) rfl sc_labels_in.nd (pi_seqK K (pv 0)) (blkOk_by (N := N_labels_in) (sc := defScope s_labels_in) (by decide +kernel)) (fun _ _ _ _ _ => pg_name (i := 1) sc_labels_in.nd rfl (.inl rfl)) (fun _ _ _ _ _ => pts_one (pt_val (pe_fn g_is_pair hr rfl (pa_cons (pv 1) (pa_nil))))) (fun _ _ _ _ _ => pe_ix (ix_sqK K) (pv 1) (pe_int) (fun _ _ => rfl))) (pe_lst (pa_nil))))), fun B ss R h => ?_⟩)
  · obtain ⟨x, rfl, _⟩ := h
    rfl
  · obtain ⟨v, rfl, hv, q⟩ := h
    obtain ⟨il, ism⟩ := AV.sm_items hv
    refine ds_ret (α := L Str) (a := labelsOf v) ((d_if (a1 := (v.items.filter pairB).map (fun p => (p.items.getD 0 .non).txt)) (a2 := ([] : List Str)) (α := L Str) (dt_B (d_call1 (d_var rfl) trivial)) (fun h => DO.l (do_lc pairB (fun p => (p.items.getD 0 .non).txt) (di_seq (d_asSeq (d_var rfl) h)) (Nat.le_trans il (by decide)) fun x hx => ⟨_, _, dg_name, by simp, dt_B (d_call1 (d_var rfl) (ism x hx)), fun hp => ?_⟩)) (fun _ => DO.l (do_lst dl_nil (by decide)))).is rfl) q
    unfold pairB at hp
    simp only [Bool.and_eq_true, decide_eq_true_eq] at hp
    have hs : x.isSeq = true := by cases x <;> first | rfl | cases hp.1
    have h0 : 0 < x.items.length := by omega
    have e : x.items[0]? = some (x.items.getD 0 .non) := by rw [List.getD_eq_getElem?_getD, List.getElem?_eq_getElem h0]; rfl
    exact d_asStrA (d_ixA (d_var rfl) hs d_int (atI_nat (j := 0) e)) (name_str (all_get hp.2.2 (List.mem_of_getElem? e))).1
abbrev N_is_there : List Str := ["end", "names", "labels", "label", "point", "name"]
theorem sc_is_there : FnScope N_is_there ["end", "names", "labels"] (defScope s_is_there) := ⟨rfl, rfl, rfl, by decide +kernel, rfl, by decide +kernel, by decide +kernel⟩
theorem ok_is_there (F : FnP K "is_there" s_is_there f fd) (m_isinstance : mg "isinstance" = none) (m_str : mg "str" = none) (g_is_end : FnAt P w K mg base CX0 2 "is_end" ["word"] (spT K (dp1 (fun z : Str => z.length ≤ 1000) endB))) : FnOk P w K mg base CX0 3 f fd ["end", "names", "labels"] (spT K (dp3 (fun v (_ _ : List Str) => Sm1 v) thereB)) := by
  refine okT F sc_is_there (fun ss R h => ?_) (fun cdv A outer s H E hr => ⟨_, (pss_cons (ps_if (PW.pt (pw_or (pt_not (pt_val (pe_callB (call_isiK1 K) rfl m_isinstance (by decide +kernel) (pa_cons (pv 0) (pa_cons (pe_bltn (v := .ty "str") (u := .type "str") rfl m_str (by decide +kernel) rfl) (pa_nil)))))) (pw_or1 (pt_not (pt_val (pe_fn g_is_end hr rfl (pa_cons (pv 0) (pa_nil)))))))) (pss_one (ps_ret (pe_bl))) (pss_nil))
 (pss_cons (ps_asg (pe_partition (pv 0) pe_str) (pg_tupK (n := 3) K rfl (pgs_cons (pg_name (i := 3) sc_is_there.nd rfl (.inl rfl)) (pgs_cons (pg_name (i := 4) sc_is_there.nd rfl (.inl rfl)) (pgs_cons (pg_name (i := 5) sc_is_there.nd rfl (.inl rfl)) (pgs_nil))))))
 (pss_one (ps_ret (pe_ifExp (pt_cmpR op_eq (pv 4) (pe_str) (nomark _)) (pe_cmpR (op_inK K) (pv 3) (pv 2) rfl) (pe_cmpR (op_inK K) (pv 0) (pv 1) rfl)))))), fun B ss R h => ?_⟩)
  · obtain ⟨x, y, z, rfl, _⟩ := h
    rfl
  · obtain ⟨v, ns, ls, rfl, hv, q⟩ := h
    have zl := AV.sm_txt hv
    refine dq_when (c := !v.isStr || !endB v.txt) (dt_or (dt_not (dt_B (d_isA (d_var rfl) kit_str))) fun h => dt_not (dt_B (d_call1 (d_asStrA (d_var rfl) (by cases hh : v.isStr <;> simp [hh] at h ⊢)) zl))) (fun h => ?_) (fun h => ?_)
    · refine ds_retE q d_bl ?_
      unfold thereB
      cases h1 : v.isStr
      · rfl
      · rw [h1] at h
        cases h2 : endB v.txt
        · rfl
        · rw [h2] at h; cases h
    · have hh : v.isStr = true ∧ endB v.txt = true := by
        revert h
        cases v.isStr <;> cases endB v.txt <;> simp
      refine dq_asgG (d_partition (d_asStrA (d_var rfl) hh.1) d_str (by decide) (Nat.le_trans zl (by decide))) (DG.trip dg_name dg_name dg_name) ?_
      refine ds_retE q (d_if (dt_test (d_eq (d_var rfl) d_str inferInstance inferInstance)) (fun _ => d_inS (d_var rfl) (d_var rfl)) (fun _ => d_inS (d_asStrA (d_var rfl) hh.1) (d_var rfl))) ?_
      unfold thereB
      rw [hh.1, hh.2]
      rfl
abbrev N_is_link : List Str := ["value", "begins", "goes", "labels"]
theorem sc_is_link : FnScope N_is_link ["value", "begins", "goes", "labels"] (defScope s_is_link) := ⟨rfl, rfl, rfl, by decide +kernel, rfl, by decide +kernel, by decide +kernel⟩
theorem ok_is_link (F : FnP K "is_link" s_is_link f fd) (m_isinstance : mg "isinstance" = none) (m_tuple : mg "tuple" = none) (m_len : mg "len" = none) (g_is_there : FnAt P w K mg base CX0 3 "is_there" ["end", "names", "labels"] (spT K (dp3 (fun v (_ _ : List Str) => Sm1 v) thereB))) (g_is_number : FnAt P w K mg base CX0 2 "is_number" ["value"] (spT K dpNum)) : FnOk P w K mg base CX0 4 f fd ["value", "begins", "goes", "labels"] (spT K (dp4 (fun v (_ _ _ : List Str) => Sm1 v) linkB)) := by
  refine okT F sc_is_link (fun ss R h => ?_) (fun cdv A outer s H E hr => ⟨_, (pss_cons (ps_if (PW.pt (pw_or (pt_not (pt_val (pe_callB (call_isiK1 K) rfl m_isinstance (by decide +kernel) (pa_cons (pv 0) (pa_cons (pe_bltn (v := .ty "tuple") (u := .type "tuple") rfl m_tuple (by decide +kernel) rfl) (pa_nil)))))) (pw_or1 (pt_cmpR op_ne (pe_callB (call_lenK K) rfl m_len (by decide +kernel) (pa_cons (pv 0) (pa_nil))) (pe_int) (nomark _))))) (pss_one (ps_ret (pe_bl))) (pss_nil))
 (pss_cons (ps_if (PW.pt (pw_or (pt_not (pt_val (pe_fn g_is_there hr rfl (pa_cons (pe_ix (ix_sqK K) (pv 0) (pe_int) (fun _ _ => rfl)) (pa_cons (pv 1) (pa_cons (pv 3) (pa_nil))))))) (pw_or1 (pt_not (pt_val (pe_fn g_is_there hr rfl (pa_cons (pe_ix (ix_sqK K) (pv 0) (pe_int) (fun _ _ => rfl)) (pa_cons (pv 2) (pa_cons (pv 3) (pa_nil)))))))))) (pss_one (ps_ret (pe_bl))) (pss_nil))
 (pss_one (ps_ret (pe_and (pe_fn g_is_number hr rfl (pa_cons (pe_ix (ix_sqK K) (pv 0) (pe_int) (fun _ _ => rfl)) (pa_nil))) (pe_one (pe_fn g_is_number hr rfl (pa_cons (pe_ix (ix_sqK K) (pv 0) (pe_int) (fun _ _ => rfl)) (pa_nil))))))))), fun B ss R h => ?_⟩)
  · obtain ⟨x, y, z, u, rfl, _⟩ := h
    rfl
  · obtain ⟨v, bs, gs, ls, rfl, hv, q⟩ := h
    obtain ⟨il, ism⟩ := AV.sm_items hv
    have ts : v.isTup = true → v.isSeq = true := fun h => by cases v <;> first | rfl | cases h
    have e4 : decide ((v.items.length : Int) = 4) = decide (v.items.length = 4) := by congr 1; exact propext ⟨fun h => by omega, fun h => by omega⟩
    refine dq_when (c := !v.isTup || !decide (v.items.length = 4)) (dt_or (dt_not (dt_B (d_isA (d_var rfl) kit_tup))) fun h => DT.is (dt_test (d_ne (d_len (d_asSeq (d_var rfl) (ts (by cases hh : v.isTup <;> simp [hh] at h ⊢)))) d_int inferInstance inferInstance)) (by rw [e4])) (fun h => ?_) (fun h => ?_)
    · refine ds_retE q d_bl ?_
      unfold linkB
      cases h1 : v.isTup
      · rfl
      · rw [h1] at h
        cases h2 : decide (v.items.length = 4)
        · rfl
        · rw [h2] at h; cases h
    · have hh : v.isTup = true ∧ decide (v.items.length = 4) = true := by
        revert h
        cases v.isTup <;> cases decide (v.items.length = 4) <;> simp
      have l4 := of_decide_eq_true hh.2
      have gt : ∀ k : Nat, k < 4 → v.items[k]? = some (v.items.getD k .non) := fun k hk => by rw [List.getD_eq_getElem?_getD, List.getElem?_eq_getElem (by omega)]; rfl
      have sm : ∀ k : Nat, k < 4 → Sm1 (v.items.getD k .non) := fun k hk => ism _ (List.mem_of_getElem? (gt k hk))
      refine dq_when (c := !thereB (v.items.getD 0 .non) bs ls || !thereB (v.items.getD 1 .non) gs ls) (dt_or (dt_not (dt_B (d_call3 (d_ixA (d_var rfl) (ts hh.1) d_int (atI_nat (j := 0) (gt 0 (by decide)))) (d_var rfl) (d_var rfl) (sm 0 (by decide))))) fun _ => dt_not (dt_B (d_call3 (d_ixA (d_var rfl) (ts hh.1) d_int (atI_nat (j := 1) (gt 1 (by decide)))) (d_var rfl) (d_var rfl) (sm 1 (by decide))))) (fun h => ?_) (fun h => ?_)
      · refine ds_retE q d_bl ?_
        unfold linkB
        rw [hh.1, hh.2]
        revert h
        cases thereB (v.items.getD 0 .non) bs ls <;> cases thereB (v.items.getD 1 .non) gs ls <;> simp
      · refine ds_retE q (d_andV (d_call1 (d_ixA (d_var rfl) (ts hh.1) d_int (atI_nat (j := 2) (gt 2 (by decide)))) trivial) fun _ => d_call1 (d_ixA (d_var rfl) (ts hh.1) d_int (atI_nat (j := 3) (gt 3 (by decide)))) trivial) ?_
        unfold linkB
        rw [hh.1, hh.2]
        revert h
        cases thereB (v.items.getD 0 .non) bs ls <;> cases thereB (v.items.getD 1 .non) gs ls <;> simp
end
end WW
set_option Elab.async false
set_option linter.all false
set_option maxRecDepth 100000
set_option maxHeartbeats 4000000
namespace WW
open PySem PySem.Spec PyProof.Rows L2
structure M6 where
  n : AV
  i : AV
  o : AV
  s : AV
  l : AV
  c : AV
def AV.names (v : AV) : List Str := v.items.map AV.txt
def M6.begins (m : M6) : List Str := m.i.names ++ m.s.names
def M6.goes (m : M6) : List Str := m.s.names ++ m.o.names
def M6.linksB (m : M6) : Bool := m.l.isSeq && m.l.items.all fun k => linkB k m.begins m.goes (labelsOf m.c)
def strsA (zs : List Str) : AV := .lst (zs.map .str)
def M6.callsB (m : M6) : Bool := m.c.isSeq && !decide ((labelsOf m.c).length < m.c.items.length)
def wrongMod (m : M6) : Option Str :=
  if isName m.n = false then some "name"
  else if freshB m.i [] = false then some "inlets"
  else if freshB m.o m.i.names = false then some "outlets"
  else if freshB m.s (m.i.names ++ m.o.names) = false then some "stations"
  else if m.linksB = false then some "links"
  else if m.callsB = false then some "calls"
  else if freshB (strsA (labelsOf m.c)) (m.i.names ++ m.o.names ++ m.s.names) = false then some "calls"
  else none
structure M6.Sm (m : M6) : Prop where
  n : m.n.sm = true
  i : m.i.sm = true
  o : m.o.sm = true
  s : m.s.sm = true
  l : m.l.sm = true
  c : m.c.sm = true
def ModF (K : PySem.W.Frag) (S : Hp) (fs : List (Str × V)) (m : M6) : Prop := ∃ v0 v1 v2 v3 v4 v5, fs = ([("name", v0), ("inlets", v1), ("outlets", v2), ("stations", v3), ("links", v4), ("calls", v5)] : List (Str × V)) ∧ AV.rep K S v0 m.n ∧
  Enc.rep K S v1 (show U AV from m.i.items) ∧ Enc.rep K S v2 (show U AV from m.o.items) ∧ Enc.rep K S v3 (show U AV from m.s.items) ∧ Enc.rep K S v4 (show U AV from m.l.items) ∧ Enc.rep K S v5 (show U AV from m.c.items)
def noB : Addr → Prop := fun _ => False
structure Off (x : Addr) (S H S' H' : Hp) : Prop where
  s : Same S S'
  i : Same S' H'
  x0 : S' x = none
  p : ∀ a, S a = none → H a ≠ none → a ≠ x → S' a = none ∧ H' a = H a
section
variable {x : Addr} {S H S1 H1 S2 H2 : Hp}
theorem Off.refl (i : Same S H) (sx : S x = none) : Off x S H S H := ⟨Same.refl S, i, sx, fun a h _ _ => ⟨h, rfl⟩⟩
theorem Off.ext (o : Off x S H S1 H1) (e : Ext noB S1 H1 S2 H2) (hx : H1 x ≠ none) : Off x S H S2 H2 := by
  refine ⟨o.s.trans e.s, e.i, (e.p x o.x0 hx).1, fun a h1 h2 h3 => ?_⟩
  obtain ⟨q1, q2⟩ := o.p a h1 h2 h3
  obtain ⟨r1, r2⟩ := e.p a q1 (by rw [q2]; exact h2)
  refine ⟨r1, ?_⟩
  rcases r2 with r2 | ⟨z, _⟩
  · rw [r2, q2]
  · exact z.elim
theorem Off.put {u : HO} (o : Off x S H S1 H1) : Off x S H S1 (upd H1 x u) := by
  refine ⟨o.s, fun a v h => ?_, o.x0, fun a h1 h2 h3 => ?_⟩
  · rw [upd_ne (fun z => by rw [z, o.x0] at h; cases h)]
    exact o.i _ _ h
  · rw [upd_ne h3]
    exact o.p a h1 h2 h3
end
def modX (CI : Addr) (m : M6) : XP := fun C fs => C = CI ∧ ∃ w, wrongMod m = some w ∧ fs = ([("word", .str w)] : List (Str × V))
def spInitMod (K : PySem.W.Frag) (C CI : Addr) : Sp := fun vs H Q E => ∃ (S : Hp) (x dx : Addr) (m : M6), Same S H ∧ S x = none ∧ H x = some (.ins C dx []) ∧
  ArgsOk K noB H S H vs [.val (V.ref x), .val m.n, .val m.i, .val m.o, .val m.s, .val m.l, .val m.c] ∧ m.Sm ∧ PX noB (modX CI m) E S H ∧
  (wrongMod m = none → ∀ S' H' fs, Off x S H S' H' → H' x = some (.ins C dx fs) → ModF K S' fs m → Q .non H')
theorem fresh_ok {v : AV} {tk : List Str} (h : freshB v tk = true) : v.isSeq = true ∧ (∀ y ∈ v.items, y.isStr = true) ∧ v.names.Nodup ∧ (∀ z ∈ v.names, z ∉ tk ∧ nameB z = true) := by
  unfold freshB at h
  simp only [Bool.and_eq_true, List.all_eq_true, decide_eq_true_eq, Bool.not_eq_true', decide_eq_false_iff_not] at h
  obtain ⟨h1, h2, h3⟩ := h
  refine ⟨h1, fun y hy => (name_str (h2 y hy).1).1, h3, fun z hz => ?_⟩
  obtain ⟨y, hy, rfl⟩ := List.mem_map.mp hz
  exact ⟨(h2 y hy).2, (name_str (h2 y hy).1).2.2⟩
section
variable {K : PySem.W.Frag} {B : Addr → Prop} {ρ ρ' ρ1 ρ2 : List Slot} {ta tb tc td te : TE} {ts tz : TS} {Φ : Post} {x : AV}
theorem DS.run (h : DS K B ts ρ Φ) {S0 H0 S H : Hp} {σ : L2.St} {D : Ends} (E : En K B S0 H0 S H σ ρ) (px : Φ.px S0 H0) (n : ∀ ρ' σ' S' H', Φ.nx ρ' → Same S S' → En K B S0 H0 S' H' σ' ρ' → tz D σ' H') (r : ∀ s, Φ.rt s → False) (b : ∀ s, Φ.bk s → False) (c : ∀ s, Φ.ct s → False) : tSeq ts tz D σ H :=
  h S0 H0 S H σ { D with nx := tz D } E px n (fun s _ _ _ h => (r s h).elim) (fun s _ _ _ h => (b s h).elim) (fun s _ _ _ h => (c s h).elim)
theorem En.anew {S0 H0 S H H' : Hp} {σ : L2.St} (E : En K B S0 H0 S H σ ρ) (i : Same S H') (hv : ∀ s ∈ ρ, s.plain = true) : En K noB S H' S H' σ ρ := by
  refine ⟨i, fun _ h => h.elim, Ext.refl i, E.len, fun k s hs => ?_, fun k j s u n h1 h2 o1 o2 => ?_⟩
  · obtain ⟨o, e, ok⟩ := E.at' k s hs
    refine ⟨o, e, ?_⟩
    have q1 := hv s (List.mem_of_getElem? hs)
    cases s with
    | no => cases o <;> trivial
    | val a =>
      cases o with
      | none => exact ok
      | some v => exact ok
    | _ => cases q1
  · have q1 := hv s (List.mem_of_getElem? h1)
    cases s with
    | obj P => cases q1
    | _ => cases o1
theorem DL.is {α : Type} {e : Enc α} {ta : TA} {xs ys : List α} (h : DL K B ta ρ xs) (e : xs = ys) : DL K B ta ρ ys := e ▸ h
theorem d_names (h : DE K B te ρ x) (hs : x.isSeq = true) (ha : ∀ y ∈ x.items, y.isStr = true) : DE K B te ρ x.names := d_asStrs h hs ha
theorem names_len {v : AV} (h : v.sm = true) : v.names.length ≤ 1000 := by
  unfold AV.names
  rw [List.length_map]
  exact (AV.sm_items h).1
theorem fld_step {S0 H0 S H : Hp} {σ : L2.St} {x C dx : Addr} {fs : List (Str × V)} {a : AV} {f : Str} {k : Nat} {D : Ends} (CC : Cls K C) (NA : NoAttr K C f) (E : En K B S0 H0 S H σ ρ) (hv : ∀ s ∈ ρ, s.plain = true) (h0 : ρ[0]? = some (.val (V.ref x))) (hk : ρ[k]? = some (.val a)) (sq : a.isSeq = true) (sx : S x = none) (hx : H x = some (.ins C dx fs)) (few : fs.length < 1000)
    (next : ∀ v S' H', Ext noB S H S' H' → En K noB S H S' H' σ ρ → Enc.rep K S' v (show U AV from a.items) → H' x = some (.ins C dx fs) → D.nx σ (upd H' x (.ins C dx (putF f v fs)))) : sFld K (tVar 0) (tCB (rTupQ K) (tCons (tVar k) tNil)) f D σ H := by
  have E1 := E.anew E.i hv
  refine (d_tuple (d_asSeq (x := a) (d_var hk) sq) : DE K noB _ ρ (α := U AV) a.items) S H S H σ E1 _ fun v S1 H1 e1 r1 => ?_
  obtain ⟨p1, p2⟩ := e1.p x sx (by rw [hx]; exact fun z => nomatch z)
  have hx1 : H1 x = some (.ins C dx fs) := by
    rcases p2 with z | ⟨z, _⟩
    · rw [z, hx]
    · exact z.elim
  obtain ⟨vx, gx, wx⟩ := E1.val h0
  cases wx
  exact ⟨_, gx, x, C, dx, fs, rfl, hx1, CC, NA, few, next v S1 H1 e1 (E1.go e1) r1 hx1⟩
theorem nameB_len {z : Str} (h : nameB z = true) : z.length ≤ 5 := by
  unfold nameB at h
  simp only [Bool.and_eq_true, decide_eq_true_eq] at h
  omega
theorem strsA_sm {zs : List Str} (h : zs.length ≤ 1000) (hz : ∀ z ∈ zs, z.length ≤ 1000) : (strsA zs).sm = true := by
  unfold strsA
  rw [AV.sm, Bool.and_eq_true, List.length_map, AV.sms_iff]
  refine ⟨decide_eq_true h, fun y hy => ?_⟩
  obtain ⟨z, hm, rfl⟩ := List.mem_map.mp hy
  rw [AV.sm]
  exact decide_eq_true (hz z hm)
theorem labels_name {v : AV} : ∀ z ∈ labelsOf v, nameB z = true := fun z hz => by
  unfold labelsOf at hz
  split at hz
  · obtain ⟨p, hp, rfl⟩ := List.mem_map.mp hz
    obtain ⟨_, hp⟩ := List.mem_filter.mp hp
    unfold pairB at hp
    simp only [Bool.and_eq_true, decide_eq_true_eq] at hp
    have e : p.items[0]? = some (p.items.getD 0 .non) := by rw [List.getD_eq_getElem?_getD, List.getElem?_eq_getElem (by omega)]; rfl
    exact (name_str (all_get hp.2.2 (List.mem_of_getElem? e))).2.2
  · cases hz
theorem labels_len {v : AV} (h : v.sm = true) : (labelsOf v).length ≤ 1000 := by
  unfold labelsOf
  split
  · rw [List.length_map]
    exact Nat.le_trans (List.length_filter_le _ _) (AV.sm_items h).1
  · exact Nat.zero_le _
end
section
variable {P : Program} {w : World} {K : PySem.W.Frag} {mg : Str → Option Value} {base : Heap} {f : Addr} {fd : FuncData}
structure ModC (K : PySem.W.Frag) (C : Addr) : Prop where
  cls : Cls K C
  n : PySem.W.findIn K (.ref C) "name" = some none
  i : PySem.W.findIn K (.ref C) "inlets" = some none
  o : PySem.W.findIn K (.ref C) "outlets" = some none
  s : PySem.W.findIn K (.ref C) "stations" = some none
  l : PySem.W.findIn K (.ref C) "links" = some none
  c : PySem.W.findIn K (.ref C) "calls" = some none
abbrev N_Module___init__ : List Str := ["self", "name", "inlets", "outlets", "stations", "links", "calls", "begins", "goes", "labels", "link"]
theorem sc_Module___init__ : FnScope N_Module___init__ ["self", "name", "inlets", "outlets", "stations", "links", "calls"] (defScope s_Module___init__) := ⟨rfl, rfl, rfl, by decide +kernel, rfl, by decide +kernel, by decide +kernel⟩
theorem ok_Mod_init {C CI : Addr} {dvs : List V} (F : FunD K "__init__" "Module.__init__" (defArgs s_Module___init__) (defBody s_Module___init__) (defScope s_Module___init__) dvs [] f fd) (MC : ModC K C) (hCI : CI = He.ga K "InvalidModule") (m_tuple : mg "tuple" = none) (m_all : mg "all" = none) (m_len : mg "len" = none)
    (g_is_name : FnAt P w K mg base CX0 1 "is_name" ["value"] (spT K dpName)) (g_are_fresh : FnAt P w K mg base CX0 2 "are_fresh" ["value", "taken"] (spT K (dp2 (fun v (_ : List Str) => Sm1 v) freshB))) (g_is_sequence : FnAt P w K mg base CX0 1 "is_sequence" ["value"] (spT K dpSeq))
    (g_labels_in : FnAt P w K mg base CX0 3 "labels_in" ["calls"] (spT K (dp1 (γ := L Str) Sm1 labelsOf))) (g_is_link : FnAt P w K mg base CX0 4 "is_link" ["value", "begins", "goes", "labels"] (spT K (dp4 (fun v (_ _ _ : List Str) => Sm1 v) linkB)))
    (S_InvalidModule : SupAt P K mg "InvalidModule" "word") : FnOk P w K mg base (L2.CX P w) 5 f fd ["self", "name", "inlets", "outlets", "stations", "links", "calls"] (spInitMod K C CI) := by
  refine F.ok sc_Module___init__ (fun vs H Q E h => ?_) (fun cdv A outer s H vs Q E hr h => ?_)
  · obtain ⟨S, x, dx, m, _, _, _, ha, _⟩ := h
    rw [ha.length]
    rfl
  · obtain ⟨S, x, dx, m, si, sx, hx, ha, hm, qx, q⟩ := h
    refine ⟨_, (pss_cons (ps_if (pt_not (pt_val (pe_fn g_is_name hr rfl (pa_cons (pv 1) (pa_nil))))) (pss_one (ps_raise rfl (takes_of rfl rfl rfl rfl) (pmk_sup S_InvalidModule hr rfl pe_str))) (pss_nil))
 (pss_cons (ps_if (pt_not (pt_val (pe_fn g_are_fresh hr rfl (pa_cons (pv 2) (pa_cons (pe_tup (pa_nil)) (pa_nil)))))) (pss_one (ps_raise rfl (takes_of rfl rfl rfl rfl) (pmk_sup S_InvalidModule hr rfl pe_str))) (pss_nil))
 (pss_cons (ps_if (pt_not (pt_val (pe_fn g_are_fresh hr rfl (pa_cons (pv 3) (pa_cons (pv 2) (pa_nil)))))) (pss_one (ps_raise rfl (takes_of rfl rfl rfl rfl) (pmk_sup S_InvalidModule hr rfl pe_str))) (pss_nil))
 (pss_cons (ps_if (pt_not (pt_val (pe_fn g_are_fresh hr rfl (pa_cons (pv 4) (pa_cons (pe_lst (pa_starK K (pv 2) (pa_starK K (pv 3) (pa_nil)))) (pa_nil)))))) (pss_one (ps_raise rfl (takes_of rfl rfl rfl rfl) (pmk_sup S_InvalidModule hr rfl pe_str))) (pss_nil))
 (pss_cons (ps_asg (pe_tup (pa_cons (pe_lst (pa_starK K (pv 2) (pa_starK K (pv 4) (pa_nil)))) (pa_cons (pe_lst (pa_starK K (pv 4) (pa_starK K (pv 3) (pa_nil)))) (pa_cons (pe_fn g_labels_in hr rfl (pa_cons (pv 6) (pa_nil))) (pa_nil))))) (pg_tupK (n := 3) K rfl (pgs_cons (pg_name (i := 7) sc_Module___init__.nd rfl (.inr rfl)) (pgs_cons (pg_name (i := 8) sc_Module___init__.nd rfl (.inr rfl)) (pgs_cons (pg_name (i := 9) sc_Module___init__.nd rfl (.inr rfl)) (pgs_nil))))))
 (pss_cons (ps_if (PW.pt (pw_or (pt_not (pt_val (pe_fn g_is_sequence hr rfl (pa_cons (pv 5) (pa_nil))))) (pw_or1 (pt_not (pt_val (pe_callB (cr_allK K) rfl m_all (by decide +kernel) (pa_cons (pe_lc (own := [("link", 10)]) rfl sc_Module___init__.nd (pi_seqK K (pv 5)) (blkOk_by (N := N_Module___init__) (sc := defScope s_Module___init__) (by decide +kernel)) (fun _ _ _ _ _ => pg_name (i := 10) sc_Module___init__.nd rfl (.inl rfl)) (fun _ _ _ _ _ => pts_nil) (fun _ _ _ _ _ => pe_fn g_is_link hr rfl (pa_cons (pv 10) (pa_cons (pv 7) (pa_cons (pv 8) (pa_cons (pv 9) (pa_nil))))))) (pa_nil)))))))) (pss_one (ps_raise rfl (takes_of rfl rfl rfl rfl) (pmk_sup S_InvalidModule hr rfl pe_str))) (pss_nil))
 (pss_cons (ps_if (PW.pt (pw_or (pt_not (pt_val (pe_fn g_is_sequence hr rfl (pa_cons (pv 6) (pa_nil))))) (pw_or1 (pt_cmpR op_lt (pe_callB (call_lenK K) rfl m_len (by decide +kernel) (pa_cons (pv 9) (pa_nil))) (pe_callB (call_lenK K) rfl m_len (by decide +kernel) (pa_cons (pv 6) (pa_nil))) (nomark _))))) (pss_one (ps_raise rfl (takes_of rfl rfl rfl rfl) (pmk_sup S_InvalidModule hr rfl pe_str))) (pss_nil))
 (pss_cons (ps_if (pt_not (pt_val (pe_fn g_are_fresh hr rfl (pa_cons (pv 9) (pa_cons (pe_lst (pa_starK K (pv 2) (pa_starK K (pv 3) (pa_starK K (pv 4) (pa_nil))))) (pa_nil)))))) (pss_one (ps_raise rfl (takes_of rfl rfl rfl rfl) (pmk_sup S_InvalidModule hr rfl pe_str))) (pss_nil))
 (pss_cons (ps_fld (pv 0) (pv 1) rfl)
 (pss_cons (ps_fld (pv 0) (pe_callTy (call_tupleK K) rfl m_tuple (by decide +kernel) (pa_cons (pv 2) (pa_nil))) rfl)
 (pss_cons (ps_fld (pv 0) (pe_callTy (call_tupleK K) rfl m_tuple (by decide +kernel) (pa_cons (pv 3) (pa_nil))) rfl)
 (pss_cons (ps_fld (pv 0) (pe_callTy (call_tupleK K) rfl m_tuple (by decide +kernel) (pa_cons (pv 4) (pa_nil))) rfl)
 (pss_cons (ps_fld (pv 0) (pe_callTy (call_tupleK K) rfl m_tuple (by decide +kernel) (pa_cons (pv 5) (pa_nil))) rfl)
 (pss_one (ps_fld (pv 0) (pe_callTy (call_tupleK K) rfl m_tuple (by decide +kernel) (pa_cons (pv 6) (pa_nil))) rfl))))))))))))))), ?_⟩
    have E0 := start_en (N := N_Module___init__) si (fun p hp => hp.elim) ha
    have E0 : En K noB S H S H _ [.val (V.ref x), .val m.n, .val m.i, .val m.o, .val m.s, .val m.l, .val m.c, .no, .no, .no, .no] := E0
    generalize L2.start _ vs = σ0 at E0 ⊢
    have rz : ∀ (z : Str) (ρ : List Slot) (nx : List Slot → Prop), wrongMod m = some z → DS K noB (fun _ σ H => tMkS (He.ga K "InvalidModule") "word" (tC (.str z)) σ H fun cls d H' => E cls d H') ρ ⟨nx, fun _ => False, fun _ => False, fun _ => False, fun S0 H0 => S0 = S ∧ H0 = H⟩ := fun z ρ nx hz =>
      ds_raise (X := modX CI m) (dr_str d_str) ⟨hCI.symm, z, hz, rfl⟩ fun S0 H0 e => by obtain ⟨rfl, rfl⟩ := e; exact qx
    have px : (fun S0 H0 => S0 = S ∧ H0 = H) S H := ⟨rfl, rfl⟩
    have smi := fun y hy => (AV.sm_items hm.i).2 y hy
    have li := names_len hm.i
    have lo := names_len hm.o
    have ls := names_len hm.s
    have big : ∀ {n : Nat}, n ≤ 3000 → n ≤ BIG := fun h => Nat.le_trans h (by decide)
    -- name
    refine DS.run (Φ := ⟨fun r => r = [.val (V.ref x), .val m.n, .val m.i, .val m.o, .val m.s, .val m.l, .val m.c, .no, .no, .no, .no] ∧ isName m.n = true, fun _ => False, fun _ => False, fun _ => False, fun S0 H0 => S0 = S ∧ H0 = H⟩) (ds_if (c := !isName m.n) (dt_not (dt_B (d_call1 (d_var rfl) hm.n))) (fun c => rz _ _ _ ?_) (fun c => ds_next ⟨rfl, by simpa using c⟩)) E0 px (fun r1 σ1 S1 H1 hq s1 E1 => ?_) (fun _ h => h) (fun _ h => h) (fun _ h => h)
    · unfold wrongMod
      rw [if_pos (by simpa using c)]
    obtain ⟨rfl, c1⟩ := hq
    -- inlets
    refine DS.run (Φ := ⟨fun r => r = [.val (V.ref x), .val m.n, .val m.i, .val m.o, .val m.s, .val m.l, .val m.c, .no, .no, .no, .no] ∧ freshB m.i [] = true, fun _ => False, fun _ => False, fun _ => False, fun S0 H0 => S0 = S ∧ H0 = H⟩) (ds_if (c := !freshB m.i []) (dt_not (dt_B (d_call2 (y := ([] : List Str)) (d_var rfl) (d_Uq (d_tupU dl_nil (by decide))) hm.i))) (fun c => rz _ _ _ ?_) (fun c => ds_next ⟨rfl, by simpa using c⟩)) E1 px (fun r2 σ2 S2 H2 hq s2 E2 => ?_) (fun _ h => h) (fun _ h => h) (fun _ h => h)
    · unfold wrongMod
      rw [if_neg (by rw [c1]; decide), if_pos (by simpa using c)]
    obtain ⟨rfl, c2⟩ := hq
    obtain ⟨qi1, qi2, qi3, qi4⟩ := fresh_ok c2
    -- outlets
    refine DS.run (Φ := ⟨fun r => r = [.val (V.ref x), .val m.n, .val m.i, .val m.o, .val m.s, .val m.l, .val m.c, .no, .no, .no, .no] ∧ freshB m.o m.i.names = true, fun _ => False, fun _ => False, fun _ => False, fun S0 H0 => S0 = S ∧ H0 = H⟩) (ds_if (c := !freshB m.o m.i.names) (dt_not (dt_B (d_call2 (d_var rfl) (d_names (d_var rfl) qi1 qi2) hm.o))) (fun c => rz _ _ _ ?_) (fun c => ds_next ⟨rfl, by simpa using c⟩)) E2 px (fun r3 σ3 S3 H3 hq s3 E3 => ?_) (fun _ h => h) (fun _ h => h) (fun _ h => h)
    · unfold wrongMod
      rw [if_neg (by rw [c1]; decide), if_neg (by rw [c2]; decide), if_pos (by simpa using c)]
    obtain ⟨rfl, c3⟩ := hq
    obtain ⟨qo1, qo2, qo3, qo4⟩ := fresh_ok c3
    -- stations
    refine DS.run (Φ := ⟨fun r => r = [.val (V.ref x), .val m.n, .val m.i, .val m.o, .val m.s, .val m.l, .val m.c, .no, .no, .no, .no] ∧ freshB m.s (m.i.names ++ m.o.names) = true, fun _ => False, fun _ => False, fun _ => False, fun S0 H0 => S0 = S ∧ H0 = H⟩) (ds_if (c := !freshB m.s (m.i.names ++ m.o.names)) (dt_not (dt_B (d_call2 (y := m.i.names ++ m.o.names) (d_var rfl) (DO.q (do_lst ((dl_star (d_names (d_var rfl) qi1 qi2) (dl_star (ys := []) (d_names (d_var rfl) qo1 qo2) dl_nil)).is (by rw [List.append_nil])) (big (by rw [List.length_append]; omega)))) hm.s))) (fun c => rz _ _ _ ?_) (fun c => ds_next ⟨rfl, by simpa using c⟩)) E3 px (fun r4 σ4 S4 H4 hq s4 E4 => ?_) (fun _ h => h) (fun _ h => h) (fun _ h => h)
    · unfold wrongMod
      rw [if_neg (by rw [c1]; decide), if_neg (by rw [c2]; decide), if_neg (by rw [c3]; decide), if_pos (by simpa using c)]
    obtain ⟨rfl, c4⟩ := hq
    obtain ⟨qs1, qs2, qs3, qs4⟩ := fresh_ok c4
    -- begins, goes, labels
    refine DS.run (Φ := ⟨fun r => r = [.val (V.ref x), .val m.n, .val m.i, .val m.o, .val m.s, .val m.l, .val m.c, .val (α := L Str) m.begins, .val (α := L Str) m.goes, .val (α := L Str) (labelsOf m.c), .no], fun _ => False, fun _ => False, fun _ => False, fun S0 H0 => S0 = S ∧ H0 = H⟩) (ds_asgG (d_triple (α := L Str) (β := L Str) (γ := L Str) (a := m.begins) (b := m.goes) (c := labelsOf m.c) (DO.l (do_lst ((dl_star (d_names (d_var rfl) qi1 qi2) (dl_star (ys := []) (d_names (d_var rfl) qs1 qs2) dl_nil)).is (by rw [List.append_nil]; rfl)) (big (by show (m.i.names ++ m.s.names).length ≤ 3000; rw [List.length_append]; omega)))) (DO.l (do_lst ((dl_star (d_names (d_var rfl) qs1 qs2) (dl_star (ys := []) (d_names (d_var rfl) qo1 qo2) dl_nil)).is (by rw [List.append_nil]; rfl)) (big (by show (m.s.names ++ m.o.names).length ≤ 3000; rw [List.length_append]; omega)))) (d_call1 (d_var rfl) hm.c)) (DG.trip dg_name dg_name dg_name) rfl) E4 px (fun r5 σ5 S5 H5 hq s5 E5 => ?_) (fun _ h => h) (fun _ h => h) (fun _ h => h)
    subst hq
    -- links
    obtain ⟨ll, lsm⟩ := AV.sm_items hm.l
    refine DS.run (Φ := ⟨fun r => r = [.val (V.ref x), .val m.n, .val m.i, .val m.o, .val m.s, .val m.l, .val m.c, .val (α := L Str) m.begins, .val (α := L Str) m.goes, .val (α := L Str) (labelsOf m.c), .no] ∧ m.linksB = true, fun _ => False, fun _ => False, fun _ => False, fun S0 H0 => S0 = S ∧ H0 = H⟩) (ds_if (c := !m.linksB) (DT.is (dt_or (dt_not (dt_B (d_call1 (d_var rfl) trivial))) (fun h => dt_not (dt_B (d_all (DO.l (do_map (fun k => linkB k m.begins m.goes (labelsOf m.c)) (di_seq (d_asSeq (x := m.l) (d_var rfl) (by simpa using h))) (big (by omega)) fun y hy => ⟨_, _, dg_name, by simp, d_call4 (d_var rfl) (d_Lq (d_var rfl)) (d_Lq (d_var rfl)) (d_Lq (d_var rfl)) (lsm y hy)⟩)))))) ?_) (fun c => rz _ _ _ ?_) (fun c => ds_next ⟨rfl, by simpa using c⟩)) E5 px (fun r6 σ6 S6 H6 hq s6 E6 => ?_) (fun _ h => h) (fun _ h => h) (fun _ h => h)
    · unfold M6.linksB
      rw [List.all_map]
      cases m.l.isSeq <;> rfl
    · unfold wrongMod
      rw [if_neg (by rw [c1]; decide), if_neg (by rw [c2]; decide), if_neg (by rw [c3]; decide), if_neg (by rw [c4]; decide), if_pos (by simpa using c)]
    obtain ⟨rfl, c5⟩ := hq
    -- calls
    refine DS.run (Φ := ⟨fun r => r = [.val (V.ref x), .val m.n, .val m.i, .val m.o, .val m.s, .val m.l, .val m.c, .val (α := L Str) m.begins, .val (α := L Str) m.goes, .val (α := L Str) (labelsOf m.c), .no] ∧ m.callsB = true, fun _ => False, fun _ => False, fun _ => False, fun S0 H0 => S0 = S ∧ H0 = H⟩) (ds_if (c := !m.callsB) (DT.is (dt_or (dt_not (dt_B (d_call1 (d_var rfl) trivial))) (fun h => dt_test (d_lt (d_len (d_Lq (d_var rfl))) (d_len (d_asSeq (x := m.c) (d_var rfl) (by simpa using h)))))) ?_) (fun c => rz _ _ _ ?_) (fun c => ds_next ⟨rfl, by simpa using c⟩)) E6 px (fun r7 σ7 S7 H7 hq s7 E7 => ?_) (fun _ h => h) (fun _ h => h) (fun _ h => h)
    · unfold M6.callsB
      have e : decide (((labelsOf m.c).length : Int) < (m.c.items.length : Int)) = decide ((labelsOf m.c).length < m.c.items.length) := by congr 1; exact propext ⟨fun h => by omega, fun h => by omega⟩
      rw [e]
      cases m.c.isSeq <;> simp
    · unfold wrongMod
      rw [if_neg (by rw [c1]; decide), if_neg (by rw [c2]; decide), if_neg (by rw [c3]; decide), if_neg (by rw [c4]; decide), if_neg (by rw [c5]; decide), if_pos (by simpa using c)]
    obtain ⟨rfl, c6⟩ := hq
    -- labels
    have lll := labels_len hm.c
    refine DS.run (Φ := ⟨fun r => r = [.val (V.ref x), .val m.n, .val m.i, .val m.o, .val m.s, .val m.l, .val m.c, .val (α := L Str) m.begins, .val (α := L Str) m.goes, .val (α := L Str) (labelsOf m.c), .no] ∧ freshB (strsA (labelsOf m.c)) (m.i.names ++ m.o.names ++ m.s.names) = true, fun _ => False, fun _ => False, fun _ => False, fun S0 H0 => S0 = S ∧ H0 = H⟩) (ds_if (c := !freshB (strsA (labelsOf m.c)) (m.i.names ++ m.o.names ++ m.s.names)) (dt_not (dt_B (d_call2 (x := strsA (labelsOf m.c)) (y := m.i.names ++ m.o.names ++ m.s.names) (d_av (α := L Str) (d_var rfl)) (DO.q (do_lst ((dl_star (d_names (d_var rfl) qi1 qi2) (dl_star (d_names (d_var rfl) qo1 qo2) (dl_star (ys := []) (d_names (d_var rfl) qs1 qs2) dl_nil))).is (by rw [List.append_nil, List.append_assoc])) (big (by rw [List.length_append, List.length_append]; omega)))) (strsA_sm lll fun z hz => Nat.le_trans (nameB_len (labels_name z hz)) (by decide))))) (fun c => rz _ _ _ ?_) (fun c => ds_next ⟨rfl, by simpa using c⟩)) E7 px (fun r8 σ8 S8 H8 hq s8 E8 => ?_) (fun _ h => h) (fun _ h => h) (fun _ h => h)
    · unfold wrongMod
      rw [if_neg (by rw [c1]; decide), if_neg (by rw [c2]; decide), if_neg (by rw [c3]; decide), if_neg (by rw [c4]; decide), if_neg (by rw [c5]; decide), if_neg (by rw [c6]; decide), if_pos (by simpa using c)]
    obtain ⟨rfl, c7⟩ := hq
    have ok : wrongMod m = none := by
      unfold wrongMod
      rw [if_neg (by rw [c1]; decide), if_neg (by rw [c2]; decide), if_neg (by rw [c3]; decide), if_neg (by rw [c4]; decide), if_neg (by rw [c5]; decide), if_neg (by rw [c6]; decide), if_neg (by rw [c7]; decide)]
    have hxs := E8.ext.p x sx (by rw [hx]; exact fun z => nomatch z)
    have hx8 : H8 x = some (.ins C dx []) := by
      rcases hxs.2 with z | ⟨z, _⟩
      · rw [z, hx]
      · exact z.elim
    have O8 : Off x S H S8 H8 := (Off.refl si sx).ext E8.ext (by rw [hx]; exact fun z => nomatch z)
    obtain ⟨v0, g0, w0⟩ := E8.val (i := 1) (a := m.n) rfl
    obtain ⟨vx, gx, wx⟩ := E8.val (i := 0) (a := V.ref x) rfl
    cases wx
    refine ⟨v0, g0, _, gx, x, C, dx, [], rfl, hx8, MC.cls, MC.n, by decide, ?_⟩
    have hv : ∀ s ∈ ([.val (V.ref x), .val m.n, .val m.i, .val m.o, .val m.s, .val m.l, .val m.c, .val (α := L Str) m.begins, .val (α := L Str) m.goes, .val (α := L Str) (labelsOf m.c), .no] : List Slot), s.plain = true := by simp [Slot.plain]
    have O9 : Off x S H S8 (upd H8 x (.ins C dx (putF "name" v0 []))) := O8.put
    have E9 := E8.anew O9.i hv
    refine fld_step MC.cls MC.i E9 hv rfl (k := 2) (a := m.i) rfl qi1 O9.x0 upd_same (by show 1 < 1000; decide) fun v1 Sa Ha ea Ea ra hxa => ?_
    have Oa := (O9.ext ea (by rw [upd_same]; exact fun z => nomatch z)).put (u := .ins C dx (putF "inlets" v1 (putF "name" v0 [])))
    refine fld_step MC.cls MC.o (Ea.anew Oa.i hv) hv rfl (k := 3) (a := m.o) rfl qo1 Oa.x0 upd_same (by show 2 < 1000; decide) fun v2 Sb Hb eb Eb rb hxb => ?_
    have Ob := (Oa.ext eb (by rw [upd_same]; exact fun z => nomatch z)).put (u := .ins C dx (putF "outlets" v2 (putF "inlets" v1 (putF "name" v0 []))))
    refine fld_step MC.cls MC.s (Eb.anew Ob.i hv) hv rfl (k := 4) (a := m.s) rfl qs1 Ob.x0 upd_same (by show 3 < 1000; decide) fun v3 Sc Hc ec Ec rc hxc => ?_
    have Oc := (Ob.ext ec (by rw [upd_same]; exact fun z => nomatch z)).put (u := .ins C dx (putF "stations" v3 (putF "outlets" v2 (putF "inlets" v1 (putF "name" v0 [])))))
    have ql : m.l.isSeq = true := by
      unfold M6.linksB at c5
      rw [Bool.and_eq_true] at c5
      exact c5.1
    have qc : m.c.isSeq = true := by
      unfold M6.callsB at c6
      rw [Bool.and_eq_true] at c6
      exact c6.1
    refine fld_step MC.cls MC.l (Ec.anew Oc.i hv) hv rfl (k := 5) (a := m.l) rfl ql Oc.x0 upd_same (by show 4 < 1000; decide) fun v4 Sd Hd ed Ed rd hxd => ?_
    have Od := (Oc.ext ed (by rw [upd_same]; exact fun z => nomatch z)).put (u := .ins C dx (putF "links" v4 (putF "stations" v3 (putF "outlets" v2 (putF "inlets" v1 (putF "name" v0 []))))))
    refine fld_step MC.cls MC.c (Ed.anew Od.i hv) hv rfl (k := 6) (a := m.c) rfl qc Od.x0 upd_same (by show 5 < 1000; decide) fun v5 Se He ee Ee re hxe => ?_
    have Oe := (Od.ext ee (by rw [upd_same]; exact fun z => nomatch z)).put (u := .ins C dx (putF "calls" v5 (putF "links" v4 (putF "stations" v3 (putF "outlets" v2 (putF "inlets" v1 (putF "name" v0 [])))))))
    refine q ok Se _ _ Oe upd_same ⟨v0, v1, v2, v3, v4, v5, rfl, ?_, ?_, ?_, ?_, ?_, re⟩
    · exact AV.mono ((((ea.s.trans eb.s).trans ec.s).trans ed.s).trans ee.s) _ w0
    · exact Enc.mono (((eb.s.trans ec.s).trans ed.s).trans ee.s) ra
    · exact Enc.mono ((ec.s.trans ed.s).trans ee.s) rb
    · exact Enc.mono (ed.s.trans ee.s) rc
    · exact Enc.mono ee.s rd
end
end WW
set_option Elab.async false
set_option linter.all false
set_option maxRecDepth 100000
set_option maxHeartbeats 4000000
namespace WW
open PySem PySem.Spec PyProof.Rows L2
theorem FnAt.imp {P : Program} {w : World} {K : PySem.W.Frag} {mg : Str → Option Value} {base : Heap} {CX : CXT} {k : Nat} {x : Str} {ps : List Str} {sp sp' : Sp} (F : FnAt P w K mg base CX k x ps sp) (h : ∀ vs H Q E, sp' vs H Q E → sp vs H Q E) : FnAt P w K mg base CX k x ps sp' := by
  obtain ⟨⟨fd, F1, b⟩, kp, g⟩ := F
  exact ⟨⟨fd, F1.imp h, b⟩, kp, g⟩
section
variable {B : Addr → Prop} {S H : Hp} {b : Addr}
theorem Ext.box {x y z : Int} (i : Same S H) (hb : B b) (s : S b = none) : Ext B S H S (upd H b (bx x y z)) := by
  refine ⟨Same.refl S, fun a o ha => ?_, fun a h1 h2 => ⟨h1, ?_⟩⟩
  · have n : a ≠ b := fun e => by rw [e, s] at ha; cases ha
    rw [upd_ne n]
    exact i _ _ ha
  · by_cases e : a = b
    · subst e
      exact .inr ⟨hb, x, y, z, upd_same⟩
    · exact .inl (upd_ne e)
end
section
variable {K : PySem.W.Frag}
abbrev dpTake : List Slot → (Slot → Prop) → Prop := dpb1 (fun m : Int => 0 < m ∧ m < 1073741824) (fun m (c : Int) => 0 ≤ c ∧ c < m)
theorem imp_take (vs : List V) (H : Hp) (Q : VK) (E : XK) (h : spT K dpTake vs H Q E) : spTake vs H Q E := by
  obtain ⟨B, S, ss, R, i, hb, ar, ⟨m, rfl, ⟨m0, m1⟩, r⟩, q⟩ := h
  cases ar with
  | cons h1 h2 h3 =>
    cases h3 with
    | cons k1 k2 k3 =>
      cases k3
      obtain ⟨p, rfl, bp⟩ := h1
      cases k1
      obtain ⟨sn, bx⟩ := hb p bp
      exact ⟨p, m, rfl, bx, m0, m1, fun x y z d d0 d1 => q (.val d) _ S _ (r d ⟨d0, d1⟩) (Ext.box i bp sn) rfl⟩
abbrev dpPick (α : Type) [Enc α] : List Slot → (Slot → Prop) → Prop := dpb1 (fun xs : L α => 0 < List.length xs ∧ List.length xs < 1000) (fun (xs : L α) (c : α) => List.Mem c xs)
theorem paired_mem {α : Type} {r : V → α → Prop} : ∀ {vs : List V} {xs : List α}, Paired r vs xs → ∀ v ∈ vs, ∃ x, x ∈ xs ∧ r v x
  | _, _, .nil, v, h => nomatch h
  | _, _, .cons h t, v, hm => by
    rcases List.mem_cons.mp hm with rfl | hm
    · exact ⟨_, List.mem_cons_self, h⟩
    · obtain ⟨x, h1, h2⟩ := paired_mem t v hm
      exact ⟨x, List.mem_cons_of_mem _ h1, h2⟩
theorem imp_pick {α : Type} [Enc α] (vs : List V) (H : Hp) (Q : VK) (E : XK) (h : spT K (dpPick α) vs H Q E) : spPick K vs H Q E := by
  obtain ⟨B, S, ss, R, i, hb, ar, ⟨xs, rfl, ⟨m0, m1⟩, r⟩, q⟩ := h
  cases ar with
  | cons h1 h2 h3 =>
    cases h3 with
    | cons k1 k2 k3 =>
      cases k3
      obtain ⟨p, rfl, bp⟩ := h1
      obtain ⟨_, l, ws, rfl, hh, pr⟩ := k1
      obtain ⟨sn, bx⟩ := hb p bp
      have hl := pr.length
      refine ⟨p, l, ws, rfl, bx, Sq.l (i _ _ hh), ?_, by omega, by omega, fun x y z v hv => ?_⟩
      · intro e
        subst e
        rw [sn] at hh
        cases hh
      · obtain ⟨c, c1, c2⟩ := paired_mem pr v hv
        exact q (.val c) v S _ (r c c1) (Ext.box i bp sn) c2
end
structure Scr where
  ns : List Int
instance : Enc Scr where
  rep K S v x := ∃ a, v = .ref a ∧ SqL K S a (x.ns.map V.int)
  mono e h := by
    obtain ⟨a, z, h⟩ := h
    exact ⟨a, z, Evl.ex_l e h⟩
section
variable {K : PySem.W.Frag} {B : Addr → Prop} {ρ : List Slot} {ta tb te : TE} {tz : TS} {Φ : Post} {S0 H0 S H S1 H1 : Hp} {σ : L2.St}
theorem pair_int {S : Hp} : ∀ ns : List Int, Paired (Enc.rep K S) (ns.map V.int) ns
  | [] => .nil
  | _ :: r => .cons rfl (pair_int r)
theorem d_scr {x : Scr} (h : DE K B te ρ x) (hl : x.ns.length ≤ BIG) : DE K B te ρ x.ns := fun S0 H0 S H σ E Q q =>
  h S0 H0 S H σ E Q fun v S1 H1 e ⟨a, z, r⟩ => q v S1 H1 e ⟨hl, a, _, z, .inl r, pair_int _⟩
theorem SlotOk.unbox {p : Addr} {o : Option V} {s : Slot} (h : SlotOk K (fun q => q = p ∨ B q) H1 S H o s) (fr : ∀ a, H1 a = none → H0 a = none) : SlotOk K B H0 S H o s.unbox := by
  cases s with
  | no => cases o <;> trivial
  | box => cases o <;> trivial
  | val a =>
    cases o with
    | none => exact h
    | some v => exact h
  | obj P =>
    cases o with
    | none => exact h
    | some v =>
      obtain ⟨q, vs, e, f, r⟩ := h
      exact ⟨q, vs, e, fr q f, r⟩
  | out P => cases o <;> trivial
theorem Ext.unbox {p : Addr} (i0 : Same S0 H0) (e1 : Ext B S0 H0 S H) (hp : H0 p = none) (e2 : Ext (fun q => q = p ∨ B q) S H S1 H1) : Ext B S0 H0 S1 H1 := by
  refine ⟨e1.s.trans e2.s, e2.i, fun a h1 h2 => ?_⟩
  obtain ⟨q1, q2⟩ := e1.p a h1 h2
  have ha : H a ≠ none := by
    rcases q2 with q2 | ⟨_, x, y, z, q2⟩
    · rw [q2]; exact h2
    · rw [q2]; exact fun z => nomatch z
  obtain ⟨r1, r2⟩ := e2.p a q1 ha
  refine ⟨r1, ?_⟩
  rcases r2 with r2 | ⟨rb | rb, r3⟩
  · rcases q2 with q2 | ⟨qb, q2⟩
    · exact .inl (r2.trans q2)
    · exact .inr ⟨qb, by rw [r2]; exact q2⟩
  · rw [rb] at h2
    exact absurd hp h2
  · exact .inr ⟨rb, r3⟩
theorem En.unbox {p : Addr} {ρ' : List Slot} {σ' : L2.St} (i0 : Same S0 H0) (e1 : Ext B S0 H0 S H) (hb : ∀ q, B q → H0 q ≠ none) (hp : H0 p = none) (E : En K (fun q => q = p ∨ B q) S H S1 H1 σ' ρ') : En K B S0 H0 S1 H1 σ' (ρ'.map Slot.unbox) := by
  refine ⟨i0, fun q hq => ⟨(E.bx q (.inr hq)).1, (E.bx q (.inr hq)).2.1, hb q hq⟩, e1.unbox i0 hp E.ext, by rw [List.length_map]; exact E.len, fun i s h => ?_, fun i j s u n h1 h2 o1 o2 => ?_⟩
  · rw [List.getElem?_map] at h
    cases hs : ρ'[i]? with
    | none => rw [hs] at h; cases h
    | some s' =>
      rw [hs] at h
      cases h
      obtain ⟨o, e, ok⟩ := E.at' i s' hs
      exact ⟨o, e, ok.unbox fun a ha => e1.free i0 ha⟩
  · rw [List.getElem?_map] at h1 h2
    cases hs : ρ'[i]? with
    | none => rw [hs] at h1; cases h1
    | some s' =>
      cases hu : ρ'[j]? with
      | none => rw [hu] at h2; cases h2
      | some u' =>
        rw [hs] at h1
        rw [hu] at h2
        cases h1
        cases h2
        refine E.ne i j s' u' n hs hu ?_ ?_
        · cases s' <;> first | exact o1 | cases o1
        · cases u' <;> first | exact o2 | cases o2
def DBox (K : PySem.W.Frag) (B : Addr → Prop) (te : TE) (ρ : List Slot) : Prop := ∀ S0 H0 S H σ, En K B S0 H0 S H σ ρ → ∀ Q : VK, (∀ p S2 H2 H', Ext B S H S2 H2 → Same H2 H' → H2 p = none → IsBx (H' p) → Q (.ref p) H') → te σ H Q
theorem dq_boxG {n : Nat} (hb : DBox K B te ρ) (ho : ∀ s ∈ ρ, s.isOwn = false) (px : Φ.px = fun _ _ => True)
    (h : ∀ p, DS K (fun q => q = p ∨ B q) tz (ρ.set n .box) ⟨fun ρ' => Φ.nx (ρ'.map Slot.unbox), fun s => s.unbox = s ∧ Φ.rt s, fun ρ' => Φ.bk (ρ'.map Slot.unbox), fun ρ' => Φ.ct (ρ'.map Slot.unbox), fun _ _ => True⟩) :
    DS K B (tSeq (tAsg te (gName n)) tz) ρ Φ := fun S0 H0 S H σ D E _ nx rt bk ct =>
  hb S0 H0 S H σ E _ fun p S2 H2 H' e12 sm np bx' => by
    have E2 := E.go e12
    have e3 : Ext B S2 H2 S2 H' := Ext.grow e12.i sm
    have E3 := E2.go e3
    have hp0 : H0 p = none := E2.ext.free E2.i0 np
    have sp : S2 p = none := e12.i.free np
    have E4 : En K (fun q => q = p ∨ B q) S2 H' S2 H' σ ρ := by
      refine ⟨e3.i, fun q hq => ?_, Ext.refl e3.i, E3.len, fun i s hs => ?_, fun i j s u nn hs hu o1 o2 => ?_⟩
      · rcases hq with rfl | hq
        · exact ⟨sp, bx', bx'.choose_spec.choose_spec.choose_spec ▸ fun z => nomatch z⟩
        · obtain ⟨q1, q2, _⟩ := E3.bx q hq
          exact ⟨q1, q2, q2.ne⟩
      · obtain ⟨o, e, ok⟩ := E3.at' i s hs
        refine ⟨o, e, ?_⟩
        have hs := ho s (List.mem_of_getElem? hs)
        cases s with
        | no => cases o <;> trivial
        | box =>
          cases o with
          | none => exact ok
          | some v =>
            obtain ⟨q, e, hq⟩ := ok
            exact ⟨q, e, .inr hq⟩
        | val _ =>
          cases o with
          | none => exact ok
          | some v => exact ok
        | obj _ => cases hs
        | out P =>
          cases o with
          | none => exact ok
          | some v =>
            obtain ⟨q, u, e, nb, h0, hs, hh, r⟩ := ok
            refine ⟨q, u, e, fun z => ?_, (by rw [hh]; exact fun z => nomatch z), hs, hh, r⟩
            rcases z with z | z
            · exact h0 (by rw [z]; exact hp0)
            · exact nb z
      · rw [ho s (List.mem_of_getElem? hs)] at o1
        cases o1
    have E5 : En K (fun q => q = p ∨ B q) S2 H' S2 H' (σ.set n (some (.ref p))) (ρ.set n .box) := E4.set (o := some (.ref p)) (s := .box) ⟨p, rfl, .inl rfl⟩ rfl
    have hbn : ∀ q, B q → H0 q ≠ none := fun q hq => (E.bx q hq).2.2
    have sm2 : Same S S2 := e12.s
    refine h p S2 H' S2 H' _ D E5 trivial (fun ρ' σ' S' H'' hn sm' E' => nx _ σ' S' H'' hn (sm2.trans sm') (E'.unbox E.i0 E3.ext hbn hp0)) (fun s v S' H'' hs ex ok => ?_) (fun ρ' σ' S' H'' hn sm' E' => bk _ σ' S' H'' hn (sm2.trans sm') (E'.unbox E.i0 E3.ext hbn hp0)) (fun ρ' σ' S' H'' hn sm' E' => ct _ σ' S' H'' hn (sm2.trans sm') (E'.unbox E.i0 E3.ext hbn hp0))
    refine rt s v S' H'' hs.2 (E3.ext.unbox E.i0 hp0 ex) ?_
    have := ok.unbox (H0 := H0) (B := B) (fun a ha => E3.ext.free E.i0 ha)
    rw [hs.1] at this
    exact this
end
end WW
set_option Elab.async false
set_option linter.all false
set_option maxRecDepth 100000
set_option maxHeartbeats 4000000
namespace WW
open PySem PySem.Spec PyProof.Rows L2
def rEmp (K : PySem.W.Frag) (neg : Bool) : R2 := fun x y H Q => ∃ (a b : Addr) (xs : List V), x = .ref a ∧ y = .ref b ∧ SqL K H a xs ∧ SqL K H b [] ∧ Q (.bl (if neg then !xs.isEmpty else xs.isEmpty)) H
theorem op_eqE {X : Cx} {j : Nat} (K : PySem.W.Frag) (hr : Room j X.A) (h : X.K = K := by rfl) : OpR X (compareOp .Eq) (rEmp K false) := by
  subst h
  intro pins s σ H x y u v Q I rx ry h
  obtain ⟨a, b, xs, rfl, rfl, ha, hb, q⟩ := h
  cases rx
  cases ry
  obtain ⟨its, rv, pl, hz⟩ := I.list ha
  obtain ⟨its2, rv2, pl2, hz2⟩ := I.list hb
  have hu : X.A.units < cLine := by have := hr.un; omega
  cases rv2
  cases rv with
  | nil => exact SeqAt.RcAt.lists (e := fun _ => true) pl.isList pl2.isList rfl hu (fun j h1 h2 => absurd h1 (by simp)) _ _ _ _ ⟨.bl true, H, I, rfl, q⟩
  | cons r t => exact SeqAt.RcAt.lists_lengths pl.isList pl2.isList (by simp) hu _ _ _ _ ⟨.bl false, H, I, rfl, q⟩
theorem op_neE {X : Cx} {j : Nat} (K : PySem.W.Frag) (hr : Room j X.A) (h : X.K = K := by rfl) : OpR X (compareOp .NotEq) (rEmp K true) := by
  subst h
  intro pins s σ H x y u v Q I rx ry h
  obtain ⟨a, b, xs, rfl, rfl, ha, hb, q⟩ := h
  cases rx
  cases ry
  obtain ⟨its, rv, pl, hz⟩ := I.list ha
  obtain ⟨its2, rv2, pl2, hz2⟩ := I.list hb
  have hu : X.A.units < cLine := by have := hr.un; omega
  cases rv2
  cases rv with
  | nil => exact SeqAt.RcNeAt.lists (e := fun _ => true) pl.isList pl2.isList rfl hu (fun j h1 h2 => absurd h1 (by simp)) _ _ _ _ ⟨.bl false, H, I, rfl, q⟩
  | cons r t => exact SeqAt.RcNeAt.lists_lengths pl.isList pl2.isList (by simp) hu _ _ _ _ ⟨.bl true, H, I, rfl, q⟩
structure Dct (α : Type) where
  kv : List (Str × α)
def KvR {α : Type} [Enc α] (K : PySem.W.Frag) (S : Hp) (p : Key × V) (x : Str × α) : Prop := p.1 = Sum.inr x.1 ∧ Enc.rep K S p.2 x.2
theorem KvR.mono {α : Type} [Enc α] {K : PySem.W.Frag} {S S' : Hp} {p : Key × V} {x : Str × α} (e : Same S S') (h : KvR K S p x) : KvR K S' p x := ⟨h.1, Enc.mono e h.2⟩
instance {α : Type} [Enc α] : Enc (Dct α) where
  rep K S v d := d.kv.length ≤ 1000 ∧ ∃ p kvs, v = .ref p ∧ S p = some (.dK kvs) ∧ Paired (KvR K S) kvs d.kv
  mono e h := by
    obtain ⟨hl, p, kvs, r, hq, hp⟩ := h
    exact ⟨hl, p, kvs, r, e _ _ hq, Paired.mono (fun _ _ => KvR.mono e) hp⟩
def Dct.get {α : Type} (d : Dct α) (z : Str) : Option α := (d.kv.find? fun x => decide (x.1 = z)).map (·.2)
def ownD {α : Type} [Enc α] (xs : List (Str × α)) : OwnP := ⟨fun K S o => xs.length ≤ 1000 ∧ ∃ kvs, o = .dK kvs ∧ Paired (KvR K S) kvs xs, fun e ⟨l, kvs, r, h⟩ => ⟨l, kvs, r, Paired.mono (fun _ _ => KvR.mono e) h⟩⟩
theorem valV_kv {α : Type} [Enc α] {K : PySem.W.Frag} {S : Hp} {z : Str} {a : α} : ∀ {kvs : List (Key × V)} {xs : List (Str × α)}, Paired (KvR K S) kvs xs → (Dct.mk xs).get z = some a → ∃ v, valV kvs (Sum.inr z) = some v ∧ Enc.rep K S v a
  | _, _, .nil, h => by cases h
  | p :: r, x :: t, .cons h1 h2, h => by
    unfold Dct.get at h
    rw [List.find?_cons] at h
    by_cases c : x.1 = z
    · rw [decide_eq_true c] at h
      cases h
      refine ⟨p.2, valV_pos ?_, h1.2⟩
      rw [h1.1, c]
    · rw [decide_eq_false c] at h
      obtain ⟨v, q1, q2⟩ := valV_kv h2 h
      refine ⟨v, ?_, q2⟩
      rw [valV_neg (by rw [h1.1]; exact fun e => c (by injection e))]
      exact q1
theorem valV_none {α : Type} [Enc α] {K : PySem.W.Frag} {S : Hp} {z : Str} : ∀ {kvs : List (Key × V)} {xs : List (Str × α)}, Paired (KvR K S) kvs xs → z ∉ xs.map (·.1) → valV kvs (Sum.inr z) = none
  | _, _, .nil, h => valV_nil
  | p :: r, x :: t, .cons h1 h2, h => by
    rw [List.map_cons, List.mem_cons, not_or] at h
    rw [valV_neg (by rw [h1.1]; exact fun e => h.1 (by injection e with e; exact e.symm))]
    exact valV_none h2 h.2
section
variable {K : PySem.W.Frag} {B : Addr → Prop} {ρ ρ' ρ1 ρ2 : List Slot} {ta tb tc td te tk tv : TE} {t u : TT} {ts tu tz : TS} {Φ : Post} {α β γ δ : Type} {e_α : Enc α} {e_β : Enc β} {e_γ : Enc γ} {e_δ : Enc δ} {a : α} {b : β} {i j : Int} {z : Str}
theorem d_eqE {xs : List α} (h : DE K B te ρ (α := L α) xs) : DE K B (tOp (rEmp K false) te (tLst tNil)) ρ xs.isEmpty := fun S0 H0 S H σ E Q q =>
  h S0 H0 S H σ E _ fun v S1 H1 e1 ⟨hl, p, vs, e, hq, r⟩ => ⟨Nat.zero_le _, fun w hw => by
    have n : Same H1 (upd H1 w (.lst [])) := same_new hw
    refine ⟨p, w, vs, e, rfl, .inl (.inl (n _ _ (e1.i _ _ hq))), .inl (.inl upd_same), ?_⟩
    have ee : vs.isEmpty = xs.isEmpty := by cases r <;> rfl
    show Q (.bl vs.isEmpty) _
    rw [ee]
    exact q _ S1 _ (e1.trans (Ext.grow e1.i n)) rfl⟩
theorem d_neE {xs : List α} (h : DE K B te ρ (α := L α) xs) : DE K B (tOp (rEmp K true) te (tLst tNil)) ρ (!xs.isEmpty) := fun S0 H0 S H σ E Q q =>
  h S0 H0 S H σ E _ fun v S1 H1 e1 ⟨hl, p, vs, e, hq, r⟩ => ⟨Nat.zero_le _, fun w hw => by
    have n : Same H1 (upd H1 w (.lst [])) := same_new hw
    refine ⟨p, w, vs, e, rfl, .inl (.inl (n _ _ (e1.i _ _ hq))), .inl (.inl upd_same), ?_⟩
    have ee : vs.isEmpty = xs.isEmpty := by cases r <;> rfl
    show Q (.bl (!vs.isEmpty)) _
    rw [ee]
    exact q _ S1 _ (e1.trans (Ext.grow e1.i n)) rfl⟩
theorem d_getD {d : Dct α} (h : DE K B td ρ d) (hk : DE K B tk ρ z) (hx : d.get z = some a) : DE K B (tDGet td tk) ρ a := fun S0 H0 S H σ E Q q =>
  h S0 H0 S H σ E _ fun v S1 H1 e1 r1 => hk S0 H0 S1 H1 σ (E.go e1) _ fun w S2 H2 e2 r2 => by
    cases r2
    obtain ⟨hl, p, kvs, e, hq, r⟩ := Enc.mono e2.s r1
    obtain ⟨y, q1, q2⟩ := valV_kv r hx
    refine ⟨p, y, e, ?_, q y S2 H2 (e1.trans e2) q2⟩
    rw [← q1]
    exact DGet.k (k := Sum.inr z) (e2.i _ _ hq)
theorem dn_getD {P : Dct α → Prop} {P' : α → Prop} (h : DN K B td ρ P) (hk : DE K B tk ρ z) (hx : ∀ d, P d → ∃ a, d.get z = some a ∧ P' a) : DN K B (tDGet td tk) ρ P' := fun S0 H0 S H σ E Q q =>
  h S0 H0 S H σ E _ fun v d S1 H1 pd e1 r1 => hk S0 H0 S1 H1 σ (E.go e1) _ fun w S2 H2 e2 r2 => by
    cases r2
    obtain ⟨a, hx, pa⟩ := hx d pd
    obtain ⟨hl, p, kvs, e, hq, r⟩ := Enc.mono e2.s r1
    obtain ⟨y, q1, q2⟩ := valV_kv r hx
    refine ⟨p, y, e, ?_, q y a S2 H2 pa (e1.trans e2) q2⟩
    rw [← q1]
    exact DGet.k (k := Sum.inr z) (e2.i _ _ hq)
def DOb (K : PySem.W.Frag) (B : Addr → Prop) (te : TE) (ρ : List Slot) (P : OwnP) : Prop := ∀ S0 H0 S H σ, En K B S0 H0 S H σ ρ → ∀ Q : VK, (∀ p o S' H', Ext B S H S' H' → H p = none → S' p = none → H' p = some o → P.rep K S' o → Q (.ref p) H') → te σ H Q
theorem ds_asgOb {n : Nat} {P : OwnP} (h : DOb K B te ρ P) (k : Φ.nx (ρ.set n (.obj P))) : DS K B (tAsg te (gName n)) ρ Φ := fun S0 H0 S H σ D E px nx r b c =>
  h S0 H0 S H σ E _ fun p o S1 H1 e1 hp hs hh rr => nx _ _ S1 H1 k e1.s (E.setOb e1 hp hs hh rr)
def DPs {α : Type} [Enc α] (K : PySem.W.Frag) (B : Addr → Prop) (trs : List (TE × TE)) (ρ : List Slot) (xs : List (Str × α)) : Prop := ∀ S0 H0 S H σ, En K B S0 H0 S H σ ρ → ∀ Q : List (V × V) → Hp → Prop, (∀ (kvs : List (Key × V)) S' H', Ext B S H S' H' → Paired (KvR K S') kvs xs → Q (kvs.map fun kv => (kV kv.1, kv.2)) H') → tPairs trs σ H Q
theorem dps_nil : DPs K B [] ρ ([] : List (Str × α)) := fun S0 H0 S H σ E Q q => q [] S H (Ext.refl E.i) .nil
theorem dps_cons {trs : List (TE × TE)} {xs : List (Str × α)} (hk : DE K B tk ρ z) (hv : DE K B tv ρ a) (hr : DPs K B trs ρ xs) : DPs K B ((tk, tv) :: trs) ρ ((z, a) :: xs) := fun S0 H0 S H σ E Q q =>
  hk S0 H0 S H σ E _ fun v S1 H1 e1 r1 => hv S0 H0 S1 H1 σ (E.go e1) _ fun w S2 H2 e2 r2 => hr S0 H0 S2 H2 σ (E.go (e1.trans e2)) _ fun kvs S3 H3 e3 r3 => by
    cases r1
    exact q ((Sum.inr z, w) :: kvs) S3 H3 ((e1.trans e2).trans e3) (.cons ⟨rfl, Enc.mono e3.s r2⟩ r3)
theorem merge_nd : ∀ {kvs acc : List (Key × V)}, ((acc ++ kvs).map (·.1)).Nodup → mergeK acc kvs = acc ++ kvs
  | [], acc, _ => by rw [List.append_nil]; rfl
  | p :: r, acc, h => by
    have hn : valV acc p.1 = none := by
      have h2 : p.1 ∉ acc.map (·.1) := fun hm => by
        rw [List.map_append, List.nodup_append] at h
        exact h.2.2 _ hm _ (List.mem_map.mpr ⟨p, List.mem_cons_self, rfl⟩) rfl
      clear h
      induction acc with
      | nil => exact valV_nil
      | cons x t ih =>
        rw [List.map_cons, List.mem_cons, not_or] at h2
        rw [valV_neg (fun e => h2.1 e.symm)]
        exact ih h2.2
    have e : mergeK acc (p :: r) = mergeK (acc ++ [p]) r := by
      show mergeK (putK acc p.1 p.2) r = _
      rw [putK_new p.2 hn]
    rw [e, merge_nd (by rw [List.append_assoc]; exact h), List.append_assoc]
    rfl
theorem kv_keys {S : Hp} : ∀ {kvs : List (Key × V)} {xs : List (Str × α)}, Paired (KvR K S) kvs xs → kvs.map (·.1) = xs.map fun x => (Sum.inr x.1 : Key)
  | _, _, .nil => rfl
  | _, _, .cons h t => by rw [List.map_cons, List.map_cons, kv_keys t, h.1]
theorem keys_nd {xs : List (Str × α)} (h : (xs.map (·.1)).Nodup) : (xs.map fun x => (Sum.inr x.1 : Key)).Nodup := by
  have e : (xs.map fun x => (Sum.inr x.1 : Key)) = (xs.map (·.1)).map Sum.inr := by rw [List.map_map]; rfl
  rw [e]
  exact h.map _ fun a b hne e => hne (by injection e)
theorem do_disp {trs : List (TE × TE)} {xs : List (Str × α)} (h : DPs K B trs ρ xs) (nd : (xs.map (·.1)).Nodup) (hl : xs.length ≤ 15) : DOb K B (tDisp trs) ρ (ownD xs) := fun S0 H0 S H σ E Q q p hp => by
  have e1 : Ext B S H S (upd H p (.dK [])) := Ext.priv E.i hp
  have sp : S p = none := E.i.free hp
  have nB : ¬ B p := fun z => (E.bx p z).2.2 (E.ext.free E.i0 hp)
  refine h S0 H0 S _ σ (E.go e1) _ fun kvs S2 H2 e2 r2 => ?_
  obtain ⟨s2, h2⟩ := e2.p p sp (by rw [upd_same]; exact fun z => nomatch z)
  have hp2 : H2 p = some (.dK []) := by
    rcases h2 with z | ⟨z, _⟩
    · rw [z, upd_same]
    · exact absurd z nB
  have kl : kvs.length ≤ 15 := by rw [r2.length]; exact hl
  refine ⟨hp2, kvs, rfl, kl, ?_⟩
  have em : mergeK [] kvs = kvs := by
    rw [merge_nd (by rw [List.nil_append, kv_keys r2]; exact keys_nd nd), List.nil_append]
  rw [em]
  exact q p _ S2 _ ((e1.trans e2).mut hp s2) hp s2 upd_same ⟨by omega, kvs, rfl, r2⟩
theorem ds_dput {n : Nat} {xs : List (Str × α)} (hn : ρ[n]? = some (.obj (ownD xs))) (hv : DE K B tv ρ a) (hk : DE K B tk ρ z) (nz : z ∉ xs.map (·.1)) (hl : xs.length < 1000) (k : Φ.nx (ρ.set n (.obj (ownD (xs ++ [(z, a)]))))) : DS K B (sDPut (tVar n) tk tv) ρ Φ := fun S0 H0 S H σ D E px nx r b c => by
  refine hv S0 H0 S H σ E _ fun v S1 H1 e1 r1 => ?_
  obtain ⟨p, o, g1, h0, hs, hh, pr⟩ := (E.go e1).obj hn
  refine ⟨_, g1, ?_⟩
  refine hk S0 H0 S1 H1 σ (E.go e1) _ fun w S2 H2 e2 r2 => ?_
  cases r2
  have E2 := (E.go e1).go e2
  obtain ⟨p', o', g1', h0', hs', hh', hl', kvs, rfl, rr⟩ := E2.obj hn
  rw [g1] at g1'
  cases g1'
  refine ⟨p, _, rfl, DPut.k (k := Sum.inr z) hh' (by rw [rr.length]; exact Nat.lt_trans hl (by decide)), ?_⟩
  rw [putK_new _ (valV_none rr nz)]
  refine nx _ σ S2 _ k (e1.s.trans e2.s) (E2.chgOb hn g1 ⟨by rw [List.length_append]; exact hl, _, rfl, Paired.app rr (.cons ⟨rfl, Enc.mono e2.s r1⟩ .nil)⟩)
theorem ds_frzD {n : Nat} {xs : List (Str × α)} (hx : ρ[n]? = some (.obj (ownD xs))) (h : DS K B ts (ρ.set n (.val (Dct.mk xs))) Φ) : DS K B ts ρ Φ := fun S0 H0 S H σ D E px nx r b c => by
  have cv : ∀ (S1 : Hp) (p : Addr) (u : HO), S1 p = some u → (ownD xs).rep K S1 u → Enc.rep K S1 (.ref p) (Dct.mk xs) := fun S1 p u hp ⟨hl, kvs, e, r⟩ => ⟨hl, p, kvs, rfl, by rw [hp, e], r⟩
  obtain ⟨S1, ex, sm, E1⟩ := E.frzOb hx cv
  exact h S0 H0 S1 H σ D E1 px (fun ρ' σ' S' H' q s E' => nx ρ' σ' S' H' q (sm.trans s) E') r (fun ρ' σ' S' H' q s E' => b ρ' σ' S' H' q (sm.trans s) E') (fun ρ' σ' S' H' q s E' => c ρ' σ' S' H' q (sm.trans s) E')
theorem d_dict {xs : List (Str × α)} (h : DE K B te ρ (α := L (Str × α)) xs) (nd : (xs.map (·.1)).Nodup) (hl : xs.length ≤ 1000) : DE K B (tCB (fun vs H Q => ∃ (a : Addr) (ps : List Addr) (kvs : List (Key × V)), vs = [.ref a] ∧ SqL K H a (ps.map V.ref) ∧ Paired (fun p kv => SqT K H p [kV kv.1, kv.2]) ps kvs ∧ ∀ p, H p = none → Q (.ref p) (upd H p (.dK (mergeK [] kvs)))) (tCons te tNil)) ρ (Dct.mk xs) := fun S0 H0 S H σ E Q q =>
  h S0 H0 S H σ E _ fun v S1 H1 e1 ⟨_, p, vs, e, hq, r⟩ => by
    have core : ∀ {vs : List V} {xs : List (Str × α)}, Paired (Enc.rep K S1) vs xs → ∃ (ps : List Addr) (kvs : List (Key × V)), vs = ps.map V.ref ∧ Paired (fun p kv => SqT K H1 p [kV kv.1, kv.2]) ps kvs ∧ Paired (KvR K S1) kvs xs := by
      intro vs xs r
      induction r with
      | nil => exact ⟨[], [], rfl, .nil, .nil⟩
      | cons h1 t ih =>
        rename_i v x vs xs
        obtain ⟨ps, kvs, e1', r1, r2⟩ := ih
        obtain ⟨p, v1, v2, rfl, hq, q1, q2⟩ := h1
        cases q1
        exact ⟨p :: ps, (Sum.inr x.1, v2) :: kvs, by rw [e1']; rfl, .cons (Evl.ex_t e1.i hq) r1, .cons ⟨rfl, q2⟩ r2⟩
    obtain ⟨ps, kvs, rfl, r1, r2⟩ := core r
    refine ⟨p, ps, kvs, by rw [e], .inl (.inl (e1.i _ _ hq)), r1, fun w hw => ?_⟩
    rw [merge_nd (by rw [List.nil_append, kv_keys r2]; exact keys_nd nd), List.nil_append]
    have e2 : Ext B S1 H1 (upd S1 w (.dK kvs)) (upd H1 w (.dK kvs)) := Ext.new e1.i hw
    exact q _ _ _ (e1.trans e2) ⟨hl, w, kvs, rfl, upd_same, Paired.mono (fun _ _ => KvR.mono e2.s) r2⟩
theorem d_addS {y : Str} (h1 : DE K B ta ρ z) (h2 : DE K B tb ρ y) (hl : z.length + y.length ≤ BIG) : DE K B (tOp (fun x y H Q => ∃ i j, x = .str i ∧ y = .str j ∧ i.length + j.length ≤ sizeLine ∧ Q (.str (i ++ j)) H) ta tb) ρ (z ++ y) :=
  d_op h1 h2 fun v w S H hi r1 r2 Q q => by
    cases r1
    cases r2
    exact ⟨z, y, rfl, rfl, Nat.le_trans hl big_line, q _ S H (Ext.refl hi) rfl⟩
theorem dn_if {P : α → Prop} {c : Bool} (h : DT K B t ρ c) (h1 : c = true → DN K B ta ρ P) (h2 : c = false → DN K B tb ρ P) : DN K B (tIf t ta tb) ρ P := fun S0 H0 S H σ E Q q => h S0 H0 S H σ E _ fun S1 H1 e => by
  cases c with
  | true => exact h1 rfl S0 H0 S1 H1 σ (E.go e) Q fun v a S2 H2 pa e2 r2 => q v a S2 H2 pa (e.trans e2) r2
  | false => exact h2 rfl S0 H0 S1 H1 σ (E.go e) Q fun v a S2 H2 pa e2 r2 => q v a S2 H2 pa (e.trans e2) r2
def DTN (K : PySem.W.Frag) (B : Addr → Prop) (tt : TT) (ρ : List Slot) (P : Bool → Prop) : Prop := ∀ S0 H0 S H σ, En K B S0 H0 S H σ ρ → ∀ Q : Bool → Hp → Prop, (∀ b S' H', P b → Ext B S H S' H' → Q b H') → tt σ H Q
theorem DT.n {c : Bool} (h : DT K B t ρ c) : DTN K B t ρ fun b => b = c := fun S0 H0 S H σ E Q q => h S0 H0 S H σ E _ fun S1 H1 e => q c S1 H1 rfl e
theorem dtn_test {P : Bool → Prop} (h : DN K B te ρ P) : DTN K B (tTest te) ρ P := fun S0 H0 S H σ E Q q => h S0 H0 S H σ E _ fun v b S1 H1 pb e r => ⟨b, r, q b S1 H1 pb e⟩
theorem dtn_and {b : Bool} {P : Bool → Prop} (h1 : DT K B t ρ b) (h2 : b = true → DTN K B u ρ P) : DTN K B (tAnd t u) ρ (fun c => if b = true then P c else c = false) := fun S0 H0 S H σ E Q q => h1 S0 H0 S H σ E _ fun S1 H1 e => by
  cases b with
  | true => exact h2 rfl S0 H0 S1 H1 σ (E.go e) Q fun c S2 H2 pc e2 => q c S2 H2 pc (e.trans e2)
  | false => exact q false S1 H1 rfl e
theorem dn_ifN {P : α → Prop} {PT : Bool → Prop} (h : DTN K B t ρ PT) (h1 : PT true → DN K B ta ρ P) (h2 : PT false → DN K B tb ρ P) : DN K B (tIf t ta tb) ρ P := fun S0 H0 S H σ E Q q => h S0 H0 S H σ E _ fun c S1 H1 pc e => by
  cases c with
  | true => exact h1 pc S0 H0 S1 H1 σ (E.go e) Q fun v a S2 H2 pa e2 r2 => q v a S2 H2 pa (e.trans e2) r2
  | false => exact h2 pc S0 H0 S1 H1 σ (E.go e) Q fun v a S2 H2 pa e2 r2 => q v a S2 H2 pa (e.trans e2) r2
theorem dn_eqI {P P' : Int → Prop} (ha : DN K B ta ρ P) (hb : DN K B tb ρ P') : DN K B (tOp rEq ta tb) ρ fun c : Bool => ∃ a b, P a ∧ P' b ∧ c = decide (a = b) :=
  dn_op ha hb fun a b pa pb x y S H hi r1 r2 Q q => by
    obtain ⟨h1, h2⟩ := Flat.eq (α := Int) r1 r2
    refine ⟨h1, ?_⟩
    rw [h2]
    exact q _ _ S H ⟨a, b, pa, pb, rfl⟩ (Ext.refl hi) rfl
theorem dn_quad {P1 : α → Prop} {P2 : β → Prop} {P3 : γ → Prop} {P4 : δ → Prop} (ha : DN K B ta ρ P1) (hb : DN K B tb ρ P2) (hc : DN K B tc ρ P3) (hd : DN K B td ρ P4) : DN K B (tTup (tCons ta (tCons tb (tCons tc (tCons td tNil))))) ρ (fun t : T4 α β γ δ => P1 t.a ∧ P2 t.b ∧ P3 t.c ∧ P4 t.d) := fun S0 H0 S H σ E Q q =>
  ha S0 H0 S H σ E _ fun x a1 S1 H1 p1 e1 r1 => hb S0 H0 S1 H1 σ (E.go e1) _ fun y a2 S2 H2 p2 e2 r2 => hc S0 H0 S2 H2 σ (E.go (e1.trans e2)) _ fun z a3 S3 H3 p3 e3 r3 => hd S0 H0 S3 H3 σ (E.go ((e1.trans e2).trans e3)) _ fun w a4 S4 H4 p4 e4 r4 => ⟨by show 4 ≤ sizeLine; decide, fun p hp => by
    have e5 : Ext B S4 H4 (upd S4 p (.tup [x, y, z, w])) (upd H4 p (.tup [x, y, z, w])) := Ext.new e4.i hp
    exact q _ (T4.mk a1 a2 a3 a4) _ _ ⟨p1, p2, p3, p4⟩ ((((e1.trans e2).trans e3).trans e4).trans e5) ⟨p, x, y, z, w, rfl, .inl (.inl upd_same), Enc.mono (((e2.s.trans e3.s).trans e4.s).trans e5.s) r1, Enc.mono ((e3.s.trans e4.s).trans e5.s) r2, Enc.mono (e4.s.trans e5.s) r3, Enc.mono e5.s r4⟩⟩
theorem dn_pair {P1 : α → Prop} {P2 : β → Prop} (ha : DN K B ta ρ P1) (hb : DN K B tb ρ P2) : DN K B (tTup (tCons ta (tCons tb tNil))) ρ (fun t : α × β => P1 t.1 ∧ P2 t.2) := fun S0 H0 S H σ E Q q =>
  ha S0 H0 S H σ E _ fun x a1 S1 H1 p1 e1 r1 => hb S0 H0 S1 H1 σ (E.go e1) _ fun y a2 S2 H2 p2 e2 r2 => ⟨by show 2 ≤ sizeLine; decide, fun p hp => by
    have e5 : Ext B S2 H2 (upd S2 p (.tup [x, y])) (upd H2 p (.tup [x, y])) := Ext.new e2.i hp
    exact q _ (a1, a2) _ _ ⟨p1, p2⟩ ((e1.trans e2).trans e5) ⟨p, x, y, rfl, .inl (.inl upd_same), Enc.mono (e2.s.trans e5.s) r1, Enc.mono e5.s r2⟩⟩
theorem DG.quad {g1 g2 g3 g4 : TG} {a : α} {b : β} {c : γ} {d : δ} {ρ3 ρ4 : List Slot} {js1 js2 js3 js4 : List Nat} (h1 : DG K B g1 a ρ ρ1 js1) (h2 : DG K B g2 b ρ1 ρ2 js2) (h3 : DG K B g3 c ρ2 ρ3 js3) (h4 : DG K B g4 d ρ3 ρ4 js4) : DG K B (gTup K 4 (gCons g1 (gCons g2 (gCons g3 (gCons g4 gNil))))) (T4.mk a b c d) ρ ρ4 (js1 ++ (js2 ++ (js3 ++ js4))) := fun S0 H0 S H σ v E r R q => by
  obtain ⟨p, v1, v2, v3, v4, rfl, hq, r1, r2, r3, r4⟩ := r
  refine ⟨p, [v1, v2, v3, v4], rfl, Evl.ex_t E.i hq, rfl, v1, [v2, v3, v4], rfl, ?_⟩
  refine h1 S0 H0 S H σ v1 E r1 _ fun σ1 E1 l1 f1 => ⟨v2, [v3, v4], rfl, ?_⟩
  refine h2 S0 H0 S H σ1 v2 E1 r2 _ fun σ2 E2 l2 f2 => ⟨v3, [v4], rfl, ?_⟩
  refine h3 S0 H0 S H σ2 v3 E2 r3 _ fun σ3 E3 l3 f3 => ⟨v4, [], rfl, ?_⟩
  refine h4 S0 H0 S H σ3 v4 E3 r4 _ fun σ4 E4 l4 f4 => ⟨rfl, q σ4 E4 (((l4.trans l3).trans l2).trans l1) fun i hi => ?_⟩
  simp only [List.mem_append, not_or] at hi
  rw [f4 i hi.2.2.2, f3 i hi.2.2.1, f2 i hi.2.1, f1 i hi.1]
theorem dq_forN {g : TG} {P : Int → Prop} (h : DN K B te ρ P) (hs : ∀ n, P n → DS K B (tSeq (tFor (iRng1 (tCons (tC (.int n)) tNil)) g ts) tz) ρ Φ) : DS K B (tSeq (tFor (iRng1 (tCons te tNil)) g ts) tz) ρ Φ := fun S0 H0 S H σ D E px nx r b c => h S0 H0 S H σ E _ fun v n S1 H1 pn e1 r1 => by
  cases r1
  exact hs n pn S0 H0 S1 H1 σ D (E.go e1) px (fun ρ' σ' S' H' q s E' => nx ρ' σ' S' H' q (e1.s.trans s) E') r (fun ρ' σ' S' H' q s E' => b ρ' σ' S' H' q (e1.s.trans s) E') (fun ρ' σ' S' H' q s E' => c ρ' σ' S' H' q (e1.s.trans s) E')
theorem dn_mapN {wi : TI} {g : TG} {vs : List Nat} {xs : List α} (P : α → β → Prop) (hi : DI K B wi ρ xs) (hl : xs.length ≤ BIG)
    (h : ∀ x ∈ xs, ∃ ρ' js, DG K B g x (wipeS ρ vs) ρ' js ∧ (∀ i ∈ js, i ∈ vs) ∧ DN K B te ρ' (P x)) : DN K B (tLc wi g tYes te vs) ρ (α := L β) (fun ys => Paired P xs ys) := by
  intro S0 H0 S H σ E Q q
  refine hi S0 H0 S H σ E _ fun J S1 H1 e1 y D hD => ?_
  have hD0 : H D = none := e1.free E.i hD
  have nB : ¬ B D := fun z => (E.bx D z).2.2 (E.ext.free E.i0 hD0)
  let Pv : Nat → Hp → Prop := fun i Hc => ∃ Sc ws ys, Ext B S1 H1 Sc Hc ∧ Sc D = none ∧ Hc D = some (.lst ws) ∧ Paired (Enc.rep K Sc) ws ys ∧ Paired P (xs.take i) ys
  refine ⟨fun i m Hc => m = xs.length - i ∧ i ≤ xs.length ∧ Pv i Hc, ⟨xs.length, by simp, Nat.zero_le _, S1, [], [], Ext.priv e1.i hD, e1.i.free hD, upd_same, .nil, .nil⟩, ?_⟩
  rintro i m Hc ⟨rfl, hle, Sc, ws, ys, ex, hs, hh, r, pp⟩
  have yy := y Sc Hc ex.s (E.ext.trans (e1.trans ex))
  by_cases hlt : i < xs.length
  · refine .inr ?_
    obtain ⟨x, hx⟩ : ∃ x, xs[i]? = some x := ⟨_, List.getElem?_eq_getElem hlt⟩
    obtain ⟨hgo, hy⟩ := yy.1 i x hx
    refine ⟨hgo, Pv (i + 1), fun H' hp => ⟨xs.length - (i + 1), by omega, rfl, hlt, hp⟩, fun v H' hyl => ?_⟩
    obtain ⟨S2, e2, r2⟩ := hy v H' hyl
    obtain ⟨ρ', js, hg, hjs, he⟩ := h x (List.mem_of_getElem? hx)
    have lw : ws.length < sizeLine := by
      rw [r.length, ← pp.length, List.length_take]
      have := big_line
      omega
    refine hg S0 H0 S2 H' (wipe σ vs) v ((E.go ((e1.trans ex).trans e2)).wp vs) r2 _ fun σ2 E2 l2 f2 => ⟨?_, ?_⟩
    · have z := wipe_eq (vs := vs) l2 fun i hi => f2 i fun z => hi (hjs i z)
      rw [z, wipe_wipe]
    · show tYes σ2 H' _
      refine he S0 H0 S2 H' σ2 E2 _ fun w b S4 H4 pb e4 r4 => ?_
      have e24 := e2.trans e4
      obtain ⟨a1, a2⟩ := e24.p D hs (by rw [hh]; exact fun z => nomatch z)
      have a3 : H4 D = some (.lst ws) := by
        rcases a2 with z | ⟨z, _⟩
        · rw [z]; exact hh
        · exact absurd z nB
      refine ⟨ws, a3, lw, S4, ws ++ [w], ys ++ [b], (ex.trans e24).mut hD a1, a1, upd_same, ?_, ?_⟩
      · exact Paired.app (Paired.mono (fun _ _ => Enc.mono e24.s) r) (.cons r4 .nil)
      · rw [List.take_add_one, hx]
        exact Paired.app pp (.cons pb .nil)
  · refine .inl ⟨?_, ?_⟩
    · rw [show i = xs.length by omega]
      exact yy.2
    · rw [List.take_of_length_le (by omega)] at pp
      have fz : Ext B S H (upd Sc D (.lst ws)) Hc := (e1.trans ex).frz hD0 E.i hh hs
      exact q _ ys _ Hc pp fz ⟨by rw [← pp.length]; exact hl, D, ws, rfl, upd_same, Paired.mono (fun _ _ => Enc.mono (same_new hs)) r⟩
theorem da_own {n : Nat} {tr : TA} {ss : List Slot} {P : OwnP} (h : ρ[n]? = some (.obj P)) (hr : DA K B tr ρ ss) : DA K B (tCons (tVar n) tr) ρ (.out P :: ss) := fun S0 H0 S H σ E Q q => by
  obtain ⟨p, o, h1, h0, hs, hh, pr⟩ := E.obj h
  have nB : ¬ B p := fun z => (E.bx p z).2.2 h0
  refine ⟨_, h1, hr S0 H0 S H σ E _ fun vs S2 H2 e2 r2 => ?_⟩
  obtain ⟨q1, q2⟩ := e2.p p hs (by rw [hh]; exact fun z => nomatch z)
  have h2 : H2 p = some o := by
    rcases q2 with z | ⟨z, _⟩
    · rw [z, hh]
    · exact absurd z nB
  exact q _ S2 H2 e2 (.cons ⟨p, o, rfl, nB, (by rw [h2]; exact fun z => nomatch z), q1, h2, P.mono e2.s pr⟩ rfl r2)
theorem da_out {n : Nat} {tr : TA} {ss : List Slot} {P : OwnP} (h : ρ[n]? = some (.out P)) (hr : DA K B tr ρ ss) : DA K B (tCons (tVar n) tr) ρ (.out P :: ss) := fun S0 H0 S H σ E Q q => by
  obtain ⟨p, o, h1, nB, h0, hs, hh, pr⟩ := E.out h
  refine ⟨_, h1, hr S0 H0 S H σ E _ fun vs S2 H2 e2 r2 => ?_⟩
  obtain ⟨q1, q2⟩ := e2.p p hs (by rw [hh]; exact fun z => nomatch z)
  have h2 : H2 p = some o := by
    rcases q2 with z | ⟨z, _⟩
    · rw [z, hh]
    · exact absurd z nB
  exact q _ S2 H2 e2 (.cons ⟨p, o, rfl, nB, (by rw [h2]; exact fun z => nomatch z), q1, h2, P.mono e2.s pr⟩ rfl r2)
theorem d_neEOut {n : Nat} {xs : List α} (h : ρ[n]? = some (.out (ownL xs))) : DE K B (tOp (rEmp K true) (tVar n) (tLst tNil)) ρ (!xs.isEmpty) := fun S0 H0 S H σ E Q q => by
  obtain ⟨p, o, h1, nB, h0, hs, hh, hl, vs, rfl, r⟩ := E.out h
  refine ⟨_, h1, Nat.zero_le _, fun w hw => ?_⟩
  have n : Same H (upd H w (.lst [])) := same_new hw
  refine ⟨p, w, vs, rfl, rfl, .inl (.inl (n _ _ hh)), .inl (.inl upd_same), ?_⟩
  have ee : vs.isEmpty = xs.isEmpty := by cases r <;> rfl
  show Q (.bl (!vs.isEmpty)) _
  rw [ee]
  exact q _ S _ (Ext.grow E.i n) rfl
theorem di_out {n : Nat} {xs : List α} (h : ρ[n]? = some (.out (ownL xs))) : DI K B (iSeq K (tVar n)) ρ xs := fun S0 H0 S H σ E R q => by
  obtain ⟨p, o, h1, nB, h0, hs, hh, hl, vs, rfl, r⟩ := E.out h
  have s0 : S0 p = none := by
    cases z : S0 p with
    | none => rfl
    | some u =>
      have := E.ext.s _ _ z
      rw [hs] at this
      cases this
  have he : H p = H0 p := by
    rcases (E.ext.p p s0 h0).2 with z | ⟨z, _⟩
    · exact z
    · exact absurd z nB
  refine ⟨_, h1, p, rfl, .inl ⟨⟨vs, .inl (.inl hh)⟩, q _ S H (Ext.refl E.i) fun S2 H2 s2 x2 => ?_⟩⟩
  have h2 : H2 p = some (.lst vs) := by
    rcases (x2.p p s0 h0).2 with z | ⟨z, _⟩
    · rw [z, ← he, hh]
    · exact absurd z nB
  refine ⟨fun i x hx => ?_, vs, .inl (.inl h2), by rw [r.length]; exact Nat.le_refl _⟩
  obtain ⟨w, k1, k2⟩ := Paired.at r hx
  refine ⟨⟨vs, w, .inl (.inl h2), k1⟩, fun v H3 hy => ⟨S2, ?_, ?_⟩⟩
  · rw [hy.1]
    exact Ext.refl x2.i
  · have z := hy.2 vs (.inl (.inl h2))
    rw [k1] at z
    cases z
    exact Enc.mono s2 k2
abbrev dpPickO (α : Type) [Enc α] : List Slot → (Slot → Prop) → Prop := fun ss R => ∃ xs : List α, ss = [.box, .out (ownL xs)] ∧ 0 < xs.length ∧ xs.length < 1000 ∧ ∀ c : α, c ∈ xs → R (.val c)
theorem imp_pickO {α : Type} [Enc α] (vs : List V) (H : Hp) (Q : VK) (E : XK) (h : spT K (dpPickO α) vs H Q E) : spPick K vs H Q E := by
  obtain ⟨B, S, ss, R, i, hb, ar, ⟨xs, rfl, m0, m1, r⟩, q⟩ := h
  cases ar with
  | cons h1 h2 h3 =>
    cases h3 with
    | cons k1 k2 k3 =>
      cases k3
      obtain ⟨p, rfl, bp⟩ := h1
      obtain ⟨l, o, rfl, nB, _, hs, hh, _, ws, rfl, pr⟩ := k1
      obtain ⟨sn, bx⟩ := hb p bp
      have hl := pr.length
      refine ⟨p, l, ws, rfl, bx, Sq.l hh, fun e => nB (by rw [e]; exact bp), by omega, by omega, fun x y z v hv => ?_⟩
      obtain ⟨c, c1, c2⟩ := paired_mem pr v hv
      exact q (.val c) v S _ (r c c1) (Ext.box i bp sn) c2
theorem dn_pickO {n m : Nat} {xs : List α} (hb : ρ[m]? = some .box) (h : ρ[n]? = some (.out (ownL xs))) (h0 : 0 < xs.length) (h1 : xs.length < 1000) : DN K B (tCall (spT K (dpPickO α)) [] E0 (tCons (tVar m) (tCons (tVar n) tNil))) ρ (fun c : α => c ∈ xs) :=
  dn_call (da_box hb (da_out h da_nil)) ⟨xs, rfl, h0, h1, fun c hc => ⟨c, hc, rfl⟩⟩
theorem d_getDO {n : Nat} {xs : List (Str × α)} (h : ρ[n]? = some (.out (ownD xs))) (hk : DE K B tk ρ z) (hx : (Dct.mk xs).get z = some a) : DE K B (tDGet (tVar n) tk) ρ a := fun S0 H0 S H σ E Q q => by
  obtain ⟨p, o, h1, _⟩ := E.out h
  refine ⟨_, h1, hk S0 H0 S H σ E _ fun w S2 H2 e2 r2 => ?_⟩
  cases r2
  obtain ⟨p', o', h1', nB, h0, hs, hh, hl, kvs, rfl, r⟩ := (E.go e2).out h
  rw [h1] at h1'
  cases h1'
  obtain ⟨y, q1, q2⟩ := valV_kv r hx
  refine ⟨p, y, rfl, ?_, q y S2 H2 e2 q2⟩
  rw [← q1]
  exact DGet.k (k := Sum.inr z) hh
theorem ds_dputN {n : Nat} {xs : List (Str × α)} {P : α → Prop} (hn : ρ[n]? = some (.obj (ownD xs))) (hv : DN K B tv ρ P) (hk : DE K B tk ρ z) (nz : z ∉ xs.map (·.1)) (hl : xs.length < 1000) (k : ∀ a, P a → Φ.nx (ρ.set n (.obj (ownD (xs ++ [(z, a)]))))) : DS K B (sDPut (tVar n) tk tv) ρ Φ := fun S0 H0 S H σ D E px nx r b c => by
  refine hv S0 H0 S H σ E _ fun v a S1 H1 pa e1 r1 => ?_
  obtain ⟨p, o, g1, h0, hs, hh, pr⟩ := (E.go e1).obj hn
  refine ⟨_, g1, ?_⟩
  refine hk S0 H0 S1 H1 σ (E.go e1) _ fun w S2 H2 e2 r2 => ?_
  cases r2
  have E2 := (E.go e1).go e2
  obtain ⟨p', o', g1', h0', hs', hh', hl', kvs, rfl, rr⟩ := E2.obj hn
  rw [g1] at g1'
  cases g1'
  refine ⟨p, _, rfl, DPut.k (k := Sum.inr z) hh' (by rw [rr.length]; exact Nat.lt_trans hl (by decide)), ?_⟩
  rw [putK_new _ (valV_none rr nz)]
  refine nx _ σ S2 _ (k a pa) (e1.s.trans e2.s) (E2.chgOb hn g1 ⟨by rw [List.length_append]; exact hl, _, rfl, Paired.app rr (.cons ⟨rfl, Enc.mono e2.s r1⟩ .nil)⟩)
theorem ds_par3O {n m l : Nat} {xs : List γ} (h1 : DE K B ta ρ a) (h2 : DE K B tb ρ b) (h3 : DO K B tc ρ xs) (k : Φ.nx (((ρ.set n (.val a)).set m (.val b)).set l (.own xs))) : DS K B (tPar3 n m l (tCons ta (tCons tb (tCons tc tNil)))) ρ Φ := fun S0 H0 S H σ D E px nx r b c =>
  h1 S0 H0 S H σ E _ fun v S1 H1 e1 r1 => h2 S0 H0 S1 H1 σ (E.go e1) _ fun w S2 H2 e2 r2 => h3 S0 H0 S2 H2 σ (E.go (e1.trans e2)) _ fun p vs S3 H3 e3 hp hs hh rr hl =>
    ⟨v, w, _, rfl, nx _ _ S3 H3 k ((e1.s.trans e2.s).trans e3.s) (En.setO (((E.go (e1.trans e2)).setV (Enc.mono e2.s r1)).setV r2) e3 hp hs hh rr hl)⟩
theorem idx_mem {ws : List Str} {z : Str} (h : z ∈ ws) : ws[ws.idxOf z]? = some z ∧ ∀ m, m < ws.idxOf z → ws[m]? ≠ some z := by
  have hl : ws.idxOf z < ws.length := List.idxOf_lt_length_iff.mpr h
  refine ⟨by rw [List.getElem?_eq_getElem hl, List.getElem_idxOf hl], fun m hlt he => ?_⟩
  have : ws.idxOf z ≤ m := by
    clear h hl
    induction ws generalizing m with
    | nil => simp at he
    | cons a r ih =>
      rw [List.idxOf_cons] at hlt ⊢
      by_cases c : (a == z) = true
      · rw [c] at hlt
        exact absurd hlt (Nat.not_lt_zero _)
      · have c : (a == z) = false := by simpa using c
        rw [c] at hlt ⊢
        cases m with
        | zero =>
          simp at he
          rw [he] at c
          simp at c
        | succ m =>
          have := ih m (by simpa using hlt) (by simpa using he)
          simpa using this
  omega
end
end WW
set_option Elab.async false
set_option linter.all false
set_option maxRecDepth 100000
set_option maxHeartbeats 4000000
namespace WW
open PySem PySem.Spec PyProof.Rows L2
theorem Paired.set {α β : Type} {F : α → β → Prop} {x : α} {y : β} (hf : F x y) : ∀ {l : List α} {r : List β} (n : Nat), Paired F l r → Paired F (l.set n x) (r.set n y)
  | _, _, _, .nil => .nil
  | _, _, 0, .cons f t => .cons hf t
  | _, _, n + 1, .cons f t => .cons f (Paired.set hf n t)
section
variable {K : PySem.W.Frag} {B : Addr → Prop} {ρ ρ' ρ1 ρ2 : List Slot} {ta tb tc td te ti : TE} {t u : TT} {ts tu tz : TS} {Φ : Post} {α β γ δ : Type} {e_α : Enc α} {e_β : Enc β} {e_γ : Enc γ} {e_δ : Enc δ} {a : α} {b : β} {i j : Int} {z : Str}
theorem d_lstOf {xs : List AV} (h : DE K B te ρ (α := L AV) xs) : DE K B te ρ (AV.lst xs) := h.conv fun S v r => by
  obtain ⟨hl, p, vs, e, hq, r⟩ := r
  show AV.rep K S v (.lst xs)
  rw [AV.rep]
  exact ⟨hl, p, vs, e, hq, AV.pr.mpr r⟩
theorem d_tupOf {xs : List AV} (h : DE K B te ρ (α := U AV) xs) : DE K B te ρ (AV.tup xs) := h.conv fun S v r => by
  obtain ⟨hl, p, vs, e, hq, r⟩ := r
  show AV.rep K S v (.tup xs)
  rw [AV.rep]
  exact ⟨hl, p, vs, e, hq, AV.pr.mpr r⟩
theorem d_tupA {tr : TA} {xs : List AV} (h : DL K B tr ρ xs) (hl : xs.length ≤ BIG) : DE K B (tTup tr) ρ (AV.tup xs) := d_tupOf (d_tupU h hl)
def DON {α : Type} [Enc α] (K : PySem.W.Frag) (B : Addr → Prop) (te : TE) (ρ : List Slot) (P : List α → Prop) : Prop := ∀ S0 H0 S H σ, En K B S0 H0 S H σ ρ → ∀ Q : VK, (∀ p vs xs S' H', P xs → Ext B S H S' H' → H p = none → S' p = none → H' p = some (.lst vs) → Paired (Enc.rep K S') vs xs → xs.length ≤ BIG → Q (.ref p) H') → te σ H Q
theorem DON.n {P : List α → Prop} (h : DON K B te ρ P) : DN K B te ρ (α := L α) P := fun S0 H0 S H σ E Q q =>
  h S0 H0 S H σ E Q fun p vs xs S1 H1 px e1 hp hs hh rr hl => q _ xs _ H1 px (e1.frz hp E.i hh hs) ⟨hl, p, vs, rfl, upd_same, Paired.mono (fun _ _ => Enc.mono (same_new hs)) rr⟩
theorem DON.imp {P P' : List α → Prop} (h : DON K B te ρ P) (f : ∀ xs, P xs → P' xs) : DON K B te ρ P' := fun S0 H0 S H σ E Q q => h S0 H0 S H σ E Q fun p vs xs S1 H1 px => q p vs xs S1 H1 (f xs px)
def DIN {α : Type} [Enc α] (K : PySem.W.Frag) (B : Addr → Prop) (wi : TI) (ρ : List Slot) (P : List α → Prop) : Prop := ∀ S0 H0 S H σ, En K B S0 H0 S H σ ρ → ∀ R : It → Hp → Prop, (∀ J xs S' H', P xs → Ext B S H S' H' → Yld K B S0 H0 J S' xs → R J H') → wi σ H R
theorem din_seq {P : List α → Prop} (h : DN K B te ρ (α := L α) P) : DIN K B (iSeq K te) ρ P := fun S0 H0 S H σ E R q =>
  h S0 H0 S H σ E _ fun v xs S1 H1 px e1 ⟨hl, p, vs, e, hq, r⟩ => by
    have hh : SqL K S1 p vs := SqL.of hq
    refine ⟨p, e, ?_⟩
    refine .inl ⟨⟨vs, Evl.ex_l e1.i hh⟩, q _ xs S1 H1 px e1 fun S2 H2 s2 x2 => have i2 := x2.i; ⟨fun i x hx => ?_, vs, Evl.ex_l (s2.trans i2) hh, by rw [r.length]; exact Nat.le_refl _⟩⟩
    obtain ⟨w, h1, h2⟩ := Paired.at r hx
    refine ⟨⟨vs, w, Evl.ex_l (s2.trans i2) hh, h1⟩, fun v H3 hy => ⟨S2, ?_, ?_⟩⟩
    · rw [hy.1]
      exact Ext.refl i2
    · have z := hy.2 vs (Evl.ex_l (s2.trans i2) hh)
      rw [h1] at z
      cases z
      exact Enc.mono s2 h2
end
end WW
set_option Elab.async false
set_option linter.all false
set_option maxRecDepth 100000
set_option maxHeartbeats 4000000
namespace WW
open PySem PySem.Spec PyProof.Rows L2
theorem cutA_drop {δ : Type} {xs : List δ} {t : Nat} : cutA xs (some (t : Int)) none = xs.drop t := by
  unfold cutA
  rw [HT.sIx_none, HT.sIx_nat]
  by_cases h : t ≤ xs.length
  · rw [Nat.min_eq_left h, List.take_of_length_le (by rw [List.length_drop]; omega)]
  · rw [Nat.min_eq_right (by omega), List.drop_of_length_le (Nat.le_refl _), List.drop_of_length_le (by omega), List.take_nil]
theorem cutA_mid {δ : Type} {xs : List δ} {t u : Nat} (h : t + u ≤ xs.length) : cutA xs (some (t : Int)) (some ((t : Int) + (u : Int))) = (xs.drop t).take u := by
  unfold cutA
  rw [show (t : Int) + (u : Int) = ((t + u : Nat) : Int) by omega, HT.sIx_nat, HT.sIx_nat, Nat.min_eq_left (show t ≤ xs.length by omega), Nat.min_eq_left h]
  congr 1
  omega
abbrev Lk := T4 Str Str Int Int
structure DMd where
  n : Str
  i : List Str
  o : List Str
  s : List Str
  c : List (Str × Str)
  l : List Lk
def callsA (cs : List (Str × Str)) : AV := IsAV.av (α := L (Str × Str)) cs
def linksA (ls : List Lk) : AV := IsAV.av (α := L Lk) ls
def DMd.base (m : DMd) : List (Str × AV) := [("name", .str m.n), ("inlets", strsA m.i), ("outlets", strsA m.o), ("stations", strsA m.s), ("calls", callsA m.c)]
def DMd.dc (m : DMd) : Dct AV := ⟨m.base ++ ([("links", linksA m.l)] : List (Str × AV))⟩
instance : Enc DMd := ⟨fun K S v m => Enc.rep K S v m.dc, fun e h => Enc.mono (α := Dct AV) e h⟩
structure KN where
  ms : List DMd
def KN.dct (k : KN) : Dct DMd := ⟨k.ms.map fun m => (m.n, m)⟩
instance : Enc KN := ⟨fun K S v k => Enc.rep K S v k.dct, fun e h => Enc.mono (α := Dct DMd) e h⟩
def noM : DMd := ⟨"", [], [], [], [], []⟩
def findM (ks : List DMd) (z : Str) : DMd := ((KN.mk ks).dct.get z).getD noM
def DMd.labels (m : DMd) : List Str := m.c.map (·.1)
def DMd.all (m : DMd) : List Str := m.i ++ m.o ++ m.s ++ m.labels
theorem get_find {ks : List DMd} {z : Str} (h : z ∈ ks.map (·.n)) : (KN.mk ks).dct.get z = some (findM ks z) ∧ findM ks z ∈ ks ∧ (findM ks z).n = z := by
  have : ∃ d, (KN.mk ks).dct.get z = some d ∧ d ∈ ks ∧ d.n = z := by
    unfold KN.dct Dct.get
    dsimp only
    induction ks with
    | nil => cases h
    | cons d r ih =>
      rw [List.map_cons, List.find?_cons]
      by_cases c : d.n = z
      · exact ⟨d, by rw [decide_eq_true c]; rfl, List.mem_cons_self, c⟩
      · rw [decide_eq_false c]
        rw [List.map_cons] at h
        obtain ⟨e, h1, h2, h3⟩ := ih ((List.mem_cons.mp h).resolve_left (fun e => c e.symm))
        exact ⟨e, h1, List.mem_cons_of_mem _ h2, h3⟩
  obtain ⟨d, h1, h2, h3⟩ := this
  unfold findM
  rw [h1]
  exact ⟨rfl, h2, h3⟩
section
variable {K : PySem.W.Frag} {B : Addr → Prop} {ρ : List Slot} {ta tb te : TE} {ks : List DMd} {z : Str} {m : DMd}
theorem d_known (h : DE K B ta ρ (KN.mk ks)) (hz : DE K B tb ρ z) (hm : z ∈ ks.map (·.n)) : DE K B (tDGet ta tb) ρ (findM ks z) := d_getD (α := DMd) (d := (KN.mk ks).dct) h hz (get_find hm).1
theorem d_dc (h : DE K B te ρ m) : DE K B te ρ m.dc := h
theorem d_ofdc (h : DE K B te ρ m.dc) : DE K B te ρ m := h
theorem d_kn (h : DE K B te ρ (KN.mk ks).dct) : DE K B te ρ (KN.mk ks) := h
end
def dotted (a b : Str) : Str := (a ++ ".") ++ b
def begM (m : DMd) (ks : List DMd) : List Str := m.i ++ m.s ++ m.c.flatMap fun t => (findM ks t.2).o.map fun z => dotted t.1 z
def goeM (m : DMd) (ks : List DMd) : List Str := m.s ++ m.o ++ m.c.flatMap fun t => (findM ks t.2).i.map fun z => dotted t.1 z
theorem flat_len {α β : Type} (g : α → List β) (k : Nat) : ∀ {l : List α}, (∀ x ∈ l, (g x).length ≤ k) → (l.flatMap g).length ≤ l.length * k
  | [], _ => by simp
  | x :: r, h => by
    have h1 := h x List.mem_cons_self
    have h2 := flat_len g k (l := r) fun y hy => h y (List.mem_cons_of_mem _ hy)
    rw [List.flatMap_cons, List.length_append, List.length_cons, Nat.add_mul]
    omega
def m6L (xs : List AV) : M6 := ⟨xs.getD 0 .non, xs.getD 1 .non, xs.getD 2 .non, xs.getD 3 .non, xs.getD 4 .non, xs.getD 5 .non⟩
def six (m : DMd) : List AV := [.str m.n, strsA m.i, strsA m.o, strsA m.s, linksA m.l, callsA m.c]
theorem names_strsA (zs : List Str) : (strsA zs).names = zs := by
  show ((zs.map AV.str).map AV.txt) = zs
  rw [List.map_map]
  exact (List.map_congr_left fun _ _ => rfl).trans (List.map_id _)
theorem fresh_strsA {zs tk : List Str} (hn : ∀ z ∈ zs, nameB z = true) (nd : zs.Nodup) (ht : ∀ z ∈ zs, z ∉ tk) : freshB (strsA zs) tk = true := by
  unfold freshB
  have e : (strsA zs).items.map AV.txt = zs := names_strsA zs
  rw [e, decide_eq_true nd, Bool.and_true]
  show (true && (zs.map AV.str).all _) = true
  rw [Bool.true_and, List.all_map, List.all_eq_true]
  intro z hz
  show (nameB z && !decide (z ∈ tk)) = true
  rw [hn z hz, decide_eq_false (ht z hz)]
  rfl
theorem labels_calls : ∀ {cs : List (Str × Str)}, (∀ t ∈ cs, nameB t.1 = true ∧ nameB t.2 = true) → labelsOf (callsA cs) = cs.map (·.1) := fun {cs} h => by
  have e : (callsA cs).items = cs.map fun t => AV.tup [.str t.1, .str t.2] := rfl
  unfold labelsOf
  rw [if_pos (show (callsA cs).isSeq = true from rfl), e]
  have f : (cs.map fun t => AV.tup [.str t.1, .str t.2]).filter pairB = cs.map fun t => AV.tup [.str t.1, .str t.2] := by
    rw [List.filter_eq_self]
    intro p hp
    obtain ⟨t, ht, rfl⟩ := List.mem_map.mp hp
    obtain ⟨h1, h2⟩ := h t ht
    show (true && (true && (nameB t.1 && (nameB t.2 && true)))) = true
    rw [h1, h2]
    rfl
  rw [f, List.map_map]
  exact List.map_congr_left fun _ _ => rfl
theorem wm_none {x : M6} (h0 : isName x.n = true) (h1 : freshB x.i [] = true) (h2 : freshB x.o x.i.names = true) (h3 : freshB x.s (x.i.names ++ x.o.names) = true) (h4 : x.linksB = true) (h5 : x.callsB = true) (h6 : freshB (strsA (labelsOf x.c)) (x.i.names ++ x.o.names ++ x.s.names) = true) : wrongMod x = none := by
  unfold wrongMod
  rw [h0, h1, h2, h3, h4, h5, h6]
  simp
def W6 : List Str := ["name", "inlets", "outlets", "stations", "links", "calls"]
theorem six_get {m : DMd} : ∀ x ∈ W6, ∃ v, m.dc.get x = some v := fun x hx => by
  have : ∀ x ∈ W6, x = "name" ∨ x = "inlets" ∨ x = "outlets" ∨ x = "stations" ∨ x = "links" ∨ x = "calls" := by decide +kernel
  rcases this x hx with rfl | rfl | rfl | rfl | rfl | rfl <;> exact ⟨_, rfl⟩
theorem six_map {m : DMd} : (W6.map fun x => (m.dc.get x).getD .non) = six m := rfl
end WW
set_option Elab.async false
set_option linter.all false
set_option maxRecDepth 100000
set_option maxHeartbeats 4000000
namespace WW
open PySem PySem.Spec PyProof.Rows L2
structure TotB {α : Type} (lt : α → α → Bool) : Prop where
  irr : ∀ x, lt x x = false
  tri : ∀ x y, x = y ∨ lt x y = true ∨ lt y x = true
  tr : ∀ x y z, lt x y = true → lt y z = true → lt x z = true
theorem TotB.asym {α : Type} {lt : α → α → Bool} (T : TotB lt) {x y : α} (h : lt x y = true) : lt y x = false := by
  cases h2 : lt y x with
  | false => rfl
  | true =>
    have := T.tr x y x h h2
    rw [T.irr] at this
    cases this
theorem TotB.swo {α : Type} {lt : α → α → Bool} (T : TotB lt) : SrtO.Swo lt := by
  refine ⟨fun x y h => T.asym h, fun x y z h1 h2 => ?_⟩
  rcases T.tri x y with e | e | e
  · rw [e]; exact h2
  · rcases T.tri y z with f | f | f
    · rw [← f]; exact h1
    · exact T.asym (T.tr x y z e f)
    · rw [f] at h2; cases h2
  · rw [e] at h1; cases h1
theorem TotB.map {α β : Type} {lt : α → α → Bool} (T : TotB lt) (f : β → α) (inj : ∀ x y, f x = f y → x = y) : TotB fun x y => lt (f x) (f y) :=
  ⟨fun x => T.irr _, fun x y => by rcases T.tri (f x) (f y) with h | h | h; exact .inl (inj _ _ h); exact .inr (.inl h); exact .inr (.inr h), fun x y z => T.tr _ _ _⟩
def lx {α β : Type} [DecidableEq α] (l1 : α → α → Bool) (l2 : β → β → Bool) (p q : α × β) : Bool := if p.1 = q.1 then l2 p.2 q.2 else l1 p.1 q.1
theorem TotB.lx {α β : Type} [DecidableEq α] {l1 : α → α → Bool} {l2 : β → β → Bool} (T1 : TotB l1) (T2 : TotB l2) : TotB (WW.lx l1 l2) := by
  refine ⟨fun x => ?_, fun x y => ?_, fun x y z h1 h2 => ?_⟩
  · unfold WW.lx
    rw [if_pos rfl]
    exact T2.irr _
  · obtain ⟨a, b⟩ := x
    obtain ⟨c, d⟩ := y
    unfold WW.lx
    by_cases e : a = c
    · subst e
      rw [if_pos rfl, if_pos rfl]
      rcases T2.tri b d with h | h | h
      · exact .inl (by rw [h])
      · exact .inr (.inl h)
      · exact .inr (.inr h)
    · rw [if_neg e, if_neg (fun z => e z.symm)]
      rcases T1.tri a c with h | h | h
      · exact absurd h e
      · exact .inr (.inl h)
      · exact .inr (.inr h)
  · obtain ⟨a, b⟩ := x
    obtain ⟨c, d⟩ := y
    obtain ⟨e, f⟩ := z
    unfold WW.lx at h1 h2 ⊢
    by_cases e1 : a = c
    · subst e1
      rw [if_pos rfl] at h1
      by_cases e2 : a = e
      · subst e2
        rw [if_pos rfl] at h2 ⊢
        exact T2.tr _ _ _ h1 h2
      · rw [if_neg e2] at h2 ⊢
        exact h2
    · rw [if_neg e1] at h1
      by_cases e2 : c = e
      · subst e2
        rw [if_neg e1]
        exact h1
      · rw [if_neg e2] at h2
        have h3 := T1.tr _ _ _ h1 h2
        by_cases e3 : a = e
        · have h3 : l1 a e = true := h3
          rw [e3, T1.irr] at h3
          cases h3
        · rw [if_neg e3]
          exact h3
def ltI (i j : Int) : Bool := decide (i < j)
theorem totI : TotB ltI := ⟨fun x => decide_eq_false (Int.lt_irrefl x), fun x y => by unfold ltI; simp only [decide_eq_true_eq]; omega, fun x y z => by unfold ltI; simp only [decide_eq_true_eq]; omega⟩
def ltS (x y : Str) : Bool := decide (x.cps.toList < y.cps.toList)
theorem totS : TotB ltS := by
  refine ⟨fun x => decide_eq_false (List.lt_irrefl _), fun x y => ?_, fun x y z h1 h2 => ?_⟩
  · unfold ltS
    simp only [decide_eq_true_eq]
    by_cases h1 : x.cps.toList < y.cps.toList
    · exact .inr (.inl h1)
    · by_cases h2 : y.cps.toList < x.cps.toList
      · exact .inr (.inr h2)
      · refine .inl ?_
        have e := List.le_antisymm (List.not_lt.mp h2) (List.not_lt.mp h1)
        obtain ⟨⟨a⟩⟩ := x
        obtain ⟨⟨b⟩⟩ := y
        have e : a = b := e
        rw [e]
  · unfold ltS at h1 h2 ⊢
    rw [decide_eq_true_eq] at h1 h2 ⊢
    exact List.lt_trans h1 h2
def kL (t : T4 Str Str Int Int) : Str × (Str × (Int × Int)) := (t.a, t.b, t.c, t.d)
def ltL (p q : T4 Str Str Int Int) : Bool := lx ltS (lx ltS (lx ltI ltI)) (kL p) (kL q)
theorem totL : TotB ltL := (totS.lx (totS.lx (totI.lx totI))).map kL fun x y h => by
  obtain ⟨a, b, c, d⟩ := x
  obtain ⟨a', b', c', d'⟩ := y
  injection h with h1 h2
  injection h2 with h2 h3
  injection h3 with h3 h4
  subst h1 h2 h3 h4
  rfl
abbrev LkT := T4 Str Str Int Int
def IsLk (h : PySem.Heap) (v : Value) (p : LkT) : Prop := ∃ a o t1 t2 t3 t4 n, v = .ref a ∧ h.get? a = some o ∧ o.cls = .type "tuple" ∧ o.data = .seq #[.str p.a t1, .str p.b t2, .int p.c t3, .int p.d t4] n
theorem IsLk.keeps {h h' : PySem.Heap} {v : Value} {p : LkT} (l : IsLk h v p) (k : ∀ b o, h.get? b = some o → o.cls = .type "tuple" → h'.get? b = some o) : IsLk h' v p := by
  obtain ⟨a, o, t1, t2, t3, t4, n, e, ho, hc, hd⟩ := l
  exact ⟨a, o, t1, t2, t3, t4, n, e, k _ _ ho hc, hc, hd⟩
section
variable {prog : Program} {w : World} {A : Around} {E : Value → Shared → Prop} {s : Shared}
theorem link_cmp {vs : List Value} {k : Value → LkT} (hp : ∀ v ∈ vs, IsLk s.heap v (k v)) : SrtO.Cmp prog w A s (tuples' true) (fun p => p.1 ∈ vs) (SrtO.lt2 fun v u => ltL (k v) (k u)) := by
  intro p q hm hm'
  have h1 := hp _ hm
  have h2 := hp _ hm'
  show wpAny (model prog w) A (keyLt' (tuples' true) p.1 q.1) (fun r s' => s' = s ∧ r = ltL (k p.1) (k q.1)) (fun _ _ => False) s
  generalize k p.1 = x at h1 ⊢
  generalize k q.1 = y at h2 ⊢
  obtain ⟨xa, xb, xc, xd⟩ := x
  obtain ⟨ya, yb, yc, yd⟩ := y
  obtain ⟨a, o, t1, t2, t3, t4, n, e, ho, hc, hd⟩ := h1
  obtain ⟨a', o', u1, u2, u3, u4, n', e', ho', hc', hd'⟩ := h2
  rw [e, e']
  refine PySem.W.kat_lt ho hd ho' hd' ?_
  show PySem.W.KatLex prog w A true (decide (4 < 4)) _ [(.str xa t1, .str ya u1), (.str xb t2, .str yb u2), (.int xc t3, .int yc u3), (.int xd t4, .int yd u4)] 0 s
  have bs : ∀ {i : Nat} {x y : Str}, (x == y) = true → x = y := fun h => eq_of_beq h
  have bn : ∀ {x y : Str}, (x == y) = false → ¬ x = y := fun h e => by rw [e] at h; simp at h
  have l1 : ∀ {r r' : Str × (Int × Int)}, ltL ⟨xa, xb, xc, xd⟩ ⟨ya, yb, yc, yd⟩ = if xa = ya then (if xb = yb then (if xc = yc then ltI xd yd else ltI xc yc) else ltS xb yb) else ltS xa ya := rfl
  have l1 := @l1 (xb, xc, xd) (xb, xc, xd)
  refine PySem.W.kat_cons (SeqAt.EqAt.str_str xa t1 ya u1 prog w _ _ ?_)
  refine PySem.W.kat_go (fun e1 => ?_) (fun e1 => ?_)
  · rw [if_pos (eq_of_beq e1)] at l1
    refine PySem.W.kat_yes (PySem.W.kat_cons (SeqAt.EqAt.str_str xb t2 yb u2 prog w _ _ ?_))
    refine PySem.W.kat_go (fun e2 => ?_) (fun e2 => ?_)
    · rw [if_pos (eq_of_beq e2)] at l1
      refine PySem.W.kat_yes (PySem.W.kat_cons (SeqAt.EqAt.int_int xc t3 yc u3 prog w _ _ ?_))
      refine PySem.W.kat_go (fun e3 => ?_) (fun e3 => ?_)
      · rw [if_pos (eq_of_beq e3)] at l1
        refine PySem.W.kat_yes (PySem.W.kat_cons (SeqAt.EqAt.int_int xd t4 yd u4 prog w _ _ ?_))
        refine PySem.W.kat_go (fun e4 => ?_) (fun e4 => ?_)
        · have e5 : ltI xd yd = false := by rw [eq_of_beq e4]; exact totI.irr _
          refine PySem.W.kat_yes (PySem.W.kat_nil ⟨rfl, ?_⟩)
          rw [l1, e5]
          rfl
        · refine PySem.W.kat_no (PySem.W.kat_one _ _ (PyProof.Rows.lt_int ?_))
          exact (show s = s ∧ decide (xd < yd) = ltL ⟨xa, xb, xc, xd⟩ ⟨ya, yb, yc, yd⟩ from ⟨rfl, l1.symm⟩)
      · have n3 : ¬ xc = yc := fun z => by rw [z] at e3; simp at e3
        rw [if_neg n3] at l1
        refine PySem.W.kat_no (PySem.W.kat_one _ _ (PyProof.Rows.lt_int ?_))
        exact (show s = s ∧ decide (xc < yc) = ltL ⟨xa, xb, xc, xd⟩ ⟨ya, yb, yc, yd⟩ from ⟨rfl, l1.symm⟩)
    · rw [if_neg (bn e2)] at l1
      refine PySem.W.kat_no (PySem.W.kat_one _ _ (PyProof.Rows.lt_str ?_))
      exact (show s = s ∧ decide (xb.cps.toList < yb.cps.toList) = ltL ⟨xa, xb, xc, xd⟩ ⟨ya, yb, yc, yd⟩ from ⟨rfl, l1.symm⟩)
  · rw [if_neg (bn e1)] at l1
    exact PySem.W.kat_no (PyProof.Rows.oneLt_str ⟨rfl, l1.symm⟩)
theorem link_firsts {h : PySem.Heap} : ∀ {vs : List Value}, (∀ v ∈ vs, ∃ p, IsLk h v p) → ∃ fs : List Value, PySem.W.KatTups h vs fs ∧ fs.length = vs.length ∧ ∀ f ∈ fs, ∃ x t, f = Value.str x t
  | [], _ => ⟨[], PySem.W.KatTups.nil, rfl, fun _ hm => by simp at hm⟩
  | v :: vs, hp => by
    obtain ⟨fs, h1, h2, h3⟩ := link_firsts (vs := vs) fun v' hm => hp v' (List.mem_cons_of_mem _ hm)
    obtain ⟨p, a, o, t1, t2, t3, t4, n, e, ho, hc, hd⟩ := hp v (List.mem_cons_self ..)
    subst e
    refine ⟨.str p.a t1 :: fs, PySem.W.KatTups.cons ho hc hd rfl h1, by rw [List.length_cons, List.length_cons, h2], fun f hm => ?_⟩
    rcases List.mem_cons.mp hm with rfl | hm
    · exact ⟨_, _, rfl⟩
    · exact h3 f hm
theorem links_sortable {a : Addr} {vs : List Value} {k : Value → LkT} (h0 : 0 < vs.length) (hp : ∀ v ∈ vs, IsLk s.heap v (k v)) (ha : ∀ o, s.heap.get? a = some o → o.cls ≠ .type "tuple") : SrtO.SortableO prog w A s a vs fun v u => ltL (k v) (k u) := by
  intro h' keep
  have hp' : ∀ v ∈ vs, IsLk h' v (k v) := fun v hm => (hp v hm).keeps fun b o e c => keep b o (fun z => by subst z; exact ha o e c) e
  obtain ⟨fs, h1, h2, h3⟩ := link_firsts fun v hm => ⟨_, hp' v hm⟩
  refine ⟨tuples' true, fun Q E hq => ?_, link_cmp hp'⟩
  refine PySem.W.kat_kind (T := .type "str") h1 (by omega) (fun f hm => ?_) (by rfl) ?_
  · obtain ⟨x, t, rfl⟩ := h3 f hm
    exact PySem.W.Looks.now
  · have e : (Value.type "str" != Value.type "tuple") = true := by first | decide +kernel | rfl | decide
    rw [e]
    exact hq
theorem sorted_links {l : Addr} {vs : List Value} {k : Value → LkT} {Q : Value → Shared → Prop} (hl : s.heap.IsList l vs.toArray) (hz : vs.length ≤ sizeLine) (hp : ∀ v ∈ vs, IsLk s.heap v (k v))
    (h : ∀ (h' : PySem.Heap) (d : Addr) (out : List Value), SrtO.Srtd (fun v u => ltL (k v) (k u)) out → SrtO.Stb (fun v u => ltL (k v) (k u)) out vs → (∀ b o, s.heap.get? b = some o → h'.get? b = some o) → s.heap.objs.size ≤ d → (∃ n, h'.get? d = some (seqObj "list" out.toArray n)) → Q (.ref d) { s with heap := h' }) :
    wpAny (model prog w) A (call (.builtin "sorted") [.ref l]) Q E s := by
  refine SrtO.sorted_ord (ltv := fun v u => ltL (k v) (k u)) ?_ hl hz (fun h2 h₁ a ha kk => ?_) fun out hs hb => ?_
  · have S := totL.swo
    exact ⟨fun x y => S.asym (k x) (k y), fun x y z => S.tr (k x) (k y) (k z)⟩
  · refine links_sortable (s := { s with heap := h₁ }) (by omega) (fun v hm => (hp v hm).keeps fun b o e _ => (kk b o e).2) fun o e => ?_
    have e' : some o = some (seqObj "list" vs.toArray 0) := e.symm.trans ha
    cases e'
    intro c
    exact absurd (Value.type.inj c) (by decide)
  · exact h _ _ out hs hb (fun b o e => sortedAll_old e) (Nat.le_succ _) (sortedAll_at s.heap vs out.toArray)
end
def rSortedL0 (K : PySem.W.Frag) : List V → Hp → VK → Prop := fun vs H Q => ∃ (a : Addr) (xs : List V) (k : V → LkT), vs = [V.ref a] ∧ SqL K H a xs ∧ (∀ x ∈ xs, ∃ t, x = V.ref t ∧ SqT K H t [.str (k x).a, .str (k x).b, .int (k x).c, .int (k x).d]) ∧
  ∀ ys p, SrtO.Srtd (fun v u => ltL (k v) (k u)) ys → ys.Perm xs → H p = none → Q (.ref p) (upd H p (.lst ys))
theorem cr_sortedL0 {X : Cx} (K : PySem.W.Frag) (hK : X.K = K := by rfl) : CallR X (.builtin "sorted") (rSortedL0 K) := by
  subst hK
  intro pins s σ H vs us Q I r h
  obtain ⟨a, xs, k, rfl, hs, hx, q⟩ := h
  obtain ⟨its, rv, hl, hz⟩ := I.list hs
  obtain ⟨u, rfl, ru⟩ := vals1 r
  obtain rfl : u = Value.ref a := ru
  obtain ⟨e1, e2⟩ := refs_back rv fun x m => by
    obtain ⟨t, e, _⟩ := hx x m
    exact ⟨t, e⟩
  refine sorted_links (k := fun u => k (backV u)) hl.isList (by rw [← rv.length]; exact hz) (fun v hv => ?_) fun h' d out h1 h2 kp hd hn => ?_
  · obtain ⟨t, rfl⟩ := e2 v hv
    have hm : V.ref t ∈ xs := by rw [e1]; exact List.mem_map.mpr ⟨_, hv, rfl⟩
    obtain ⟨t', e, ht⟩ := hx _ hm
    cases e
    obtain ⟨its2, r2, ⟨o, ho, hc, n, hd⟩, _⟩ := I.tuple ht
    cases r2 with
    | cons r1 r2 => cases r2 with
      | cons r2 r3 => cases r3 with
        | cons r3 r4 => cases r4 with
          | cons r4 r5 =>
            cases r5
            obtain ⟨t1, rfl⟩ := r1
            obtain ⟨t2, rfl⟩ := r2
            obtain ⟨t3, rfl⟩ := r3
            obtain ⟨t4, rfl⟩ := r4
            exact ⟨t, o, t1, t2, t3, t4, n, rfl, ho, hc, hd⟩
  · have h3 : ∀ u ∈ out, ∃ a, u = Value.ref a := fun u hu => e2 u (h2.perm.mem_iff.mp hu)
    obtain ⟨n, hn⟩ := hn
    have hp : (out.map backV).Perm xs := by
      rw [e1]
      exact h2.perm.map _
    refine ⟨.ref d, upd H d (.lst (out.map backV)), I.laid (t' := s.toks) kp hd ⟨?_, out, n, vals_back h3, hn⟩, rfl, q _ d ?_ hp (I.hok.fresh hd)⟩
    · rw [hp.length_eq]
      exact hz
    · exact List.pairwise_map.mpr (List.Pairwise.imp (fun h => h) h1)
def LkR (K : PySem.W.Frag) (H : Hp) (x : V) (t : LkT) : Prop := ∃ p, x = V.ref p ∧ SqT K H p [.str t.a, .str t.b, .int t.c, .int t.d]
def rSortedL (K : PySem.W.Frag) : List V → Hp → VK → Prop := fun vs H Q => ∃ (a : Addr) (xs : List V) (ts : List LkT) (R : V → LkT → Prop), vs = [V.ref a] ∧ SqL K H a xs ∧ Paired R xs ts ∧ (∀ x t, R x t → LkR K H x t) ∧
  ∀ ys us p, Paired R ys us → SrtO.Srtd ltL us → us.Perm ts → H p = none → Q (.ref p) (upd H p (.lst ys))
theorem paired_mapf {α β : Type} {F : α → β → Prop} {f : α → β} : ∀ {l : List α}, (∀ x ∈ l, F x (f x)) → Paired F l (l.map f)
  | [], _ => .nil
  | x :: r, h => .cons (h x List.mem_cons_self) (paired_mapf fun y hy => h y (List.mem_cons_of_mem _ hy))
theorem paired_eqf {α β : Type} {F : α → β → Prop} {f : α → β} (h : ∀ x y, F x y → y = f x) : ∀ {l : List α} {r : List β}, Paired F l r → r = l.map f
  | _, _, .nil => rfl
  | _, _, .cons a t => by rw [List.map_cons, ← paired_eqf h t, h _ _ a]
theorem paired_left {α β : Type} {F : α → β → Prop} : ∀ {l : List α} {r : List β}, Paired F l r → ∀ x ∈ l, ∃ y, F x y
  | _, _, .nil, x, h => nomatch h
  | _, _, .cons a t, x, h => by
    rcases List.mem_cons.mp h with rfl | h
    · exact ⟨_, a⟩
    · exact paired_left t x h
open Classical in
theorem cr_sortedL {X : Cx} (K : PySem.W.Frag) (hK : X.K = K := by rfl) : CallR X (.builtin "sorted") (rSortedL K) := by
  subst hK
  intro pins s σ H vs us Q I r h
  obtain ⟨a, xs, ts, R, rfl, hs, hp, hR, q⟩ := h
  have un : ∀ x t t', LkR X.K H x t → LkR X.K H x t' → t' = t := fun x t t' ⟨p, e, h1⟩ ⟨p', e', h2⟩ => by
    rw [e] at e'
    cases e'
    have := I.tuple_inj h1 h2
    obtain ⟨a1, b1, c1, d1⟩ := t
    obtain ⟨a2, b2, c2, d2⟩ := t'
    simp only [List.cons.injEq, V.str.injEq, V.int.injEq, and_true] at this
    obtain ⟨rfl, rfl, rfl, rfl⟩ := this
    rfl
  let k : V → LkT := fun x => if h : ∃ t, LkR X.K H x t then h.choose else ⟨"", "", 0, 0⟩
  have hk : ∀ x t, LkR X.K H x t → t = k x := fun x t ht => by
    have ex : ∃ t, LkR X.K H x t := ⟨t, ht⟩
    show t = if h : ∃ t, LkR X.K H x t then h.choose else ⟨"", "", 0, 0⟩
    rw [dif_pos ex]
    exact un _ _ _ ex.choose_spec ht
  have hr : ∀ x ∈ xs, R x (k x) := fun x hx => by
    obtain ⟨t, ht⟩ := paired_left hp x hx
    rw [← hk x t (hR x t ht)]
    exact ht
  refine cr_sortedL0 X.K rfl pins s σ H _ us Q I r ⟨a, xs, k, rfl, hs, fun x hx => ?_, fun ys p h1 h2 h3 => ?_⟩
  · obtain ⟨p, e, h⟩ := hR _ _ (hr x hx)
    exact ⟨p, e, h⟩
  · refine q ys (ys.map k) p (paired_mapf fun y hy => hr y (h2.mem_iff.mp hy)) ?_ ?_ h3
    · exact List.pairwise_map.mpr (List.Pairwise.imp (fun h => h) h1)
    · rw [paired_eqf (fun x t h => hk x t (hR x t h)) hp]
      exact h2.map _
def srt {α : Type} (lt : α → α → Bool) (xs : List α) : List α := xs.mergeSort fun x y => !lt y x
theorem srt_is {α : Type} {lt : α → α → Bool} (T : TotB lt) {us ts : List α} (h1 : SrtO.Srtd lt us) (h2 : us.Perm ts) : us = srt lt ts := by
  have p2 : (srt lt ts).Perm ts := List.mergeSort_perm ts _
  have s2 : SrtO.Srtd lt (srt lt ts) := by
    have := List.pairwise_mergeSort (le := fun x y => !lt y x) (fun a b c h1 h2 => by
      have h1 : (!lt b a) = true := h1
      have h2 : (!lt c b) = true := h2
      show (!lt c a) = true
      rw [Bool.not_eq_true'] at h1 h2 ⊢
      exact T.swo.tr a b c h1 h2) (fun a b => by
      show (!lt b a || !lt a b) = true
      cases h : lt b a with
      | false => rfl
      | true => rw [T.asym h]; rfl) ts
    exact List.Pairwise.imp (fun h => by simpa using h) this
  refine List.Perm.eq_of_pairwise (le := fun x y => lt y x = false) (fun a b _ _ h1 h2 => ?_) h1 s2 (h2.trans p2.symm)
  rcases T.tri a b with h | h | h
  · exact h
  · rw [h] at h2; cases h2
  · rw [h] at h1; cases h1
section
variable {K : PySem.W.Frag} {B : Addr → Prop} {ρ : List Slot} {te : TE}
theorem d_sortL {ts : List LkT} (h : DE K B te ρ (α := L LkT) ts) : DO K B (tCB (rSortedL K) (tCons te tNil)) ρ (srt ltL ts) := fun S0 H0 S H σ E Q q =>
  h S0 H0 S H σ E _ fun v S1 H1 e1 ⟨hl, p, vs, z, hh, r⟩ => by
    refine ⟨p, vs, ts, Enc.rep K S1, by rw [z], SqL.of (e1.i _ _ hh), r, fun x t hx => ?_, fun ys us w h1 h2 h3 hn => ?_⟩
    · obtain ⟨p, v1, v2, v3, v4, e, hq, r1, r2, r3, r4⟩ := hx
      cases r1
      cases r2
      cases r3
      cases r4
      exact ⟨p, e, Evl.ex_t e1.i hq⟩
    · have e := srt_is totL h2 h3
      subst e
      exact q w _ S1 _ (e1.trans (Ext.priv e1.i hn)) (e1.free E.i hn) (e1.i.free hn) upd_same h1 (by rw [h3.length_eq]; exact hl)
end
end WW
set_option Elab.async false
set_option linter.all false
set_option maxRecDepth 100000
set_option maxHeartbeats 4000000
namespace WW
open PySem PySem.Spec PyProof.Rows L2
theorem holdStrs {h : PySem.Heap} : ∀ {its : List Value} {zs : List Str}, StrsAre its zs → PySem.W.HoldAll h its zs
  | _, [], .nil => PySem.W.HoldAll.nil
  | _, _ :: _, .cons y t r => PySem.W.HoldAll.cons (PySem.W.holds_str _ _) (holdStrs r)
def minS (z : Str) (zs : List Str) : Str := zs.foldl (fun a y => if ltS y a = true then y else a) z
theorem minS_is : ∀ {zs : List Str} {z : Str}, minS z zs ∈ z :: zs ∧ ∀ y ∈ z :: zs, ltS y (minS z zs) = false
  | [], z => ⟨List.mem_cons_self, fun y hy => by rw [List.mem_singleton.mp hy]; exact totS.irr _⟩
  | x :: r, z => by
    show minS (if ltS x z = true then x else z) r ∈ z :: x :: r ∧ _
    obtain ⟨h1, h2⟩ := minS_is (zs := r) (z := if ltS x z = true then x else z)
    have h3 := h2 _ List.mem_cons_self
    have e : minS z (x :: r) = minS (if ltS x z = true then x else z) r := rfl
    rw [e]
    generalize minS (if ltS x z = true then x else z) r = m at *
    refine ⟨?_, fun y hy => ?_⟩
    · rcases List.mem_cons.mp h1 with h | h
      · rw [h]
        split
        · exact List.mem_cons_of_mem _ List.mem_cons_self
        · exact List.mem_cons_self
      · exact List.mem_cons_of_mem _ (List.mem_cons_of_mem _ h)
    · by_cases c : ltS x z = true
      · rw [if_pos c] at h3
        rcases List.mem_cons.mp hy with rfl | hy
        · exact totS.swo.tr m x y h3 (totS.asym c)
        · rcases List.mem_cons.mp hy with rfl | hy
          · exact h3
          · exact h2 y (List.mem_cons_of_mem _ hy)
      · rw [if_neg c] at h3
        have c : ltS x z = false := by simpa using c
        rcases List.mem_cons.mp hy with rfl | hy
        · exact h3
        · rcases List.mem_cons.mp hy with rfl | hy
          · exact totS.swo.tr m z y h3 c
          · exact h2 y (List.mem_cons_of_mem _ hy)
def rMinS (K : PySem.W.Frag) : List V → Hp → VK → Prop := fun vs H Q => ∃ (a : Addr) (z : Str) (zs : List Str), vs = [V.ref a] ∧ SqL K H a ((z :: zs).map V.str) ∧ Q (.str (minS z zs)) H
theorem cr_minS {X : Cx} (K : PySem.W.Frag) (hc : X.calm = true) (hu : X.A.units + 64 < cLine) (hK : X.K = K := by rfl) : CallR X (.builtin "min") (rMinS K) := by
  subst hK
  intro pins s σ H vs us Q I r h
  obtain ⟨a, z, zs, rfl, hs, q⟩ := h
  obtain ⟨its, rv, hl, _⟩ := I.list hs
  rw [Vals.ref1 r]
  have st := Vals.strs rv
  refine PySem.W.min_list_datum (x := z) (xs := zs) (I.ok.hd hc) hl.isList (holdStrs st) (by show X.A.units + 1 + 0 < cLine; omega) fun i v h' tk hi hv hk => ?_
  obtain ⟨as, rd⟩ := hv
  have e : PySem.W.minOf z zs = minS z zs := rfl
  rw [e] at rd
  have rd : PySem.Reads h' v (.str (minS z zs)) as := rd
  cases rd
  exact ⟨.str _, H, I.kept hk, ⟨_, rfl⟩, q⟩
theorem rising_srt : ∀ {r : List Str} {x : Str}, risingS x r = true → SrtO.Srtd ltS (x :: r)
  | [], x, _ => List.pairwise_singleton _ _
  | y :: r, x, h => by
    have h : (!ltCps y.cps.toList x.cps.toList && risingS y r) = true := h
    rw [Bool.and_eq_true, ltCps_eq] at h
    obtain ⟨h1, h2⟩ := h
    have h1 : ltS y x = false := by simpa [ltS] using h1
    have ih := rising_srt h2
    refine List.pairwise_cons.mpr ⟨fun z hz => ?_, ih⟩
    rcases List.mem_cons.mp hz with rfl | hz
    · exact h1
    · exact totS.swo.tr x y z h1 ((List.pairwise_cons.mp ih).1 z hz)
theorem sortedS_srt {ys : List Str} (h : sortedS ys = true) : SrtO.Srtd ltS ys := by
  cases ys with
  | nil => exact List.Pairwise.nil
  | cons x r => exact rising_srt h
theorem cr_sortedSK {X : Cx} (K : PySem.W.Frag) (hK : X.K = K := by rfl) : CallR X (.builtin "sorted") (rSortedS K) := by
  subst hK
  exact cr_sortedS
section
variable {K : PySem.W.Frag} {B : Addr → Prop} {ρ : List Slot} {te : TE}
theorem d_sortS {zs : List Str} (h : DE K B te ρ (α := L Str) zs) (h64 : zs.length < 64) : DO K B (tCB (rSortedS K) (tCons te tNil)) ρ (srt ltS zs) := fun S0 H0 S H σ E Q q =>
  h S0 H0 S H σ E _ fun v S1 H1 e1 ⟨hl, p, vs, e, hh, r⟩ => by
    cases vals_str r
    refine ⟨p, zs, by rw [e], SqL.of (e1.i _ _ hh), h64, fun ys w h1 h2 hn => ?_⟩
    have e := srt_is totS (sortedS_srt h2) h1
    subst e
    exact q w _ S1 _ (e1.trans (Ext.priv e1.i hn)) (e1.free E.i hn) (e1.i.free hn) upd_same (paired_map V.str (fun _ => rfl) _) (by rw [h1.length_eq]; exact hl)
theorem d_minS {z : Str} {zs : List Str} (h : DE K B te ρ (α := L Str) (z :: zs)) : DE K B (tCB (rMinS K) (tCons te tNil)) ρ (minS z zs) := fun S0 H0 S H σ E Q q =>
  h S0 H0 S H σ E _ fun v S1 H1 e1 ⟨hl, p, vs, e, hh, r⟩ => by
    cases vals_str r
    exact ⟨p, z, zs, by rw [e], SqL.of (e1.i _ _ hh), q _ S1 H1 e1 rfl⟩
end
end WW
set_option Elab.async false
set_option linter.all false
set_option maxRecDepth 100000
set_option maxHeartbeats 4000000
namespace WW
open PySem PySem.Spec PyProof.Rows L2
structure MOb where
  m : DMd
instance : Enc MOb where
  rep K S v o := ∃ x dx v1 v2 v3 v4 v5, v = .ref x ∧ S x = some (.ins (He.ga K "Module") dx [("name", .str o.m.n), ("inlets", v1), ("outlets", v2), ("stations", v3), ("links", v4), ("calls", v5)]) ∧
    Enc.rep K S v1 (show U Str from o.m.i) ∧ Enc.rep K S v2 (show U Str from o.m.o) ∧ Enc.rep K S v3 (show U Str from o.m.s) ∧ Enc.rep K S v4 (show U Lk from o.m.l) ∧ Enc.rep K S v5 (show U (Str × Str) from o.m.c)
  mono e h := by
    obtain ⟨x, dx, v1, v2, v3, v4, v5, z, hx, h1, h2, h3, h4, h5⟩ := h
    exact ⟨x, dx, v1, v2, v3, v4, v5, z, e _ _ hx, Enc.mono e h1, Enc.mono e h2, Enc.mono e h3, Enc.mono e h4, Enc.mono e h5⟩
instance : NotN MOb := ⟨fun h => by obtain ⟨x, _, _, _, _, _, _, rfl, _⟩ := h; exact fun z => nomatch z⟩
instance : OfCls MOb where
  cn := "Module"
  fl := ["name", "inlets", "outlets", "stations", "links", "calls"]
  is h := by
    obtain ⟨x, dx, _, _, _, _, _, rfl, hx, _⟩ := h
    exact ⟨x, dx, _, rfl, hx, rfl⟩
section
variable {K : PySem.W.Frag} {B : Addr → Prop} {ρ : List Slot} {te : TE} {o : MOb} {C : Addr}
theorem d_mname (MC : ModC K (He.ga K "Module")) (h : DE K B te ρ o) : DE K B (tFld K te "name") ρ o.m.n := fun S0 H0 S H σ E Q q =>
  h S0 H0 S H σ E _ fun v S1 H1 e1 ⟨x, dx, v1, v2, v3, v4, v5, z, hx, h1, h2, h3, h4, h5⟩ => ⟨x, _, dx, _, _, z, e1.i _ _ hx, MC.cls, MC.n, rfl, q _ S1 H1 e1 rfl⟩
theorem d_minlets (MC : ModC K (He.ga K "Module")) (h : DE K B te ρ o) : DE K B (tFld K te "inlets") ρ (α := U Str) o.m.i := fun S0 H0 S H σ E Q q =>
  h S0 H0 S H σ E _ fun v S1 H1 e1 ⟨x, dx, v1, v2, v3, v4, v5, z, hx, h1, h2, h3, h4, h5⟩ => ⟨x, _, dx, _, _, z, e1.i _ _ hx, MC.cls, MC.i, rfl, q _ S1 H1 e1 h1⟩
theorem d_moutlets (MC : ModC K (He.ga K "Module")) (h : DE K B te ρ o) : DE K B (tFld K te "outlets") ρ (α := U Str) o.m.o := fun S0 H0 S H σ E Q q =>
  h S0 H0 S H σ E _ fun v S1 H1 e1 ⟨x, dx, v1, v2, v3, v4, v5, z, hx, h1, h2, h3, h4, h5⟩ => ⟨x, _, dx, _, _, z, e1.i _ _ hx, MC.cls, MC.o, rfl, q _ S1 H1 e1 h2⟩
theorem d_mstations (MC : ModC K (He.ga K "Module")) (h : DE K B te ρ o) : DE K B (tFld K te "stations") ρ (α := U Str) o.m.s := fun S0 H0 S H σ E Q q =>
  h S0 H0 S H σ E _ fun v S1 H1 e1 ⟨x, dx, v1, v2, v3, v4, v5, z, hx, h1, h2, h3, h4, h5⟩ => ⟨x, _, dx, _, _, z, e1.i _ _ hx, MC.cls, MC.s, rfl, q _ S1 H1 e1 h3⟩
theorem d_mlinks (MC : ModC K (He.ga K "Module")) (h : DE K B te ρ o) : DE K B (tFld K te "links") ρ (α := U Lk) o.m.l := fun S0 H0 S H σ E Q q =>
  h S0 H0 S H σ E _ fun v S1 H1 e1 ⟨x, dx, v1, v2, v3, v4, v5, z, hx, h1, h2, h3, h4, h5⟩ => ⟨x, _, dx, _, _, z, e1.i _ _ hx, MC.cls, MC.l, rfl, q _ S1 H1 e1 h4⟩
theorem d_mcalls (MC : ModC K (He.ga K "Module")) (h : DE K B te ρ o) : DE K B (tFld K te "calls") ρ (α := U (Str × Str)) o.m.c := fun S0 H0 S H σ E Q q =>
  h S0 H0 S H σ E _ fun v S1 H1 e1 ⟨x, dx, v1, v2, v3, v4, v5, z, hx, h1, h2, h3, h4, h5⟩ => ⟨x, _, dx, _, _, z, e1.i _ _ hx, MC.cls, MC.c, rfl, q _ S1 H1 e1 h5⟩
structure ModOf (g : M6) (m : DMd) : Prop where
  n : g.n = .str m.n
  i : g.i.items = (strsA m.i).items
  o : g.o.items = (strsA m.o).items
  s : g.s.items = (strsA m.s).items
  l : g.l.items = (linksA m.l).items
  c : g.c.items = (callsA m.c).items
  sm : g.Sm
  w : wrongMod g = none
theorem repU {α : Type} [Enc α] [i : IsAV α] {S : Hp} {v : V} {xs : List α} (h : Enc.rep K S v (show U AV from xs.map i.av)) : Enc.rep K S v (show U α from xs) := by
  obtain ⟨hl, p, vs, e, hq, r⟩ := h
  have : AV.rep K S v (.tup (xs.map i.av)) := by
    rw [AV.rep]
    exact ⟨hl, p, vs, e, hq, AV.pr.mpr r⟩
  exact (IsAV.iff (α := U α)).mp this
theorem d_mkMod {t : TA} {g : M6} {m : DMd} {CI : Addr} {W : WX} (h : DA K B t ρ [.val g.n, .val g.i, .val g.o, .val g.s, .val g.l, .val g.c]) (hg : ModOf g m) : DE K B (tMakeS (He.ga K "Module") (spInitMod K (He.ga K "Module") CI) [] (WE W) t) ρ (MOb.mk m) := fun S0 H0 S H σ En Q q => by
  refine h S0 H0 S H σ En _ ?_
  intro vs S1 H1 e1 r1 x dx nx ndx hn
  have s1 : Same H1 (upd (upd H1 dx (.own x)) x (.ins (He.ga K "Module") dx [])) := (same_new ndx).trans (same_new ((upd_ne (Ne.symm hn)).trans nx))
  have sx : S1 x = none := e1.i.free nx
  have toE : ∀ (S2 H2 : Hp), Off x S1 (upd (upd H1 dx (.own x)) x (.ins (He.ga K "Module") dx [])) S2 H2 → Ext B S1 H1 S2 H2 := fun S2 H2 o => by
    refine ⟨o.s, o.i, fun a h1 h2 => ?_⟩
    have n1 : a ≠ x := fun z => h2 (by rw [z]; exact nx)
    have n2 : a ≠ dx := fun z => h2 (by rw [z]; exact ndx)
    have e : upd (upd H1 dx (.own x)) x (.ins (He.ga K "Module") dx []) a = H1 a := by rw [upd_ne n1, upd_ne n2]
    obtain ⟨q1, q2⟩ := o.p a h1 (by rw [e]; exact h2) n1
    exact ⟨q1, .inl (by rw [q2, e])⟩
  have av : ∀ {vs : List V} {ss : List Slot}, ArgsOk K B H1 S1 H1 vs ss → (∀ s ∈ ss, s.plain = true) → ArgsOk K noB (upd (upd H1 dx (.own x)) x (.ins (He.ga K "Module") dx [])) S1 (upd (upd H1 dx (.own x)) x (.ins (He.ga K "Module") dx [])) vs ss := by
    intro vs ss h
    induction h with
    | nil => exact fun _ => .nil
    | cons h1 h2 _ ih =>
      intro hp
      refine .cons ?_ h2 (ih fun s hs => hp s (List.mem_cons_of_mem _ hs))
      have := hp _ List.mem_cons_self
      rename_i v s vs ss _
      cases s with
      | no => trivial
      | val a => exact h1
      | _ => cases this
  rw [List.append_nil]
  refine ⟨S1, x, dx, g, e1.i.trans s1, sx, upd_same, .cons rfl rfl (av r1 (by simp [Slot.plain])), hg.sm, fun C fs d S2 H2 hX e2 nd hd => ?_, fun hw S2 H2 fs of hxx hF => ⟨rfl, ?_⟩⟩
  · obtain ⟨_, wd, hw, _⟩ := hX
    rw [hg.w] at hw
    cases hw
  · have ee := toE S2 H2 of
    have fz := ee.frz (p := x) nx e1.i hxx of.x0
    have up : Same S2 (upd S2 x (.ins (He.ga K "Module") dx fs)) := same_new of.x0
    obtain ⟨v0, v1, v2, v3, v4, v5, rfl, h0, h1, h2, h3, h4, h5⟩ := hF
    rw [hg.n] at h0
    have h0 : v0 = .str m.n := by rw [AV.rep] at h0; exact h0
    subst h0
    rw [hg.i] at h1
    rw [hg.o] at h2
    rw [hg.s] at h3
    rw [hg.l] at h4
    rw [hg.c] at h5
    exact q _ _ H2 (e1.trans fz) ⟨x, dx, v1, v2, v3, v4, v5, rfl, upd_same, Enc.mono up (repU (α := Str) h1), Enc.mono up (repU (α := Str) h2), Enc.mono up (repU (α := Str) h3), Enc.mono up (repU (α := Lk) h4), Enc.mono up (repU (α := Str × Str) h5)⟩
end
end WW
set_option Elab.async false
set_option linter.all false
set_option maxRecDepth 100000
set_option maxHeartbeats 4000000
namespace WW
open PySem PySem.Spec PyProof.Rows L2
structure KSet where
  has : Str → Bool
instance : Enc KSet where
  rep K S v k := ∃ p kvs, v = .ref p ∧ S p = some (.dK kvs) ∧ ∀ z, (valV kvs (Sum.inr z)).isSome = k.has z
  mono e h := by
    obtain ⟨p, kvs, r, hq, hp⟩ := h
    exact ⟨p, kvs, r, e _ _ hq, hp⟩
def ownM (n : Nat) (f : Str → Option Str) : OwnP := ⟨fun K S o => ∃ kvs, o = .dK kvs ∧ kvs.length ≤ n ∧ ∀ z, valV kvs (Sum.inr z) = (f z).map V.str, fun e ⟨kvs, r, l, h⟩ => ⟨kvs, r, l, h⟩⟩
theorem putK_le {k : Key} {x : V} {kvs : List (Key × V)} : (putK kvs k x).length ≤ kvs.length + 1 := by
  unfold putK
  by_cases e : (kvs.any fun kv => decide (kv.1 = k)) = true
  · rw [if_pos e, List.length_map]
    omega
  · rw [if_neg e, List.length_append]
    simp
section
variable {K : PySem.W.Frag} {B : Addr → Prop} {ρ ρ' ρ1 ρ2 : List Slot} {ta tb tc td te tk tv : TE} {t u : TT} {ts tu tz : TS} {Φ : Post} {α β γ δ : Type} {e_α : Enc α} {e_β : Enc β} {a : α} {b : β} {i j : Int} {z y : Str}
def DJs (K : PySem.W.Frag) (B : Addr → Prop) (js : List TE) (ρ : List Slot) (zs : List Str) : Prop := ∀ S0 H0 S H σ, En K B S0 H0 S H σ ρ → ∀ (acc : Str) (Q : Str → Hp → Prop), acc.length + (zs.map (·.length)).sum ≤ BIG → (∀ S' H', Ext B S H S' H' → Q (zs.foldl (· ++ ·) acc) H') → tJs js acc σ H Q
theorem dj_nil : DJs K B [] ρ [] := fun S0 H0 S H σ E acc Q l q => q S H (Ext.refl E.i)
theorem str_app_len (a b : Str) : (a ++ b).length = a.length + b.length := by
  show (a.cps ++ b.cps).size = _
  rw [Array.size_append]
  rfl
theorem dj_cons {js : List TE} {zs : List Str} (h : DE K B te ρ z) (hr : DJs K B js ρ zs) : DJs K B (te :: js) ρ (z :: zs) := fun S0 H0 S H σ E acc Q l q =>
  h S0 H0 S H σ E _ fun v S1 H1 e1 r1 => by
    rw [List.map_cons, List.sum_cons] at l
    refine ⟨z, r1, by rw [str_app_len]; exact Nat.le_trans (by omega) big_line, hr S0 H0 S1 H1 σ (E.go e1) (acc ++ z) Q (by rw [str_app_len]; omega) fun S2 H2 e2 => q S2 H2 (e1.trans e2)⟩
theorem d_fmtS (h : DE K B te ρ z) (hl : z.length ≤ BIG) : DE K B (tFmt te) ρ z := fun S0 H0 S H σ E Q q =>
  h S0 H0 S H σ E _ fun v S1 H1 e1 r1 => .inl ⟨z, r1, Nat.le_trans hl big_line, q _ S1 H1 e1 rfl⟩
theorem d_joined {js : List TE} {zs : List Str} (h : DJs K B js ρ zs) (hl : (zs.map (·.length)).sum ≤ BIG) : DE K B (fun σ H Q => tJs js Str.empty σ H fun out H1 => Q (.str out) H1) ρ (zs.foldl (· ++ ·) Str.empty) := fun S0 H0 S H σ E Q q =>
  h S0 H0 S H σ E Str.empty _ (by show 0 + _ ≤ _; omega) fun S1 H1 e1 => q _ S1 H1 e1 rfl
theorem empty_app (a : Str) : Str.empty ++ a = a := by
  obtain ⟨a⟩ := a
  show (⟨#[] ++ a⟩ : Str) = ⟨a⟩
  rw [Array.empty_append]
theorem paired_rev {α β : Type} {F : α → β → Prop} : ∀ {l : List α} {r : List β}, Paired F l r → Paired F l.reverse r.reverse
  | _, _, .nil => .nil
  | _, _, .cons a t => by rw [List.reverse_cons, List.reverse_cons]; exact Paired.app (paired_rev t) (.cons a .nil)
theorem d_dcSet {wi : TI} {g : TG} {vs : List Nat} {xs : List α} (p : α → Bool) (f : α → Str) (hi : DI K B wi ρ xs) (hl : xs.length ≤ BIG)
    (h : ∀ x ∈ xs, ∃ ρ' js, DG K B g x (wipeS ρ vs) ρ' js ∧ (∀ i ∈ js, i ∈ vs) ∧ DT K B t ρ' (p x) ∧ (p x = true → DE K B tk ρ' (f x) ∧ DE K B tv ρ' true)) : DE K B (tDc wi g t tk tv vs) ρ (KSet.mk fun z => xs.any fun x => p x && decide (f x = z)) := by
  intro S0 H0 S H σ E Q q
  refine hi S0 H0 S H σ E _ fun J S1 H1 e1 y D hD => ?_
  have hD0 : H D = none := e1.free E.i hD
  have nB : ¬ B D := fun z => (E.bx D z).2.2 (E.ext.free E.i0 hD0)
  let Pv : Nat → Hp → Prop := fun i Hc => ∃ Sc kvs, Ext B S1 H1 Sc Hc ∧ Sc D = none ∧ Hc D = some (.dK kvs) ∧ kvs.length ≤ i ∧ ∀ z, (valV kvs (Sum.inr z)).isSome = (xs.take i).any fun x => p x && decide (f x = z)
  refine ⟨fun i m Hc => m = xs.length - i ∧ i ≤ xs.length ∧ Pv i Hc, ⟨xs.length, by simp, Nat.zero_le _, S1, [], Ext.priv e1.i hD, e1.i.free hD, upd_same, Nat.le_refl _, fun z => by rw [List.take_zero]; rfl⟩, ?_⟩
  rintro i m Hc ⟨rfl, hle, Sc, kvs, ex, hs, hh, kl, hv⟩
  have yy := y Sc Hc ex.s (E.ext.trans (e1.trans ex))
  by_cases hlt : i < xs.length
  · refine .inr ?_
    obtain ⟨x, hx⟩ : ∃ x, xs[i]? = some x := ⟨_, List.getElem?_eq_getElem hlt⟩
    obtain ⟨hgo, hy⟩ := yy.1 i x hx
    refine ⟨hgo, Pv (i + 1), fun H' hp => ⟨xs.length - (i + 1), by omega, rfl, hlt, hp⟩, fun v H' hyl => ?_⟩
    obtain ⟨S2, e2, r2⟩ := hy v H' hyl
    obtain ⟨ρ', js, hg, hjs, ht, he⟩ := h x (List.mem_of_getElem? hx)
    refine hg S0 H0 S2 H' (wipe σ vs) v ((E.go ((e1.trans ex).trans e2)).wp vs) r2 _ fun σ2 E2 l2 f2 => ⟨?_, ?_⟩
    · have z := wipe_eq (vs := vs) l2 fun i hi => f2 i fun z => hi (hjs i z)
      rw [z, wipe_wipe]
    · have st : ∀ S4 H4, Ext B Sc Hc S4 H4 → S4 D = none ∧ H4 D = some (.dK kvs) := fun S4 H4 e => by
        obtain ⟨q1, q2⟩ := e.p D hs (by rw [hh]; exact fun z => nomatch z)
        refine ⟨q1, ?_⟩
        rcases q2 with q2 | ⟨q2, _⟩
        · rw [q2]; exact hh
        · exact absurd q2 nB
      refine ht S0 H0 S2 H' σ2 E2 _ fun S3 H3 e3 => ?_
      cases hp : p x with
      | false =>
        obtain ⟨a1, a2⟩ := st S3 H3 (e2.trans e3)
        refine ⟨S3, kvs, ex.trans (e2.trans e3), a1, a2, Nat.le_succ_of_le kl, fun z => ?_⟩
        rw [List.take_add_one, hx, List.any_append, hv z]
        show _ = (_ || (p x && decide (f x = z) || false))
        rw [hp]
        simp
      | true =>
        obtain ⟨hk, hv2⟩ := he hp
        refine hk S0 H0 S3 H3 σ2 (E2.go e3) _ fun kk S4 H4 e4 r4 => ?_
        cases r4
        refine hv2 S0 H0 S4 H4 σ2 (E2.go (e3.trans e4)) _ fun w S5 H5 e5 r5 => ?_
        have e25 := ((e2.trans e3).trans e4).trans e5
        obtain ⟨a1, a2⟩ := st S5 H5 e25
        refine ⟨kvs, Sum.inr (f x), rfl, a2, ?_, S5, putK kvs (Sum.inr (f x)) w, (ex.trans e25).mut hD a1, a1, upd_same, ?_, fun z => ?_⟩
        · have := big_line
          omega
        · exact Nat.le_trans (putK_le) (Nat.succ_le_succ kl)
        · rw [valV_put, List.take_add_one, hx, List.any_append]
          show _ = (_ || (p x && decide (f x = z) || false))
          rw [hp, ← hv z]
          by_cases c : z = f x
          · subst c
            rw [if_pos rfl, decide_eq_true rfl]
            simp
          · rw [if_neg (fun e => c (by injection e)), decide_eq_false (fun e => c e.symm)]
            simp
  · refine .inl ⟨?_, ?_⟩
    · rw [show i = xs.length by omega]
      exact yy.2
    · rw [List.take_of_length_le (by omega)] at hv
      have fz : Ext B S H (upd Sc D (.dK kvs)) Hc := (e1.trans ex).frz hD0 E.i hh hs
      exact q _ _ Hc fz ⟨D, kvs, rfl, upd_same, hv⟩
theorem d_inK {k : KSet} (h1 : DE K B te ρ z) (h2 : DE K B td ρ k) : DE K B (tDIn te td) ρ (k.has z) := fun S0 H0 S H σ E Q q =>
  h1 S0 H0 S H σ E _ fun v S1 H1 e1 r1 => h2 S0 H0 S1 H1 σ (E.go e1) _ fun w S2 H2 e2 ⟨p, kvs, e, hq, hv⟩ => by
    cases r1
    refine ⟨p, valV kvs (Sum.inr z), e, DGet.k (k := Sum.inr z) (e2.i _ _ hq), ?_⟩
    rw [hv z]
    exact q _ S2 H2 (e1.trans e2) rfl
theorem dob_map : DOb K B tDNewK ρ (ownM 0 fun _ => none) := fun S0 H0 S H σ E Q q p hp => q p _ S _ (Ext.priv E.i hp) hp (E.i.free hp) upd_same ⟨[], rfl, Nat.le_refl _, fun z => rfl⟩
theorem ds_mput {n m : Nat} {f : Str → Option Str} (hn : ρ[n]? = some (.obj (ownM m f))) (hv : DE K B tv ρ y) (hk : DE K B tk ρ z) (hm : m < BIG) (k : Φ.nx (ρ.set n (.obj (ownM (m + 1) fun x => if x = z then some y else f x)))) : DS K B (sDPut (tVar n) tk tv) ρ Φ := fun S0 H0 S H σ D E px nx r b c => by
  refine hv S0 H0 S H σ E _ fun v S1 H1 e1 r1 => ?_
  cases r1
  obtain ⟨p, o, g1, h0, hs, hh, pr⟩ := (E.go e1).obj hn
  refine ⟨_, g1, ?_⟩
  refine hk S0 H0 S1 H1 σ (E.go e1) _ fun w S2 H2 e2 r2 => ?_
  cases r2
  have E2 := (E.go e1).go e2
  obtain ⟨p', o', g1', h0', hs', hh', kvs, rfl, kl, rr⟩ := E2.obj hn
  rw [g1] at g1'
  cases g1'
  refine ⟨p, _, rfl, DPut.k (k := Sum.inr z) hh' (by have := big_line; omega), ?_⟩
  refine nx _ σ S2 _ k (e1.s.trans e2.s) (E2.chgOb hn g1 ⟨_, rfl, Nat.le_trans (putK_le) (Nat.succ_le_succ kl), fun x => ?_⟩)
  rw [valV_put, rr x]
  by_cases c : x = z
  · subst c
    rw [if_pos rfl]
    show _ = Option.map V.str (if x = x then some y else f x)
    rw [if_pos rfl]
    rfl
  · rw [if_neg (fun e => c (by injection e))]
    show _ = Option.map V.str (if x = z then some y else f x)
    rw [if_neg c]
theorem d_mget {n m : Nat} {f : Str → Option Str} (hn : ρ[n]? = some (.obj (ownM m f))) (hk : DE K B tk ρ z) (hf : f z = some y) : DE K B (tDGet (tVar n) tk) ρ y := fun S0 H0 S H σ E Q q => by
  obtain ⟨p, o, g1, _⟩ := E.obj hn
  refine ⟨_, g1, hk S0 H0 S H σ E _ fun w S2 H2 e2 r2 => ?_⟩
  cases r2
  obtain ⟨p', o', g1', h0', hs', hh', kvs, rfl, kl, rr⟩ := (E.go e2).obj hn
  rw [g1] at g1'
  cases g1'
  have r := rr z
  rw [hf] at r
  refine ⟨p, .str y, rfl, ?_, q _ S2 H2 e2 rfl⟩
  show DGet H2 p (V.str z) (some (.str y))
  have g := DGet.k (k := Sum.inr z) hh'
  rw [r] at g
  exact g
theorem do_rev {xs : List α} (h : DE K B te ρ (α := L α) xs) : DO K B (tRevL K te) ρ xs.reverse := fun S0 H0 S H σ E Q q =>
  h S0 H0 S H σ E _ fun v S1 H1 e1 ⟨hl, p, vs, e, hq, r⟩ => ⟨p, vs, e, SqL.of (e1.i _ _ hq), fun w hw => q w vs.reverse S1 _ (e1.trans (Ext.priv e1.i hw)) (e1.free E.i hw) (e1.i.free hw) upd_same (paired_rev r) (by rw [List.length_reverse]; exact hl)⟩
end
end WW
set_option Elab.async false
set_option linter.all false
set_option maxRecDepth 100000
set_option maxHeartbeats 4000000
namespace WW
open PySem PySem.Spec PyProof.Rows L2
abbrev Shp := U Str × U LkT
def shOf (sh : List (Str × Shp)) (z : Str) : Shp := ((Dct.mk sh).get z).getD (([] : List Str), ([] : List LkT))
def ledL (a : Str) (k : LkT) : LkT := ⟨dotted a k.a, dotted a k.b, k.c, k.d⟩
def plOf (m : DMd) (sh : List (Str × Shp)) : List Str := (m.i ++ m.o ++ m.s) ++ m.c.flatMap fun t => List.map (dotted t.1) (shOf sh t.2).1
def lkOf (m : DMd) (sh : List (Str × Shp)) : List LkT := m.l ++ m.c.flatMap fun t => List.map (ledL t.1) (shOf sh t.2).2
def shapeM (m : DMd) (sh : List (Str × Shp)) : Shp := ((srt ltS (plOf m sh) : List Str), (srt ltL (lkOf m sh) : List LkT))
structure ShOk (m : DMd) (sh : List (Str × Shp)) : Prop where
  get : ∀ t ∈ m.c, (Dct.mk sh).get t.2 = some (shOf sh t.2)
  lab : ∀ t ∈ m.c, t.1.length ≤ 5
  pl : ∀ t ∈ m.c, List.length (shOf sh t.2).1 ≤ 1000 ∧ ∀ z ∈ (show List Str from (shOf sh t.2).1), z.length ≤ 1000
  lk : ∀ t ∈ m.c, List.length (shOf sh t.2).2 ≤ 1000 ∧ ∀ k ∈ (show List LkT from (shOf sh t.2).2), k.a.length ≤ 1000 ∧ k.b.length ≤ 1000
  n64 : (plOf m sh).length < 64
  n1 : (lkOf m sh).length ≤ 1000
section
variable {P : Program} {w : World} {K : PySem.W.Frag} {mg : Str → Option Value} {base : Heap} {f : Addr} {fd : FuncData}
abbrev dpLed := dp2 (fun a b : Str => a.length ≤ 1000 ∧ b.length ≤ 1000) dotted
abbrev N_led_end : List Str := ["label", "place"]
theorem sc_led_end : FnScope N_led_end ["label", "place"] (defScope s_led_end) := ⟨rfl, rfl, rfl, by decide +kernel, rfl, by decide +kernel, by decide +kernel⟩
theorem ok_led_end (F : FnP K "led_end" s_led_end f fd) : FnOk P w K mg base CX0 1 f fd ["label", "place"] (spT K dpLed) := by
  refine okT F sc_led_end (fun ss R h => ?_) (fun cdv A outer s H E hr => ⟨_, (pss_one (ps_ret (pe_joined (.cons (pe_fmt (pv 0)) (.cons (pe_str) (.cons (pe_fmt (pv 1)) (.nil))))))), fun B ss R h => ?_⟩)
  · obtain ⟨x, y, rfl, _⟩ := h
    rfl
  · obtain ⟨a, b, rfl, ⟨ha, hb⟩, q⟩ := h
    have b18 : ∀ {n : Nat}, n ≤ 10000 → n ≤ BIG := fun h => Nat.le_trans h (by decide)
    refine ds_retE q (d_joined (dj_cons (d_fmtS (d_var rfl) (b18 (by omega))) (dj_cons d_str (dj_cons (d_fmtS (d_var rfl) (b18 (by omega))) dj_nil))) (b18 ?_)) ?_
    · show a.length + (1 + (b.length + 0)) ≤ 10000
      omega
    · show ((Str.empty ++ a) ++ ("." : Str)) ++ b = dotted a b
      rw [empty_app]
      rfl
def dpShape : List Slot → (Slot → Prop) → Prop := fun ss R => ∃ (m : DMd) (sh : List (Str × Shp)), ss = [.val (MOb.mk m), .out (ownD sh)] ∧ ShOk m sh ∧ R (.val (shapeM m sh))
abbrev N_shape_of : List Str := ["module", "shapes", "places", "links", "label", "name", "inner_places", "inner_links", "first", "then", "marks", "lasts", "place"]
theorem sc_shape_of : FnScope N_shape_of ["module", "shapes"] (defScope s_shape_of) := ⟨rfl, rfl, rfl, by decide +kernel, rfl, by decide +kernel, by decide +kernel⟩
theorem ok_shape_of (F : FnP K "shape_of" s_shape_of f fd) (MC : ModC K (He.ga K "Module")) (m_list : mg "list" = none) (m_tuple : mg "tuple" = none) (m_sorted : mg "sorted" = none) (g_led_end : FnAt P w K mg base CX0 1 "led_end" ["label", "place"] (spT K dpLed)) : FnOk P w K mg base CX0 2 f fd ["module", "shapes"] (spT K dpShape) := by
  refine okT F sc_shape_of (fun ss R h => ?_) (fun cdv A outer s H E hr => ⟨_, (pss_cons (ps_set (i := 2) sc_shape_of.nd rfl (.inl rfl) (pe_lst (pa_starK K (pe_fldK K (pv 0) rfl) (pa_starK K (pe_fldK K (pv 0) rfl) (pa_starK K (pe_fldK K (pv 0) rfl) (pa_nil))))))
 (pss_cons (ps_set (i := 3) sc_shape_of.nd rfl (.inl rfl) (pe_callTy (call_listK K) rfl m_list (by decide +kernel) (pa_cons (pe_fldK K (pv 0) rfl) (pa_nil))))
 (pss_cons (ps_for PassesOwn.never rfl (pi_seqK K (pe_fldK K (pv 0) rfl)) (pg_tupK (n := 2) K rfl (pgs_cons (pg_name (i := 4) sc_shape_of.nd rfl (.inr rfl)) (pgs_cons (pg_name (i := 5) sc_shape_of.nd rfl (.inl rfl)) (pgs_nil)))) (pss_cons (ps_asg (pe_dget (hu_of hr) (pv 1) (pv 5) (fun _ _ => rfl)) (pg_tupK (n := 2) K rfl (pgs_cons (pg_name (i := 6) sc_shape_of.nd rfl (.inl rfl)) (pgs_cons (pg_name (i := 7) sc_shape_of.nd rfl (.inl rfl)) (pgs_nil)))))
 (pss_cons (ps_expr (pe_bmK K PySem.F.plainAttrs_list PySem.F.slot_list_extend PySem.F.type_list_extend mt_extend (pv 2) (pa_cons (pe_lc (own := [("place", 12)]) rfl sc_shape_of.nd (pi_seqK K (pv 6)) (blkOk_by (N := N_shape_of) (sc := defScope s_shape_of) (by decide +kernel)) (fun _ _ _ _ _ => pg_name (i := 12) sc_shape_of.nd rfl (.inl rfl)) (fun _ _ _ _ _ => pts_nil) (fun _ _ _ _ _ => pe_fn g_led_end hr rfl (pa_cons (pv 4) (pa_cons (pv 12) (pa_nil))))) (pa_nil))))
 (pss_one (ps_for PassesOwn.never rfl (pi_seqK K (pv 7)) (pg_tupK (n := 4) K rfl (pgs_cons (pg_name (i := 8) sc_shape_of.nd rfl (.inl rfl)) (pgs_cons (pg_name (i := 9) sc_shape_of.nd rfl (.inl rfl)) (pgs_cons (pg_name (i := 10) sc_shape_of.nd rfl (.inl rfl)) (pgs_cons (pg_name (i := 11) sc_shape_of.nd rfl (.inl rfl)) (pgs_nil)))))) (pss_one (ps_expr (pe_bmK K PySem.F.plainAttrs_list PySem.F.slot_list_append PySem.F.type_list_append mt_append (pv 3) (pa_cons (pe_tup (pa_cons (pe_fn g_led_end hr rfl (pa_cons (pv 4) (pa_cons (pv 8) (pa_nil)))) (pa_cons (pe_fn g_led_end hr rfl (pa_cons (pv 4) (pa_cons (pv 9) (pa_nil)))) (pa_cons (pv 10) (pa_cons (pv 11) (pa_nil)))))) (pa_nil))))))))))
 (pss_one (ps_ret (pe_tup (pa_cons (pe_callTy (call_tupleK K) rfl m_tuple (by decide +kernel) (pa_cons (pe_callB (cr_sortedSK K) rfl m_sorted (by decide +kernel) (pa_cons (pv 2) (pa_nil))) (pa_nil))) (pa_cons (pe_callTy (call_tupleK K) rfl m_tuple (by decide +kernel) (pa_cons (pe_callB (cr_sortedL K) rfl m_sorted (by decide +kernel) (pa_cons (pv 3) (pa_nil))) (pa_nil))) (pa_nil))))))))), fun B ss R h => ?_⟩)
  · obtain ⟨m, sh, rfl, _⟩ := h
    rfl
  · obtain ⟨m, sh, rfl, ok, q⟩ := h
    have b18 : ∀ {n : Nat}, n ≤ 10000 → n ≤ BIG := fun h => Nat.le_trans h (by decide)
    have n64 := ok.n64
    have n1 := ok.n1
    unfold plOf at n64
    unfold lkOf at n1
    rw [List.length_append] at n64 n1
    let g1 : Str × Str → List Str := fun t => List.map (dotted t.1) (shOf sh t.2).1
    let g2 : Str × Str → List LkT := fun t => List.map (ledL t.1) (shOf sh t.2).2
    have pre1 : ∀ i, ((m.c.take i).flatMap g1).length ≤ (m.c.flatMap g1).length := fun i => by
      conv => rhs; rw [← List.take_append_drop i m.c, List.flatMap_append, List.length_append]
      exact Nat.le_add_right _ _
    have pre2 : ∀ i, ((m.c.take i).flatMap g2).length ≤ (m.c.flatMap g2).length := fun i => by
      conv => rhs; rw [← List.take_append_drop i m.c, List.flatMap_append, List.length_append]
      exact Nat.le_add_right _ _
    have n64 : (m.i ++ m.o ++ m.s).length + (m.c.flatMap g1).length < 64 := n64
    have n1 : m.l.length + (m.c.flatMap g2).length ≤ 1000 := n1
    show DS K B _ [.val (MOb.mk m), .out (ownD sh), .no, .no, .no, .no, .no, .no, .no, .no, .no, .no, .no] _
    refine dq_asgO (xs := m.i ++ m.o ++ m.s) (do_lst ((dl_star (d_Uq (d_minlets MC (d_var rfl))) (dl_star (d_Uq (d_moutlets MC (d_var rfl))) (dl_star (ys := []) (d_Uq (d_mstations MC (d_var rfl))) dl_nil))).is (by rw [List.append_nil, List.append_assoc])) (b18 (by omega))) ?_
    refine dq_asgO (xs := m.l) (do_list (d_Uq (d_mlinks MC (d_var rfl)))) ?_
    show DS K B _ [.val (MOb.mk m), .out (ownD sh), .own (m.i ++ m.o ++ m.s), .own m.l, .no, .no, .no, .no, .no, .no, .no, .no, .no] _
    refine dq_for (xs := m.c) (di_seq (d_Uq (d_mcalls MC (d_var rfl)))) (fun i r => ∃ s4 s5 s6 s7 s8 s9 s10 s11 s12 : Slot, r = [.val (MOb.mk m), .out (ownD sh), .own (m.i ++ m.o ++ m.s ++ (m.c.take i).flatMap g1), .own (m.l ++ (m.c.take i).flatMap g2), s4, s5, s6, s7, s8, s9, s10, s11, s12]) ⟨.no, .no, .no, .no, .no, .no, .no, .no, .no, by simp⟩ (fun i t r ht hI => ?_) fun r hI => ?_
    · obtain ⟨s4, s5, s6, s7, s8, s9, s10, s11, s12, rfl⟩ := hI
      have tm := List.mem_of_getElem? ht
      have ll := ok.lab t tm
      obtain ⟨p1, p2⟩ := ok.pl t tm
      obtain ⟨k1, k2⟩ := ok.lk t tm
      have hg := ok.get t tm
      have e1 : (m.c.take (i + 1)).flatMap g1 = (m.c.take i).flatMap g1 ++ g1 t := by rw [List.take_add_one, ht, List.flatMap_append]; simp
      have e2 : (m.c.take (i + 1)).flatMap g2 = (m.c.take i).flatMap g2 ++ g2 t := by rw [List.take_add_one, ht, List.flatMap_append]; simp
      have l1 := pre1 (i + 1)
      have l2 := pre2 (i + 1)
      rw [e1, List.length_append] at l1
      rw [e2, List.length_append] at l2
      obtain ⟨ps, ls, hsh⟩ : ∃ (ps : List Str) (ls : List LkT), shOf sh t.2 = (ps, ls) := ⟨_, _, rfl⟩
      rw [hsh] at p1 p2 k1 k2 hg
      have p1 : ps.length ≤ 1000 := p1
      have k1 : ls.length ≤ 1000 := k1
      have eg1 : g1 t = ps.map (dotted t.1) := by show List.map (dotted t.1) (shOf sh t.2).1 = _; rw [hsh]
      have eg2 : g2 t = ls.map (ledL t.1) := by show List.map (ledL t.1) (shOf sh t.2).2 = _; rw [hsh]
      rw [eg1] at e1 l1
      rw [eg2] at e2 l2
      rw [List.length_map] at l1 l2
      generalize (m.c.take i).flatMap g1 = A1 at e1 l1
      generalize (m.c.take i).flatMap g2 = A2 at e2 l2
      refine ⟨_, _, DG.pair dg_name dg_name, ?_⟩
      show DS K B _ [.val (MOb.mk m), .out (ownD sh), .own (m.i ++ m.o ++ m.s ++ A1), .own (m.l ++ A2), .val t.1, .val t.2, s6, s7, s8, s9, s10, s11, s12] _
      refine dq_asgG (d_getDO (n := 1) rfl (d_var rfl) hg) (DG.pair dg_name dg_name) ?_
      show DS K B _ [.val (MOb.mk m), .out (ownD sh), .own (m.i ++ m.o ++ m.s ++ A1), .own (m.l ++ A2), .val t.1, .val t.2, .val (α := U Str) ps, .val (α := U LkT) ls, s8, s9, s10, s11, s12] _
      refine ds_seq (ds_extend (n := 2) (xs := m.i ++ m.o ++ m.s ++ A1) (ys := ps.map (dotted t.1)) rfl (DO.l (do_map (dotted t.1) (di_seq (d_Uq (d_var rfl))) (b18 (Nat.le_trans p1 (by decide))) fun z hz => ⟨_, _, dg_name, by simp, d_call2 (d_var rfl) (d_var rfl) ⟨Nat.le_trans ll (by decide), p2 z hz⟩⟩)) (b18 (by rw [List.length_append, List.length_map]; omega)) ?_)
      show DS K B _ [.val (MOb.mk m), .out (ownD sh), .own (m.i ++ m.o ++ m.s ++ A1 ++ ps.map (dotted t.1)), .own (m.l ++ A2), .val t.1, .val t.2, .val (α := U Str) ps, .val (α := U LkT) ls, s8, s9, s10, s11, s12] _
      refine ds_for (xs := ls) (di_seq (d_Uq (d_var rfl))) (fun j r => ∃ s8 s9 s10 s11 : Slot, r = [.val (MOb.mk m), .out (ownD sh), .own (m.i ++ m.o ++ m.s ++ A1 ++ ps.map (dotted t.1)), .own (m.l ++ A2 ++ (ls.take j).map (ledL t.1)), .val t.1, .val t.2, .val (α := U Str) ps, .val (α := U LkT) ls, s8, s9, s10, s11, s12]) ⟨s8, s9, s10, s11, by rw [List.take_zero, List.map_nil, List.append_nil]⟩ (fun j k r hk hJ => ?_) fun r hJ => ?_
      · obtain ⟨s8, s9, s10, s11, rfl⟩ := hJ
        obtain ⟨ka, kb⟩ := k2 k (List.mem_of_getElem? hk)
        refine ⟨_, _, DG.quad dg_name dg_name dg_name dg_name, ?_⟩
        show DS K B _ [.val (MOb.mk m), .out (ownD sh), .own (m.i ++ m.o ++ m.s ++ A1 ++ ps.map (dotted t.1)), .own (m.l ++ A2 ++ (ls.take j).map (ledL t.1)), .val t.1, .val t.2, .val (α := U Str) ps, .val (α := U LkT) ls, .val k.a, .val k.b, .val k.c, .val k.d, s12] _
        refine ds_append (n := 3) (xs := m.l ++ A2 ++ (ls.take j).map (ledL t.1)) (a := ledL t.1 k) rfl (d_quad (d_call2 (d_var rfl) (d_var rfl) ⟨Nat.le_trans ll (by decide), ka⟩) (d_call2 (d_var rfl) (d_var rfl) ⟨Nat.le_trans ll (by decide), kb⟩) (d_var rfl) (d_var rfl)) ?_ ⟨.val k.a, .val k.b, .val k.c, .val k.d, ?_⟩
        · have : ((ls.take j).map (ledL t.1)).length ≤ 1000 := by rw [List.length_map, List.length_take]; omega
          rw [List.length_append, List.length_append]
          exact Nat.lt_of_le_of_lt (show _ ≤ 5000 by omega) (by decide)
        · have e : ls.take (j + 1) = ls.take j ++ [k] := by
            rw [List.take_add_one, hk]
            rfl
          rw [e, List.map_append, ← List.append_assoc]
          rfl
      · obtain ⟨s8, s9, s10, s11, rfl⟩ := hJ
        refine ⟨.val t.1, .val t.2, .val (α := U Str) ps, .val (α := U LkT) ls, s8, s9, s10, s11, s12, ?_⟩
        rw [List.take_length, e1, e2, ← List.append_assoc, ← List.append_assoc]
    · obtain ⟨s4, s5, s6, s7, s8, s9, s10, s11, s12, rfl⟩ := hI
      rw [List.take_length]
      refine ds_frz (n := 2) rfl (ds_frz (n := 3) rfl ?_)
      exact ds_ret (d_pair (d_tuple (DO.q (d_sortS (d_var rfl) (by rw [List.length_append]; exact n64)))) (d_tuple (DO.q (d_sortL (d_var rfl))))) q
end
end WW
set_option Elab.async false
set_option linter.all false
set_option maxRecDepth 100000
set_option maxHeartbeats 4000000
namespace WW
open PySem PySem.Spec PyProof.Rows L2
def Zero (ls : List LkT) (a b : Str) : Prop := ∃ t ∈ ls, t.c = 0 ∧ t.a = a ∧ t.b = b
structure LooseOk (ps : List Str) (ls : List LkT) (l : List Str) : Prop where
  sub : ∀ p ∈ l, p ∈ ps
  cl : ∀ p ∈ l, ∃ a ∈ l, Zero ls a p
  max : ∀ C : Str → Prop, (∀ p, C p → p ∈ ps ∧ ∃ a, C a ∧ Zero ls a p) → ∀ p, C p → p ∈ l
def stepB (ls : List LkT) (l : List Str) (p : Str) : Bool := ls.any fun t => (decide (t.c = 0) && decide (t.a ∈ l)) && decide (t.b = p)
theorem stepB_iff {ls : List LkT} {l : List Str} {p : Str} : stepB ls l p = true ↔ ∃ a ∈ l, Zero ls a p := by
  unfold stepB Zero
  rw [List.any_eq_true]
  constructor
  · rintro ⟨t, ht, h⟩
    simp only [Bool.and_eq_true, decide_eq_true_eq] at h
    exact ⟨t.a, h.1.2, t, ht, h.1.1, rfl, h.2⟩
  · rintro ⟨a, ha, t, ht, h0, rfl, h2⟩
    refine ⟨t, ht, ?_⟩
    simp only [Bool.and_eq_true, decide_eq_true_eq]
    exact ⟨⟨h0, ha⟩, h2⟩
section
variable {K : PySem.W.Frag} {B : Addr → Prop} {ρ : List Slot} {te : TE} {z : Str}
theorem d_strT (h : DE K B te ρ z) : DE K B (tCB (fun xs H Q => ∃ a, xs = [V.str a] ∧ Q (.str a) H) (tCons te tNil)) ρ z := fun S0 H0 S H σ E Q q =>
  h S0 H0 S H σ E _ fun v S1 H1 e1 r1 => by
    cases r1
    exact ⟨z, rfl, q _ S1 H1 e1 rfl⟩
end
theorem hu64 {k : Nat} {A : Around} (hr : Room k A) : A.units + 64 < cLine := by have := hr.un; omega
section
variable {P : Program} {w : World} {K : PySem.W.Frag} {mg : Str → Option Value} {base : Heap} {f : Addr} {fd : FuncData}
def dpLoose : List Slot → (Slot → Prop) → Prop := fun ss R => ∃ (ps : List Str) (ls : List LkT), ss = [.val (α := U Str) ps, .val (α := U LkT) ls] ∧ ps.length ≤ 1000 ∧ ls.length ≤ 1000 ∧ ∀ l : List Str, LooseOk ps ls l → R (.val (α := L Str) l)
abbrev N_loose_places : List Str := ["places", "links", "left", "is_moving", "later", "kept", "first", "then", "marks", "lasts", "place"]
theorem sc_loose_places : FnScope N_loose_places ["places", "links"] (defScope s_loose_places) := ⟨rfl, rfl, rfl, by decide +kernel, rfl, by decide +kernel, by decide +kernel⟩
theorem ok_loose (F : FnP K "loose_places" s_loose_places f fd) (m_list : mg "list" = none) (m_len : mg "len" = none) : FnOk P w K mg base CX0 1 f fd ["places", "links"] (spT K dpLoose) := by
  refine okT F sc_loose_places (fun ss R h => ?_) (fun cdv A outer s H E hr => ⟨_, (pss_cons (ps_set (i := 2) sc_loose_places.nd rfl (.inr rfl) (pe_callTy (call_listK K) rfl m_list (by decide +kernel) (pa_cons (pv 0) (pa_nil))))
 (pss_cons (ps_set (i := 3) sc_loose_places.nd rfl (.inl rfl) (pe_bl))
 (pss_cons (ps_while PassesOwn.never (pt_val (pv 3)) (pss_cons (ps_set (i := 4) sc_loose_places.nd rfl (.inr rfl) (pe_dc (own := [("first", 6), ("then", 7), ("marks", 8), ("lasts", 9)]) rfl sc_loose_places.nd (pi_seqK K (pv 1)) (blkOk_by (N := N_loose_places) (sc := defScope s_loose_places) (by decide +kernel)) (fun _ _ _ _ _ => pg_tupK (n := 4) K rfl (pgs_cons (pg_name (i := 6) sc_loose_places.nd rfl (.inl rfl)) (pgs_cons (pg_name (i := 7) sc_loose_places.nd rfl (.inl rfl)) (pgs_cons (pg_name (i := 8) sc_loose_places.nd rfl (.inl rfl)) (pgs_cons (pg_name (i := 9) sc_loose_places.nd rfl (.inl rfl)) (pgs_nil)))))) (fun _ _ _ _ _ => pts_one (PW.pt (pw_and (pt_cmpR op_eq (pv 8) (pe_int) (nomark _)) (pw_and1 (pt_cmpR (op_inK K) (pv 6) (pv 2) rfl))))) (fun _ _ _ _ _ => pv 7) (fun _ _ _ _ _ => pe_bl)))
 (pss_cons (ps_setLc (i := 5) (own := [("place", 10)]) rfl sc_loose_places.nd rfl rfl (sw_true rfl rfl rfl (by decide +kernel)) (pi_seqK K (pv 2)) (blkOk_by (N := N_loose_places) (sc := defScope s_loose_places) (by decide +kernel)) (fun _ _ _ _ _ => pg_name (i := 10) sc_loose_places.nd rfl (.inl rfl)) (fun _ _ _ _ _ => pts_one (pt_cmp (pc_din (hu_of hr) (pv 10) (pv 4)))) (fun _ _ _ _ _ => pv 10))
 (pss_cons (ps_set (i := 3) sc_loose_places.nd rfl (.inl rfl) (pe_cmpR op_lt (pe_callB (call_lenK K) rfl m_len (by decide +kernel) (pa_cons (pv 5) (pa_nil))) (pe_callB (call_lenK K) rfl m_len (by decide +kernel) (pa_cons (pv 2) (pa_nil))) (nomark _)))
 (pss_one (ps_set (i := 2) sc_loose_places.nd rfl (.inr rfl) (pv 5)))))))
 (pss_one (ps_ret (pv 2)))))), fun B ss R h => ?_⟩)
  · obtain ⟨m, sh, rfl, _⟩ := h
    rfl
  · obtain ⟨ps, ls, rfl, pl, ll, q⟩ := h
    have b18 : ∀ {n : Nat}, n ≤ 10000 → n ≤ BIG := fun h => Nat.le_trans h (by decide)
    show DS K B _ [.val (α := U Str) ps, .val (α := U LkT) ls, .no, .no, .no, .no, .no, .no, .no, .no, .no] _
    refine dq_asgI (δ := L Str) ps (DO.l (do_list (d_Uq (d_var rfl)))) ?_
    refine dq_asg (a := true) d_bl ?_
    show DS K B _ [.val (α := U Str) ps, .val (α := U LkT) ls, .val (α := L Str) ps, .val true, .no, .no, .no, .no, .no, .no, .no] _
    refine ds_seq (ds_while (fun m r => ∃ (l : List Str) (mv : Bool) (s4 s5 s6 s7 s8 s9 s10 : Slot), r = [.val (α := U Str) ps, .val (α := U LkT) ls, .val (α := L Str) l, .val mv, s4, s5, s6, s7, s8, s9, s10] ∧ (∀ p ∈ l, p ∈ ps) ∧
      (mv = false → ∀ p ∈ l, ∃ a ∈ l, Zero ls a p) ∧ (∀ C : Str → Prop, (∀ p, C p → p ∈ ps ∧ ∃ a, C a ∧ Zero ls a p) → ∀ p, C p → p ∈ l) ∧ l.length ≤ 1000 ∧ (mv = true → l.length < m)) (ps.length + 1)
      ⟨ps, true, .no, .no, .no, .no, .no, .no, .no, rfl, fun p h => h, (fun h => by cases h), (fun C h p hp => (h p hp).1), pl, fun _ => Nat.lt_succ_self _⟩ fun m r hI => ?_)
    obtain ⟨l, mv, s4, s5, s6, s7, s8, s9, s10, rfl, h1, h2, h3, h4, h5⟩ := hI
    refine ⟨mv, dt_B (d_var rfl), fun hm => ?_, fun hm => ?_⟩
    · subst hm
      have h5 := h5 rfl
      refine dq_asgI (δ := KSet) (KSet.mk (stepB ls l)) (d_dcSet (fun t : LkT => decide (t.c = 0) && decide (t.a ∈ l)) (fun t => t.b) (di_seq (d_Uq (d_var rfl))) (b18 (by omega)) fun t ht => ⟨_, _, DG.quad dg_name dg_name dg_name dg_name, by simp, dt_and (dt_test (d_eq (d_var rfl) d_int inferInstance inferInstance)) (fun _ => dt_test (d_inS (d_var rfl) (d_Lq (d_var rfl)))), fun _ => ⟨d_var rfl, d_bl⟩⟩) ?_
      show DS K B _ [.val (α := U Str) ps, .val (α := U LkT) ls, .val (α := L Str) l, .val true, .val (KSet.mk (stepB ls l)), s5, s6, s7, s8, s9, s10] _
      let kp := l.filter (stepB ls l)
      refine dq_asgI (δ := L Str) kp (DE.is (DO.l (do_lc (stepB ls l) (fun p : Str => p) (di_seq (d_Lq (d_var rfl))) (b18 (by omega)) fun p hp => ⟨_, _, dg_name, by simp, dt_test (d_inK (k := KSet.mk (stepB ls l)) (z := p) (d_var rfl) (d_var rfl)), fun _ => d_var rfl⟩)) (List.map_id' _)) ?_
      show DS K B _ [.val (α := U Str) ps, .val (α := U LkT) ls, .val (α := L Str) l, .val true, .val (KSet.mk (stepB ls l)), .val (α := L Str) kp, s6, s7, s8, s9, s10] _
      refine dq_asg (d_lt (d_len (d_Lq (d_var rfl))) (d_len (d_Lq (d_var rfl)))) ?_
      refine ds_asg (α := L Str) (a := kp) (d_var rfl) ?_
      have kl : kp.length ≤ l.length := List.length_filter_le _ _
      refine ⟨l.length, h5, kp, decide ((kp.length : Int) < l.length), .val (KSet.mk (stepB ls l)), .val (α := L Str) kp, s6, s7, s8, s9, s10, rfl, fun p hp => h1 p (List.mem_filter.mp hp).1, fun hm p hp => ?_, fun C hC p hp => ?_, by omega, fun hm => ?_⟩
      · have hm := of_decide_eq_false hm
        have e : kp = l := List.Sublist.eq_of_length (List.filter_sublist) (by show kp.length = l.length; omega)
        rw [e] at hp ⊢
        have := List.filter_eq_self.mp e p hp
        exact stepB_iff.mp this
      · refine List.mem_filter.mpr ⟨h3 C hC p hp, stepB_iff.mpr ?_⟩
        obtain ⟨_, a, ha, hz⟩ := hC p hp
        exact ⟨a, h3 C hC a ha, hz⟩
      · have := of_decide_eq_true hm
        omega
    · subst hm
      exact ds_ret (d_var rfl) (q l ⟨h1, h2 rfl, h3⟩)
def rotS : List Str → List Str
  | [] => []
  | z :: zs => (z :: zs).drop ((z :: zs).idxOf (minS z zs)) ++ (z :: zs).take ((z :: zs).idxOf (minS z zs))
abbrev N_turned_about : List Str := ["ring", "at", "place"]
theorem sc_turned_about : FnScope N_turned_about ["ring"] (defScope s_turned_about) := ⟨rfl, rfl, rfl, by decide +kernel, rfl, by decide +kernel, by decide +kernel⟩
theorem ok_turned (F : FnP K "turned_about" s_turned_about f fd) (m_min : mg "min" = none) (m_str : mg "str" = none) (m_tuple : mg "tuple" = none) : FnOk P w K mg base CX0 1 f fd ["ring"] (spT K (dp1 (α := L Str) (γ := U Str) (fun r : L Str => 0 < List.length r ∧ List.length r ≤ 1000) fun r => rotS r)) := by
  refine okT F sc_turned_about (fun ss R h => ?_) (fun cdv A outer s H E hr => ⟨_, (pss_cons (ps_set (i := 1) sc_turned_about.nd rfl (.inl rfl) (pe_bmK K PySem.F.plainAttrs_list PySem.F.slot_list_index PySem.F.type_list_index (mt_indexK K) (pv 0) (pa_cons (pe_callB (cr_minS K rfl (hu64 hr)) rfl m_min (by decide +kernel) (pa_cons (pe_lc (own := [("place", 2)]) rfl sc_turned_about.nd (pi_seqK K (pv 0)) (blkOk_by (N := N_turned_about) (sc := defScope s_turned_about) (by decide +kernel)) (fun _ _ _ _ _ => pg_name (i := 2) sc_turned_about.nd rfl (.inl rfl)) (fun _ _ _ _ _ => pts_nil) (fun _ _ _ _ _ => pe_callTy SkE.call_str_str rfl m_str (by decide +kernel) (pa_cons (pv 2) (pa_nil)))) (pa_nil))) (pa_nil))))
 (pss_one (ps_ret (pe_callTy (call_tupleK K) rfl m_tuple (by decide +kernel) (pa_cons (pe_lst (pa_starK K (pe_slice (sl_sqK K) (pv 0) (po_some (pv 1)) (po_none)) (pa_starK K (pe_slice (sl_sqK K) (pv 0) (po_none) (po_some (pv 1))) (pa_nil)))) (pa_nil)))))), fun B ss R h => ?_⟩)
  · obtain ⟨m, rfl, _⟩ := h
    rfl
  · obtain ⟨r, rfl, ⟨r0, r1⟩, q⟩ := h
    have b18 : ∀ {n : Nat}, n ≤ 10000 → n ≤ BIG := fun h => Nat.le_trans h (by decide)
    cases r with
    | nil => cases r0
    | cons z zs =>
      have r1 : (z :: zs).length ≤ 1000 := r1
      obtain ⟨mm, _⟩ := minS_is (z := z) (zs := zs)
      obtain ⟨i1, i2⟩ := idx_mem mm
      have e : rotS (z :: zs) = (z :: zs).drop ((z :: zs).idxOf (minS z zs)) ++ (z :: zs).take ((z :: zs).idxOf (minS z zs)) := rfl
      show DS K B _ [.val (α := L Str) (z :: zs), .no, .no] _
      have hq : (Slot.val (α := U Str) (rotS (z :: zs))) = .val (α := U Str) ((z :: zs).drop ((z :: zs).idxOf (minS z zs)) ++ (z :: zs).take ((z :: zs).idxOf (minS z zs))) := rfl
      generalize hk : (z :: zs).idxOf (minS z zs) = k at *
      refine dq_asgI (δ := Int) (k : Int) (d_indexS (ws := z :: zs) (d_var rfl) (d_minS (z := z) (zs := zs) (DE.is (DO.l (do_map (fun p : Str => p) (di_seq (d_Lq (d_var rfl))) (b18 (by omega)) fun p hp => ⟨_, _, dg_name, by simp, d_strT (d_var rfl)⟩)) (List.map_id' _))) i1 i2) ?_
      show DS K B _ [.val (α := L Str) (z :: zs), .val (k : Int), .no] _
      refine ds_ret (α := U Str) (a := (z :: zs).drop k ++ (z :: zs).take k) (d_tuple (DO.q (do_lst ((dl_star (DO.q ((do_slice (d_var rfl) (dp_some (d_var rfl)) dp_none))) (dl_star (ys := []) (DO.q (do_slice (d_var rfl) dp_none (dp_some (d_var rfl)))) dl_nil)).is (by rw [List.append_nil, cutA_drop, cutA_take])) (b18 (by rw [List.length_append, List.length_drop, List.length_take]; omega))))) ?_
      rw [← hq]
      exact q
end
end WW
set_option Elab.async false
set_option linter.all false
set_option maxRecDepth 100000
set_option maxHeartbeats 4000000
namespace WW
open PySem PySem.Spec PyProof.Rows L2
def ch (E : Str → Str → Prop) : Str → List Str → Prop
  | _, [] => True
  | x, y :: r => E x y ∧ ch E y r
theorem ch_app {E : Str → Str → Prop} : ∀ {a : List Str} {x y : Str} {b : List Str}, ch E x (a ++ y :: b) ↔ ch E x (a ++ [y]) ∧ ch E y b
  | [], x, y, b => by
    show (E x y ∧ ch E y b) ↔ (E x y ∧ True) ∧ ch E y b
    simp
  | z :: a, x, y, b => by
    show (E x z ∧ ch E z (a ++ y :: b)) ↔ (E x z ∧ ch E z (a ++ [y])) ∧ ch E y b
    rw [ch_app (a := a)]
    exact ⟨fun ⟨h1, h2, h3⟩ => ⟨⟨h1, h2⟩, h3⟩, fun ⟨⟨h1, h2⟩, h3⟩ => ⟨h1, h2, h3⟩⟩
theorem ch_rev {E : Str → Str → Prop} : ∀ {l : List Str} {x y : Str}, ch E x (l ++ [y]) → ch (fun a b => E b a) y (l.reverse ++ [x])
  | [], x, y, h => ⟨h.1, trivial⟩
  | z :: l, x, y, h => by
    have h2 := ch_rev (l := l) (x := z) (y := y) h.2
    rw [List.reverse_cons, List.append_assoc]
    exact ch_app.mpr ⟨h2, h.1, trivial⟩
def Cyc (E : Str → Str → Prop) (l : List Str) : Prop := ∃ x r, l = x :: r ∧ ch E x (r ++ [x])
theorem Cyc.rot {E : Str → Str → Prop} {a b : List Str} (h : Cyc E (a ++ b)) : Cyc E (b ++ a) := by
  obtain ⟨x, r, e, c⟩ := h
  cases a with
  | nil => exact ⟨x, r, by rw [List.append_nil]; exact e, c⟩
  | cons x' a' =>
    injection e with e1 e2
    subst e1
    subst e2
    cases b with
    | nil => exact ⟨x', a', rfl, by rw [List.append_eq, List.append_nil] at c; exact c⟩
    | cons y b' =>
      refine ⟨y, b' ++ x' :: a', rfl, ?_⟩
      rw [List.append_eq, List.append_assoc] at c
      obtain ⟨c1, c2⟩ := ch_app.mp c
      rw [List.append_assoc]
      exact ch_app.mpr ⟨c2, c1⟩
theorem Cyc.rev {E : Str → Str → Prop} {l : List Str} (h : Cyc E l) : Cyc (fun a b => E b a) l.reverse := by
  obtain ⟨x, r, rfl, c⟩ := h
  have := ch_rev c
  rw [List.reverse_cons]
  exact Cyc.rot (a := [x]) (b := r.reverse) ⟨x, r.reverse, rfl, this⟩
structure IsRing (ls : List LkT) (rg : List Str) : Prop where
  cyc : Cyc (Zero ls) rg
  nd : rg.Nodup
  least : ∀ y ∈ rg, ∀ x ∈ rg.head?, ltS y x = false
theorem rotS_ring {ls : List LkT} {l : List Str} (h : Cyc (Zero ls) l) (nd : l.Nodup) : IsRing ls (rotS l) ∧ ∀ z, z ∈ rotS l ↔ z ∈ l := by
  cases l with
  | nil =>
    obtain ⟨x, r, e, _⟩ := h
    cases e
  | cons z zs =>
    obtain ⟨m1, m2⟩ := minS_is (z := z) (zs := zs)
    obtain ⟨i1, _⟩ := idx_mem m1
    have e : rotS (z :: zs) = (z :: zs).drop ((z :: zs).idxOf (minS z zs)) ++ (z :: zs).take ((z :: zs).idxOf (minS z zs)) := rfl
    rw [e]
    generalize (z :: zs).idxOf (minS z zs) = k at *
    generalize minS z zs = mn at *
    generalize z :: zs = l at *
    have tk := List.take_append_drop k l
    have mem : ∀ y, y ∈ l.drop k ++ l.take k ↔ y ∈ l := fun y => by
      conv => rhs; rw [← tk]
      rw [List.mem_append, List.mem_append]
      exact Or.comm
    have hd : ∀ x ∈ (l.drop k ++ l.take k).head?, x = mn := fun x hx => by
      have : (l.drop k)[0]? = some mn := by rw [List.getElem?_drop]; exact i1
      cases hq : l.drop k with
      | nil => rw [hq] at this; cases this
      | cons a r =>
        rw [hq] at this hx
        cases this
        cases hx
        rfl
    refine ⟨⟨Cyc.rot (by rw [tk]; exact h), ?_, fun y hy x hx => ?_⟩, mem⟩
    · rw [← tk] at nd
      rw [List.nodup_append] at nd ⊢
      exact ⟨nd.2.1, nd.1, fun a ha b hb e => nd.2.2 b hb a ha e.symm⟩
    · rw [hd x hx]
      exact m2 y ((mem y).mp hy)
theorem nd_len : ∀ {w l : List Str}, w.Nodup → (∀ z ∈ w, z ∈ l) → w.length ≤ l.length
  | [], _, _, _ => Nat.zero_le _
  | z :: r, l, nd, h => by
    have nd := List.nodup_cons.mp nd
    have hz := h z List.mem_cons_self
    have ih := nd_len (l := l.erase z) nd.2 fun y hy => (List.mem_erase_of_ne (fun e => nd.1 (by rw [← e]; exact hy))).mpr (h y (List.mem_cons_of_mem _ hy))
    rw [List.length_erase_of_mem hz] at ih
    have := List.length_pos_of_mem hz
    rw [List.length_cons]
    omega
section
variable {K : PySem.W.Frag} {B : Addr → Prop} {ρ : List Slot} {te : TE} {z : Str}
theorem d_notInO {n : Nat} {ws : List Str} (h1 : DE K B te ρ z) (hn : ρ[n]? = some (.own ws)) : DE K B (tOp (rIn K true) te (tVar n)) ρ (!decide (z ∈ ws)) := fun S0 H0 S H σ E Q q =>
  h1 S0 H0 S H σ E _ fun v S1 H1 e1 r1 => by
    obtain ⟨hl, p, vs, g1, h0, hs, hh, r⟩ := (E.go e1).own hn
    cases r1
    cases vals_str r
    refine ⟨_, g1, p, _, rfl, .inl (SqL.of hh), rfl, ?_, ?_⟩
    · rw [List.all_map]
      exact List.all_eq_true.mpr fun _ _ => rfl
    · have e : inV (.str z) (ws.map V.str) = decide (z ∈ ws) := inV_str z ws
      rw [e]
      exact q _ S1 H1 e1 rfl
end
theorem atI_last {xs : List Str} {z : Str} : atI (xs ++ [z]) (-1) = some z := by
  unfold atI ixN
  rw [if_neg (by decide), if_pos (by rw [List.length_append, List.length_singleton]; omega), List.length_append, List.length_singleton]
  show (xs ++ [z])[((-1 : Int) + ((xs.length + 1 : Nat) : Int)).toNat]? = some z
  rw [show ((-1 : Int) + ((xs.length + 1 : Nat) : Int)).toNat = xs.length by omega, List.getElem?_append_right (Nat.le_refl _), Nat.sub_self]
  rfl
theorem ch_snoc {E : Str → Str → Prop} : ∀ {a : List Str} {x z y : Str}, ch E x (a ++ [z]) → E z y → ch E x (a ++ [z] ++ [y]) := fun {a x z y} h e => by
  rw [List.append_assoc]
  exact ch_app.mpr ⟨h, e, trivial⟩
section
variable {P : Program} {w : World} {K : PySem.W.Frag} {mg : Str → Option Value} {base : Heap} {f : Addr} {fd : FuncData}
def dpRing : List Slot → (Slot → Prop) → Prop := fun ss R => ∃ (ps : List Str) (ls : List LkT), ss = [.val (α := U Str) ps, .val (α := U LkT) ls] ∧ ps.length ≤ 1000 ∧ ls.length ≤ 1000 ∧
  (LooseOk ps ls [] → R (.val (α := Option (U Str)) none)) ∧ ∀ rg : List Str, IsRing ls rg → (∀ z ∈ rg, z ∈ ps) → R (.val (α := Option (U Str)) (some rg))
abbrev N_ring_of : List Str := ["places", "links", "loose", "ahead", "first", "then", "marks", "lasts", "way", "ring"]
theorem sc_ring_of : FnScope N_ring_of ["places", "links"] (defScope s_ring_of) := ⟨rfl, rfl, rfl, by decide +kernel, rfl, by decide +kernel, by decide +kernel⟩
theorem ok_ring (F : FnP K "ring_of" s_ring_of f fd) (m_len : mg "len" = none) (g_loose_places : FnAt P w K mg base CX0 1 "loose_places" ["places", "links"] (spT K dpLoose)) (g_turned_about : FnAt P w K mg base CX0 1 "turned_about" ["ring"] (spT K (dp1 (α := L Str) (γ := U Str) (fun r : L Str => 0 < List.length r ∧ List.length r ≤ 1000) fun r => rotS r))) : FnOk P w K mg base CX0 2 f fd ["places", "links"] (spT K dpRing) := by
  refine okT F sc_ring_of (fun ss R h => ?_) (fun cdv A outer s H E hr => ⟨_, (pss_cons (ps_set (i := 2) sc_ring_of.nd rfl (.inl rfl) (pe_fn g_loose_places hr rfl (pa_cons (pv 0) (pa_cons (pv 1) (pa_nil)))))
 (pss_cons (ps_if (pt_cmpR op_eq (pe_callB (call_lenK K) rfl m_len (by decide +kernel) (pa_cons (pv 2) (pa_nil))) (pe_int) (nomark _)) (pss_one (ps_ret (pe_non))) (pss_nil))
 (pss_cons (ps_set (i := 3) sc_ring_of.nd rfl (.inl rfl) (pe_dnewK))
 (pss_cons (ps_for PassesOwn.never rfl (pi_seqK K (pv 1)) (pg_tupK (n := 4) K rfl (pgs_cons (pg_name (i := 4) sc_ring_of.nd rfl (.inl rfl)) (pgs_cons (pg_name (i := 5) sc_ring_of.nd rfl (.inl rfl)) (pgs_cons (pg_name (i := 6) sc_ring_of.nd rfl (.inl rfl)) (pgs_cons (pg_name (i := 7) sc_ring_of.nd rfl (.inl rfl)) (pgs_nil)))))) (pss_one (ps_if (PW.pt (pw_and (pt_cmpR op_eq (pv 6) (pe_int) (nomark _)) (pw_and (pt_cmpR (op_inK K) (pv 4) (pv 2) rfl) (pw_and1 (pt_cmpR (op_inK K) (pv 5) (pv 2) rfl))))) (pss_one (ps_dput (hu_of hr) (pv 3) (pv 5) (pv 4) rfl)) (pss_nil))))
 (pss_cons (ps_set (i := 8) sc_ring_of.nd rfl (.inl rfl) (pe_lst (pa_cons (pe_ix (ix_sqK K) (pv 2) (pe_int) (fun _ _ => rfl)) (pa_nil))))
 (pss_cons (ps_while PassesOwn.never (pt_cmpR (op_notInK K) (pe_dget (hu_of hr) (pv 3) (pe_ix (ix_sqK K) (pv 8) (pe_un un_neg (pe_int)) (fun _ _ => rfl)) (fun _ _ => rfl)) (pv 8) rfl) (pss_one (ps_expr (pe_bmK K PySem.F.plainAttrs_list PySem.F.slot_list_append PySem.F.type_list_append mt_append (pv 8) (pa_cons (pe_dget (hu_of hr) (pv 3) (pe_ix (ix_sqK K) (pv 8) (pe_un un_neg (pe_int)) (fun _ _ => rfl)) (fun _ _ => rfl)) (pa_nil))))))
 (pss_cons (ps_set (i := 9) sc_ring_of.nd rfl (.inl rfl) (pe_slice (sl_sqK K) (pv 8) (po_some (pe_bmK K PySem.F.plainAttrs_list PySem.F.slot_list_index PySem.F.type_list_index (mt_indexK K) (pv 8) (pa_cons (pe_dget (hu_of hr) (pv 3) (pe_ix (ix_sqK K) (pv 8) (pe_un un_neg (pe_int)) (fun _ _ => rfl)) (fun _ _ => rfl)) (pa_nil)))) (po_none)))
 (pss_one (ps_ret (pe_fn g_turned_about hr rfl (pa_cons (pe_revL (pv 9)) (pa_nil)))))))))))), fun B ss R h => ?_⟩)
  · obtain ⟨m, sh, rfl, _⟩ := h
    rfl
  · obtain ⟨ps, ls, rfl, pl, ll, qn, qs⟩ := h
    have b18 : ∀ {n : Nat}, n ≤ 10000 → n ≤ BIG := fun h => Nat.le_trans h (by decide)
    show DS K B _ [.val (α := U Str) ps, .val (α := U LkT) ls, .no, .no, .no, .no, .no, .no, .no, .no] _
    refine dq_asgN (α := L Str) (P := fun l : L Str => LooseOk ps ls l) (dn_call (da_cons (d_var rfl) (da_cons (d_var rfl) da_nil)) ⟨ps, ls, rfl, pl, ll, fun l hl => ⟨l, hl, rfl⟩⟩) fun (l : List Str) hl => ?_
    have hl : LooseOk ps ls l := hl
    show DS K B _ [.val (α := U Str) ps, .val (α := U LkT) ls, .val (α := L Str) l, .no, .no, .no, .no, .no, .no, .no] _
    refine dq_when (c := decide ((l.length : Int) = 0)) (dt_test (d_eq (d_len (d_Lq (d_var rfl))) d_int inferInstance inferInstance)) (fun h => ?_) (fun h => ?_)
    · have e : l = [] := List.eq_nil_of_length_eq_zero (by have := of_decide_eq_true h; omega)
      subst e
      exact ds_ret d_none (qn hl)
    · have l0 : 0 < l.length := by have := of_decide_eq_false h; omega
      -- ahead
      refine ds_seq (ds_asgOb (P := ownM 0 fun _ => none) dob_map ?_)
      show DS K B _ [.val (α := U Str) ps, .val (α := U LkT) ls, .val (α := L Str) l, .obj (ownM 0 fun _ => none), .no, .no, .no, .no, .no, .no] _
      refine dq_for (xs := ls) (di_seq (d_Uq (d_var rfl))) (fun i r => ∃ (f : Str → Option Str) (n : Nat) (s4 s5 s6 s7 : Slot), r = [.val (α := U Str) ps, .val (α := U LkT) ls, .val (α := L Str) l, .obj (ownM n f), s4, s5, s6, s7, .no, .no] ∧ n ≤ i ∧
        (∀ z y, f z = some y → y ∈ l ∧ Zero ls y z) ∧ ∀ t ∈ ls.take i, t.c = 0 → t.a ∈ l → t.b ∈ l → ∃ y, f t.b = some y) ⟨fun _ => none, 0, .no, .no, .no, .no, rfl, Nat.le_refl _, (fun z y h => by cases h), (fun t ht => by rw [List.take_zero] at ht; cases ht)⟩ (fun i t r ht hI => ?_) fun r hI => ?_
      · obtain ⟨f, n, s4, s5, s6, s7, rfl, hn, h1, h2⟩ := hI
        refine ⟨_, _, DG.quad dg_name dg_name dg_name dg_name, ?_⟩
        show DS K B _ [.val (α := U Str) ps, .val (α := U LkT) ls, .val (α := L Str) l, .obj (ownM n f), .val t.a, .val t.b, .val t.c, .val t.d, .no, .no] _
        have hi := (List.getElem?_eq_some_iff.mp ht).1
        have tk : ls.take (i + 1) = ls.take i ++ [t] := by rw [List.take_add_one, ht]; rfl
        refine ds_if (c := decide (t.c = 0) && (decide (t.a ∈ l) && decide (t.b ∈ l))) (dt_and (dt_test (d_eq (d_var rfl) d_int inferInstance inferInstance)) fun _ => dt_and (dt_test (d_inS (d_var rfl) (d_Lq (d_var rfl)))) fun _ => dt_test (d_inS (d_var rfl) (d_Lq (d_var rfl)))) (fun c => ?_) (fun c => ?_)
        · simp only [Bool.and_eq_true, decide_eq_true_eq] at c
          obtain ⟨c1, c2, c3⟩ := c
          refine ds_mput (n := 3) rfl (d_var rfl) (d_var rfl) (Nat.lt_of_le_of_lt (show n ≤ 1000 by omega) (by decide)) ⟨fun x => if x = t.b then some t.a else f x, n + 1, .val t.a, .val t.b, .val t.c, .val t.d, rfl, by omega, fun z y hz => ?_, fun u hu u0 ua ub => ?_⟩
          · have hz : (if z = t.b then some t.a else f z) = some y := hz
            split at hz
            · rename_i e
              cases hz
              exact ⟨c2, t, List.mem_of_getElem? ht, c1, rfl, e.symm⟩
            · exact h1 z y hz
          · show ∃ y, (if u.b = t.b then some t.a else f u.b) = some y
            split
            · exact ⟨_, rfl⟩
            · rename_i ne
              rw [tk] at hu
              rcases List.mem_append.mp hu with hu | hu
              · exact h2 u hu u0 ua ub
              · rw [List.mem_singleton.mp hu] at ne
                exact absurd rfl ne
        · refine ds_next ⟨f, n, .val t.a, .val t.b, .val t.c, .val t.d, rfl, by omega, h1, fun u hu u0 ua ub => ?_⟩
          rw [tk] at hu
          rcases List.mem_append.mp hu with hu | hu
          · exact h2 u hu u0 ua ub
          · rw [List.mem_singleton.mp hu] at u0 ua ub
            rw [decide_eq_true u0, decide_eq_true ua, decide_eq_true ub] at c
            cases c
      · obtain ⟨f, n, s4, s5, s6, s7, rfl, _, h1, h2⟩ := hI
        rw [List.take_length] at h2
        have tot : ∀ z ∈ l, ∃ y, f z = some y ∧ y ∈ l ∧ Zero ls y z := fun z hz => by
          obtain ⟨a, ha, t, ht, t0, rfl, rfl⟩ := hl.cl z hz
          obtain ⟨y, hy⟩ := h2 t ht t0 ha hz
          exact ⟨y, hy, h1 _ _ hy⟩
        clear h1 h2
        -- the way back
        obtain ⟨z0, hz0⟩ : ∃ z0, l[0]? = some z0 := ⟨_, List.getElem?_eq_getElem l0⟩
        have hz0m := List.mem_of_getElem? hz0
        refine dq_asgO (xs := [z0]) (do_lst (dl_cons (d_ix (d_Lq (d_var rfl)) d_int (atI_nat (j := 0) hz0)) dl_nil) (by show 1 ≤ BIG; decide)) ?_
        let E' : Str → Str → Prop := fun a b => Zero ls b a
        refine ds_seq (ds_while (fun m r => ∃ (w : List Str) (z : Str) (x : Str) (wr : List Str), r = [.val (α := U Str) ps, .val (α := U LkT) ls, .val (α := L Str) l, .obj (ownM n f), s4, s5, s6, s7, .own (w ++ [z]), .no] ∧ (w ++ [z]).Nodup ∧ (∀ y ∈ w ++ [z], y ∈ l) ∧ w ++ [z] = x :: wr ∧ ch E' x wr ∧ l.length + 1 - (w ++ [z]).length = m) (l.length + 1 - 1) ⟨[], z0, z0, [], rfl, by simp, fun y hy => by rw [List.mem_singleton.mp hy]; exact hz0m, rfl, trivial, rfl⟩ fun m r hI => ?_)
        obtain ⟨w, z, x, wr, rfl, nd, sub, ex, hc, hm⟩ := hI
        have wl := nd_len nd sub
        have zl : z ∈ l := sub z (List.mem_append_right _ (List.mem_singleton.mpr rfl))
        obtain ⟨y, fy, yl, zy⟩ := tot z zl
        refine ⟨_, dt_test (d_notInO (d_mget (n := 3) rfl (d_ixO (n := 8) rfl (d_neg d_int) atI_last) fy) rfl), fun c => ?_, fun c => ?_⟩
        · have yn : y ∉ w ++ [z] := by simpa using c
          have wp := nd_len nd fun u hu => hl.sub u (sub u hu)
          refine ds_append (n := 8) (xs := w ++ [z]) (a := y) rfl (d_mget (n := 3) rfl (d_ixO (n := 8) rfl (d_neg d_int) atI_last) fy) (Nat.lt_of_le_of_lt (show _ ≤ 1000 by omega) (by decide)) ?_
          have nd2 : (w ++ [z] ++ [y]).Nodup := List.nodup_append.mpr ⟨nd, by simp, fun a ha b hb e => yn (by rw [List.mem_singleton.mp hb] at e; rw [← e]; exact ha)⟩
          have sub2 : ∀ u ∈ w ++ [z] ++ [y], u ∈ l := fun u hu => by
            rcases List.mem_append.mp hu with hu | hu
            · exact sub u hu
            · rw [List.mem_singleton.mp hu]; exact yl
          have wl2 := nd_len nd2 sub2
          rw [List.length_append, List.length_singleton] at wl2
          refine ⟨_, ?_, w ++ [z], y, x, wr ++ [y], rfl, nd2, sub2, by rw [ex]; rfl, ?_, rfl⟩
          · rw [List.length_append (as := w ++ [z]), List.length_singleton]
            omega
          · cases w with
            | nil =>
              injection ex with e1 e2
              subst e1
              subst e2
              exact ⟨zy, trivial⟩
            | cons a w' =>
              injection ex with e1 e2
              rw [← e2] at hc ⊢
              exact ch_snoc hc zy
        · have yin : y ∈ w ++ [z] := by
            have c : (!decide (y ∈ w ++ [z])) = false := c
            rw [Bool.not_eq_false', decide_eq_true_eq] at c
            exact c
          refine ds_frz (n := 8) rfl ?_
          show DS K B _ [.val (α := U Str) ps, .val (α := U LkT) ls, .val (α := L Str) l, .obj (ownM n f), s4, s5, s6, s7, .val (α := L Str) (w ++ [z]), .no] _
          obtain ⟨i1, i2⟩ := idx_mem yin
          have wp := nd_len nd fun u hu => hl.sub u (sub u hu)
          generalize (w ++ [z]).idxOf y = k at i1 i2
          refine dq_asgI (δ := L Str) ((w ++ [z]).drop k) (DE.is (DO.l (do_slice (d_var rfl) (dp_some (d_indexS (d_var rfl) (d_mget (n := 3) rfl (d_ix (d_Lq (d_var rfl)) (d_neg d_int) atI_last) fy) i1 i2)) dp_none)) cutA_drop) ?_
          show DS K B _ [.val (α := U Str) ps, .val (α := U LkT) ls, .val (α := L Str) l, .obj (ownM n f), s4, s5, s6, s7, .val (α := L Str) (w ++ [z]), .val (α := L Str) ((w ++ [z]).drop k)] _
          have kl : k < (w ++ [z]).length := (List.getElem?_eq_some_iff.mp i1).1
          have cy : Cyc E' ((w ++ [z]).drop k) := by
            have e : (w ++ [z]).drop k = y :: (w ++ [z]).drop (k + 1) := by
              rw [List.drop_eq_getElem_cons kl]
              congr 1
              exact (List.getElem?_eq_some_iff.mp i1).2
            refine ⟨y, _, e, ?_⟩
            -- the chain from y on, and back
            have full : ch E' x (wr ++ [y]) := by
              cases w with
              | nil =>
                injection ex with e1 e2
                subst e1
                subst e2
                exact ⟨zy, trivial⟩
              | cons a w' =>
                injection ex with e1 e2
                rw [← e2] at hc ⊢
                exact ch_snoc hc zy
            cases k with
            | zero =>
              rw [ex] at i1
              cases i1
              rw [ex]
              exact full
            | succ k =>
              have e3 : wr = wr.take k ++ y :: (w ++ [z]).drop (k + 1 + 1) := by
                rw [ex, List.drop_succ_cons, List.drop_succ_cons] at e
                rw [ex, List.drop_succ_cons, ← e, List.take_append_drop]
              rw [e3, List.append_assoc] at full
              exact (ch_app.mp full).2
          have nd3 : ((w ++ [z]).drop k).Nodup := nd.sublist (List.drop_sublist _ _)
          have lr : ((w ++ [z]).drop k).length = (w ++ [z]).length - k := List.length_drop ..
          have mm : ∀ u ∈ (w ++ [z]).drop k, u ∈ ps := fun u hu => hl.sub u (sub u (List.mem_of_mem_drop hu))
          generalize (w ++ [z]).drop k = cw at cy nd3 lr mm
          obtain ⟨r1, r2⟩ := rotS_ring (ls := ls) cy.rev (List.pairwise_reverse.mpr (List.Pairwise.imp (fun h => Ne.symm h) nd3))
          exact ds_ret (α := Option (U Str)) (a := some (rotS cw.reverse)) (d_some (d_call1 (α := L Str) (γ := U Str) (x := cw.reverse) (f := fun r => rotS r) (DO.l (do_rev (d_var rfl))) ⟨by show 0 < cw.reverse.length; rw [List.length_reverse]; omega, by show cw.reverse.length ≤ 1000; rw [List.length_reverse]; omega⟩)) (qs _ r1 fun u hu => mm u (List.mem_reverse.mp ((r2 u).mp hu)))
end
end WW
set_option Elab.async false
set_option linter.all false
set_option maxRecDepth 100000
set_option maxHeartbeats 4000000
namespace WW
open PySem PySem.Spec PyProof.Rows L2
abbrev XPH := Hp → Addr → List (Str × V) → Prop
def PXH (B : Addr → Prop) (X : XPH) (E : XK) (S0 H0 : Hp) : Prop := ∀ C fs d S' H', X S' C fs → Ext B S0 H0 S' H' → H0 d = none → H' d = some (.xd fs) → E (.ref C) (some d) H'
def spTXH (K : PySem.W.Frag) (dp : List Slot → (Slot → Prop) → XPH → Prop) : Sp := fun vs H Q E => ∃ B S ss R X, Same S H ∧ (∀ p, B p → S p = none ∧ IsBx (H p)) ∧ ArgsOk K B H S H vs ss ∧ dp ss R X ∧ (∀ s v S' H', R s → Ext B S H S' H' → SlotOk K B H S' H' (some v) s → Q v H') ∧ PXH B X E S H
section
variable {K : PySem.W.Frag} {B : Addr → Prop} {ρ : List Slot} {ta tb tc te : TE} {Φ : Post} {α : Type} {e_α : Enc α} {a : α}
theorem ds_raiseH {C : Addr} {fld : Str} {E : XK} {X : XPH} (h : DE K B te ρ a) (hx : ∀ S v, Enc.rep K S v a → X S C [(fld, v)]) (hp : ∀ S0 H0, Φ.px S0 H0 → PXH B X E S0 H0) :
    DS K B (fun _ σ H => tMkS C fld te σ H fun cls d H' => E cls d H') ρ Φ := fun S0 H0 S H σ D En px n r b c =>
  h S0 H0 S H σ En _ fun v S1 H1 e1 r1 d hd => hp S0 H0 px C _ d S1 _ (hx S1 v r1) ((En.ext.trans e1).trans (Ext.priv e1.i hd)) ((En.ext.trans e1).free En.i0 hd) upd_same
theorem PXH.sub {X X' : XPH} {E : XK} {S0 H0 S1 H1 : Hp} (h : PXH B X E S0 H0) (i : Same S0 H0) (e : Ext B S0 H0 S1 H1) (f : ∀ S C fs, X' S C fs → X S C fs) : PXH B X' E S1 H1 := fun C fs d S' H' hX e2 nd hd =>
  h C fs d S' H' (f _ _ _ hX) (e.trans e2) (e.free i nd) hd
end
theorem okTXH {P : Program} {w : World} {K : PySem.W.Frag} {mg : Str → Option Value} {base : Heap} {x qual : Str} {params : Arguments} {body : List Stmt} {scope : Scope} {dvs : List V} {kws : List (Str × V)} {f : Addr} {fd : FuncData} {N ps : List Str} {k : Nat} {dp : List Slot → (Slot → Prop) → XPH → Prop}
    (F : FunD K x qual params body scope dvs kws f fd) (S : FnScope N ps scope) (len : ∀ ss R X, dp ss R X → ss.length = ps.length)
    (hbody : ∀ (cdv : Value) (A : Around) (outer : List PySem.Env) (s : Shared) (H : Hp) (E : XK), Room k (A.deeper (envOfC qual scope s.heap.objs.size f cdv)) →
      ∃ t, PSs (cxOf (L2.CX P w) P w K mg base N qual scope f cdv A outer s H E) body t ∧ ∀ (B : Addr → Prop) ss R X, dp ss R X → DS K B t (startS N ss) ⟨fun _ => R (.val ()), R, fun _ => False, fun _ => False, fun S0 H0 => PXH B X E S0 H0⟩) : FnOk P w K mg base (L2.CX P w) (k + 1) f fd ps (spTXH K dp) := by
  refine F.ok S (fun vs H Q E h => ?_) (fun cdv A outer s H vs Q E hr h => ?_)
  · obtain ⟨B, S, ss, R, X, _, _, ha, hd, _⟩ := h
    rw [ha.length, len ss R X hd]
  · obtain ⟨B, S, ss, R, X, hi, hb, ha, hd, q, qx⟩ := h
    obtain ⟨t, h1, h2⟩ := hbody cdv A outer s H E hr
    exact ⟨t, h1, h2 B ss R X hd S H S H _ _ (start_en hi hb ha) qx (fun ρ' σ' S' H' r _ E' => q _ _ S' H' r E'.ext rfl) (fun s v S' H' r ex ok => q s v S' H' r ex ok) (fun _ _ _ _ h => h.elim) (fun _ _ _ _ h => h.elim)⟩
end WW
set_option Elab.async false
set_option linter.all false
set_option maxRecDepth 100000
set_option maxHeartbeats 4000000
namespace WW
open PySem PySem.Spec PyProof.Rows L2
def shS (ms : List DMd) : List (Str × Shp) := ms.foldl (fun sh m => sh ++ [(m.n, shapeM m sh)]) []
theorem shS_snoc (a : List DMd) (m : DMd) : shS (a ++ [m]) = shS a ++ [(m.n, shapeM m (shS a))] := by
  unfold shS
  rw [List.foldl_append]
  rfl
theorem shS_keys : ∀ (a : List DMd), (shS a).map (·.1) = a.map (·.n) := fun a => by
  unfold shS
  have : ∀ (l : List DMd) (sh : List (Str × Shp)), (l.foldl (fun sh m => sh ++ [(m.n, shapeM m sh)]) sh).map (·.1) = sh.map (·.1) ++ l.map (·.n) := fun l => by
    induction l with
    | nil => intro sh; simp
    | cons m r ih => intro sh; rw [List.foldl_cons, ih]; simp
  rw [this]
  rfl
def NoRing (m : DMd) (sh : List (Str × Shp)) : Prop := LooseOk (srt ltS (plOf m sh)) (srt ltL (lkOf m sh)) []
structure ShsOk (ms : List DMd) : Prop where
  at' : ∀ (i : Nat) (m : DMd), ms[i]? = some m → ShOk m (shS (ms.take i))
  nd : (ms.map (·.n)).Nodup
  len : ms.length ≤ 10
section
variable {K : PySem.W.Frag} {B : Addr → Prop} {ρ : List Slot}
theorem dob_dct {α : Type} [Enc α] : DOb K B tDNewK ρ (ownD ([] : List (Str × α))) := fun S0 H0 S H σ E Q q p hp => q p _ S _ (Ext.priv E.i hp) hp (E.i.free hp) upd_same ⟨Nat.zero_le _, [], rfl, .nil⟩
end
section
variable {P : Program} {w : World} {K : PySem.W.Frag} {mg : Str → Option Value} {base : Heap} {f : Addr} {fd : FuncData}
def ringX (K : PySem.W.Frag) (rg : List Str) : XPH := fun S C fs => C = He.ga K "NeverGoes" ∧ ∃ v, fs = ([("ring", v)] : List (Str × V)) ∧ Enc.rep K S v (show U Str from rg)
def dpKnS (K : PySem.W.Frag) : List Slot → (Slot → Prop) → XPH → Prop := fun ss R X => ∃ ms : List DMd, ss = [.val (α := List MOb) (ms.map MOb.mk)] ∧ ShsOk ms ∧ ((∀ i m, ms[i]? = some m → NoRing m (shS (ms.take i))) → R (.val (Dct.mk (shS ms)))) ∧
  ∀ i m rg, ms[i]? = some m → (∀ j m', j < i → ms[j]? = some m' → NoRing m' (shS (ms.take j))) → IsRing (srt ltL (lkOf m (shS (ms.take i)))) rg → (∀ z ∈ rg, z ∈ srt ltS (plOf m (shS (ms.take i)))) → ∀ S C fs, ringX K rg S C fs → X S C fs
theorem srt_len {α : Type} {lt : α → α → Bool} {l : List α} : (srt lt l).length = l.length := (List.mergeSort_perm l _).length_eq
abbrev N_known_shapes : List Str := ["modules", "shapes", "module", "places", "links", "ring"]
theorem sc_known_shapes : FnScope N_known_shapes ["modules"] (defScope s_known_shapes) := ⟨rfl, rfl, rfl, by decide +kernel, rfl, by decide +kernel, by decide +kernel⟩
theorem ok_known_shapes (F : FnP K "known_shapes" s_known_shapes f fd) (MC : ModC K (He.ga K "Module")) (g_shape_of : FnAt P w K mg base CX0 2 "shape_of" ["module", "shapes"] (spT K dpShape)) (g_ring_of : FnAt P w K mg base CX0 2 "ring_of" ["places", "links"] (spT K dpRing)) (S_NeverGoes : SupAt P K mg "NeverGoes" "ring") :
    FnOk P w K mg base (L2.CX P w) 3 f fd ["modules"] (spTXH K (dpKnS K)) := by
  refine okTXH F sc_known_shapes (fun ss R X h => ?_) (fun cdv A outer s H E hr => ⟨_, (pss_cons (ps_set (i := 1) sc_known_shapes.nd rfl (.inl rfl) (pe_dnewK))
 (pss_cons (ps_for (passes_of rfl) rfl (pi_seqK K (pv 0)) (pg_name (i := 2) sc_known_shapes.nd rfl (.inl rfl)) (pss_cons (ps_asg (pe_fn g_shape_of hr rfl (pa_cons (pv 2) (pa_cons (pv 1) (pa_nil)))) (pg_tupK (n := 2) K rfl (pgs_cons (pg_name (i := 3) sc_known_shapes.nd rfl (.inl rfl)) (pgs_cons (pg_name (i := 4) sc_known_shapes.nd rfl (.inl rfl)) (pgs_nil)))))
 (pss_cons (ps_set (i := 5) sc_known_shapes.nd rfl (.inl rfl) (pe_fn g_ring_of hr rfl (pa_cons (pv 3) (pa_cons (pv 4) (pa_nil)))))
 (pss_cons (ps_if (pt_cmpR op_notN (pv 5) (pe_non) (nomark _)) (pss_one (ps_raise rfl (takes_of rfl rfl rfl rfl) (pmk_sup S_NeverGoes hr rfl (pv 5)))) (pss_nil))
 (pss_one (ps_dput (hu_of hr) (pv 1) (pe_fldK K (pv 2) rfl) (pe_tup (pa_cons (pv 3) (pa_cons (pv 4) (pa_nil)))) rfl))))))
 (pss_one (ps_ret (pv 1))))), fun B ss R X h => ?_⟩)
  · obtain ⟨ms, rfl, _⟩ := h
    rfl
  · obtain ⟨ms, rfl, ok, q, qx⟩ := h
    have ml := ok.len
    show DS K B _ [.val (α := List MOb) (ms.map MOb.mk), .no, .no, .no, .no, .no] _
    refine ds_seq (ds_asgOb (P := ownD ([] : List (Str × Shp))) dob_dct ?_)
    show DS K B _ [.val (α := List MOb) (ms.map MOb.mk), .obj (ownD ([] : List (Str × Shp))), .no, .no, .no, .no] _
    refine dq_for (xs := ms.map MOb.mk) (di_seq (d_var rfl)) (fun i r => ∃ s2 s3 s4 s5 : Slot, r = [.val (α := List MOb) (ms.map MOb.mk), .obj (ownD (shS (ms.take i))), s2, s3, s4, s5] ∧ ∀ j m', j < i → ms[j]? = some m' → NoRing m' (shS (ms.take j))) ⟨.no, .no, .no, .no, rfl, fun j m' h => absurd h (Nat.not_lt_zero _)⟩ (fun i o r ho hI => ?_) fun r hI => ?_
    · obtain ⟨s2, s3, s4, s5, rfl, hj⟩ := hI
      obtain ⟨m, hm, rfl⟩ : ∃ m, ms[i]? = some m ∧ MOb.mk m = o := by
        rw [List.getElem?_map] at ho
        cases hh : ms[i]? with
        | none => rw [hh] at ho; cases ho
        | some m => rw [hh] at ho; cases ho; exact ⟨m, rfl, rfl⟩
      have sk := ok.at' i m hm
      have n64 := sk.n64
      have n1 := sk.n1
      have il := (List.getElem?_eq_some_iff.mp hm).1
      refine ⟨_, _, dg_name, ?_⟩
      show DS K B _ [.val (α := List MOb) (ms.map MOb.mk), .obj (ownD (shS (ms.take i))), .val (MOb.mk m), s3, s4, s5] _
      let pl : List Str := srt ltS (plOf m (shS (ms.take i)))
      let lk : List LkT := srt ltL (lkOf m (shS (ms.take i)))
      refine dq_asgG (α := Shp) (a := shapeM m (shS (ms.take i))) (d_call (da_cons (d_var rfl) (da_own rfl da_nil)) ⟨m, _, rfl, sk, rfl⟩) (DG.pair dg_name dg_name) ?_
      show DS K B _ [.val (α := List MOb) (ms.map MOb.mk), .obj (ownD (shS (ms.take i))), .val (MOb.mk m), .val (α := U Str) pl, .val (α := U LkT) lk, s5] _
      refine dq_asgN (α := Option (U Str)) (P := fun o => (o = none ∧ LooseOk pl lk []) ∨ ∃ rg : List Str, o = some rg ∧ IsRing lk rg ∧ ∀ z ∈ rg, z ∈ pl) (dn_call (da_cons (d_var rfl) (da_cons (d_var rfl) da_nil)) ⟨pl, lk, rfl, by show (srt ltS _).length ≤ 1000; rw [srt_len]; omega, by show (srt ltL _).length ≤ 1000; rw [srt_len]; omega, fun h => ⟨_, .inl ⟨rfl, h⟩, rfl⟩, fun rg h1 h2 => ⟨_, .inr ⟨rg, rfl, h1, h2⟩, rfl⟩⟩) fun o ho => ?_
      have tk : ms.take (i + 1) = ms.take i ++ [m] := by rw [List.take_add_one, hm]; rfl
      rcases ho with ⟨rfl, hl⟩ | ⟨rg, rfl, h1, h2⟩
      · show DS K B _ [.val (α := List MOb) (ms.map MOb.mk), .obj (ownD (shS (ms.take i))), .val (MOb.mk m), .val (α := U Str) pl, .val (α := U LkT) lk, .val (α := Option (U Str)) none] _
        refine dq_when (c := false) (DT.is (dt_test (d_notN (α := U Str) (o := none) (d_var rfl) inferInstance)) rfl) (fun h => nomatch h) fun _ => ?_
        refine ds_dput (n := 1) (xs := shS (ms.take i)) (a := shapeM m (shS (ms.take i))) rfl (d_pair (d_var rfl) (d_var rfl)) (d_mname MC (d_var rfl)) ?_ ?_ ⟨.val (MOb.mk m), .val (α := U Str) pl, .val (α := U LkT) lk, .val (α := Option (U Str)) none, ?_, fun j m' hj2 hm' => ?_⟩
        · rw [shS_keys]
          have nd := ok.nd
          rw [← List.take_append_drop (i + 1) ms, tk, List.map_append, List.map_append] at nd
          have nd := (List.nodup_append.mp nd).1
          exact fun hin => (List.nodup_append.mp nd).2.2 _ hin _ (List.mem_singleton.mpr rfl) rfl
        · have : (shS (ms.take i)).length = (ms.take i).length := by
            have := congrArg List.length (shS_keys (ms.take i))
            rw [List.length_map, List.length_map] at this
            exact this
          rw [this, List.length_take]
          omega
        · rw [tk, shS_snoc]
          rfl
        · rcases Nat.lt_or_ge j i with c | c
          · exact hj j m' c hm'
          · have e : j = i := by omega
            subst e
            rw [hm] at hm'
            cases hm'
            exact hl
      · show DS K B _ [.val (α := List MOb) (ms.map MOb.mk), .obj (ownD (shS (ms.take i))), .val (MOb.mk m), .val (α := U Str) pl, .val (α := U LkT) lk, .val (α := Option (U Str)) (some rg)] _
        refine dq_when (c := true) (DT.is (dt_test (d_notN (α := U Str) (o := some rg) (d_var rfl) inferInstance)) rfl) (fun _ => ?_) fun h => nomatch h
        exact ds_raiseH (α := Option (U Str)) (a := some rg) (X := X) (d_var rfl) (fun S v r => qx i m rg hm hj h1 h2 S _ _ ⟨rfl, v, rfl, r⟩) fun S0 H0 e => e
    · obtain ⟨s2, s3, s4, s5, rfl, hj⟩ := hI
      rw [List.length_map, List.take_length]
      refine ds_frzD (n := 1) rfl (ds_ret (d_var rfl) (q fun i m hm => hj i m ?_ hm))
      rw [List.length_map]
      exact (List.getElem?_eq_some_iff.mp hm).1
end
end WW
set_option Elab.async false
set_option linter.all false
set_option maxRecDepth 100000
set_option maxHeartbeats 4000000
namespace WW
open PySem PySem.Spec PyProof.Rows L2
theorem valV_is {α : Type} [Enc α] {K : PySem.W.Frag} {S : Hp} {z : Str} : ∀ {kvs : List (Key × V)} {xs : List (Str × α)}, Paired (KvR K S) kvs xs → (valV kvs (Sum.inr z)).isSome = ((Dct.mk xs).get z).isSome
  | _, _, .nil => rfl
  | _ :: _, x :: xs, .cons k1 k2 => by
    by_cases c : x.1 = z
    · rw [valV_pos (by rw [k1.1, c])]
      show true = ((List.find? (fun x => decide (x.1 = z)) (x :: xs)).map (·.2)).isSome
      rw [List.find?_cons, decide_eq_true c]
      rfl
    · rw [valV_neg (by rw [k1.1]; exact fun e => c (by injection e)), valV_is k2]
      show _ = ((List.find? (fun x => decide (x.1 = z)) (x :: xs)).map (·.2)).isSome
      rw [List.find?_cons, decide_eq_false c]
      rfl
section
variable {K : PySem.W.Frag} {B : Addr → Prop} {ρ ρ' ρ1 ρ2 : List Slot} {ta tb tc td te tk tv : TE} {t u : TT} {ts tu tz : TS} {Φ : Post} {α β γ δ : Type} {e_α : Enc α} {e_β : Enc β} {a : α} {b : β} {i j : Int} {z y : Str}
theorem d_dcDct {wi : TI} {g : TG} {vs : List Nat} {xs : List α} (f : α → Str) (v : α → β) (hi : DI K B wi ρ xs) (hl : xs.length ≤ 1000) (nd : (xs.map f).Nodup)
    (h : ∀ x ∈ xs, ∃ ρ' js, DG K B g x (wipeS ρ vs) ρ' js ∧ (∀ i ∈ js, i ∈ vs) ∧ DE K B tk ρ' (f x) ∧ DE K B tv ρ' (v x)) : DE K B (tDc wi g tYes tk tv vs) ρ (Dct.mk (xs.map fun x => (f x, v x))) := by
  intro S0 H0 S H σ E Q q
  refine hi S0 H0 S H σ E _ fun J S1 H1 e1 y D hD => ?_
  have hD0 : H D = none := e1.free E.i hD
  have nB : ¬ B D := fun z => (E.bx D z).2.2 (E.ext.free E.i0 hD0)
  let Pv : Nat → Hp → Prop := fun i Hc => ∃ Sc kvs, Ext B S1 H1 Sc Hc ∧ Sc D = none ∧ Hc D = some (.dK kvs) ∧ Paired (KvR K Sc) kvs ((xs.take i).map fun x => (f x, v x))
  refine ⟨fun i m Hc => m = xs.length - i ∧ i ≤ xs.length ∧ Pv i Hc, ⟨xs.length, by simp, Nat.zero_le _, S1, [], Ext.priv e1.i hD, e1.i.free hD, upd_same, .nil⟩, ?_⟩
  rintro i m Hc ⟨rfl, hle, Sc, kvs, ex, hs, hh, pr⟩
  have yy := y Sc Hc ex.s (E.ext.trans (e1.trans ex))
  by_cases hlt : i < xs.length
  · refine .inr ?_
    obtain ⟨x, hx⟩ : ∃ x, xs[i]? = some x := ⟨_, List.getElem?_eq_getElem hlt⟩
    obtain ⟨hgo, hy⟩ := yy.1 i x hx
    refine ⟨hgo, Pv (i + 1), fun H' hp => ⟨xs.length - (i + 1), by omega, rfl, hlt, hp⟩, fun w H' hyl => ?_⟩
    obtain ⟨S2, e2, r2⟩ := hy w H' hyl
    obtain ⟨ρ', js, hg, hjs, hk, hv⟩ := h x (List.mem_of_getElem? hx)
    refine hg S0 H0 S2 H' (wipe σ vs) w ((E.go ((e1.trans ex).trans e2)).wp vs) r2 _ fun σ2 E2 l2 f2 => ⟨?_, ?_⟩
    · have z := wipe_eq (vs := vs) l2 fun i hi => f2 i fun z => hi (hjs i z)
      rw [z, wipe_wipe]
    · show tYes σ2 H' _
      refine hk S0 H0 S2 H' σ2 E2 _ fun kk S4 H4 e4 r4 => ?_
      cases r4
      refine hv S0 H0 S4 H4 σ2 (E2.go e4) _ fun w2 S5 H5 e5 r5 => ?_
      have e25 := (e2.trans e4).trans e5
      obtain ⟨q1, q2⟩ := e25.p D hs (by rw [hh]; exact fun z => nomatch z)
      have a2 : H5 D = some (.dK kvs) := by
        rcases q2 with q2 | ⟨q2, _⟩
        · rw [q2]; exact hh
        · exact absurd q2 nB
      have kl : kvs.length ≤ xs.length := by
        rw [pr.length, List.length_map, List.length_take]
        exact Nat.min_le_right _ _
      have nk : valV kvs (Sum.inr (f x)) = none := by
        refine valV_none pr ?_
        rw [List.map_map]
        intro hin
        have hin : f x ∈ (xs.take i).map f := hin
        rw [← List.take_append_drop (i + 1) xs, List.take_add_one, hx, List.map_append, List.map_append] at nd
        exact (List.nodup_append.mp (List.nodup_append.mp nd).1).2.2 _ hin (f x) (by simp) rfl
      refine ⟨kvs, Sum.inr (f x), rfl, a2, ?_, S5, putK kvs (Sum.inr (f x)) w2, (ex.trans e25).mut hD q1, q1, upd_same, ?_⟩
      · exact Nat.lt_of_le_of_lt (Nat.le_trans kl hl) (by decide)
      · rw [putK_new _ nk, List.take_add_one, hx, List.map_append]
        exact Paired.app (Paired.mono (fun _ _ => KvR.mono e25.s) pr) (.cons ⟨rfl, r5⟩ .nil)
  · refine .inl ⟨?_, ?_⟩
    · rw [show i = xs.length by omega]
      exact yy.2
    · rw [List.take_of_length_le (by omega)] at pr
      have fz : Ext B S H (upd Sc D (.dK kvs)) Hc := (e1.trans ex).frz hD0 E.i hh hs
      exact q _ _ Hc fz ⟨by rw [List.length_map]; exact hl, D, kvs, rfl, upd_same, Paired.mono (fun _ _ => KvR.mono (same_new hs)) pr⟩
theorem d_inOb {n : Nat} {xs : List (Str × α)} (h1 : DE K B te ρ z) (hn : ρ[n]? = some (.obj (ownD xs))) : DE K B (tDIn te (tVar n)) ρ (((Dct.mk xs).get z).isSome) := fun S0 H0 S H σ E Q q =>
  h1 S0 H0 S H σ E _ fun v S1 H1 e1 r1 => by
    cases r1
    obtain ⟨p, o, g1, h0, hs, hh, hl, kvs, rfl, rr⟩ := (E.go e1).obj hn
    refine ⟨_, g1, p, valV kvs (Sum.inr z), rfl, DGet.k (k := Sum.inr z) hh, ?_⟩
    have e := valV_is (z := z) rr
    rw [e]
    exact q _ S1 H1 e1 rfl
end
end WW
set_option Elab.async false
set_option linter.all false
set_option maxRecDepth 100000
set_option maxHeartbeats 4000000
namespace WW
open PySem PySem.Spec PyProof.Rows L2
section
variable {X : Cx}
theorem ps_setDc {i : Nat} {y : Str} {py : Pos} {kx vx tg iter : Expr} {ifs : List Expr} {scope : Scope} {own : List (Str × Nat)} {pos spos : Pos} {wi : TI} {g : TG} {tt : TT} {tk tv : TE} (hc : X.calm = true) (hN : X.N.Nodup) (hy : X.N[i]? = some y) (hyl : X.env.scope.names.lookup y = some .local)
    (hsw : swapsWith (.DictComp kx vx [⟨tg, iter, ifs, 0⟩] scope pos) (some (.Name y py)) spos.line X.env = pure true) (hi : PI X tg iter wi) (ok : BlkOk X.N X.env.scope scope own)
    (hg : ∀ (s : Shared) (H : Hp) (C : Addr) (cl : List (Str × Addr)) (fp : List Addr), PG (X.blk s H scope (compEnvC scope cl C X.env) fp) tg g) (ht : ∀ (s : Shared) (H : Hp) (C : Addr) (cl : List (Str × Addr)) (fp : List Addr), PTs (X.blk s H scope (compEnvC scope cl C X.env) fp) ifs tt)
    (hk : ∀ (s : Shared) (H : Hp) (C : Addr) (cl : List (Str × Addr)) (fp : List Addr), PE (X.blk s H scope (compEnvC scope cl C X.env) fp) kx tk)
    (he : ∀ (s : Shared) (H : Hp) (C : Addr) (cl : List (Str × Addr)) (fp : List Addr), PE (X.blk s H scope (compEnvC scope cl C X.env) fp) vx tv) (hs : ∀ x, foldedSetIterable iter X.env x = pure x := by intro _; rfl) :
    PS X (.Assign [.Name y py] (.DictComp kx vx [⟨tg, iter, ifs, 0⟩] scope pos) spos) (tAsg (tDc wi g tt tk tv (own.map (·.2))) (gName i)) := by
  refine ⟨fun pins s σ H D I h => ?_⟩
  rw [exec_Assign_Name_used _ _ _ _ hsw]
  refine wpAny_bind (wpAny_standAt (wpAny_bind ?_))
  show wpAny _ X.A (do let _ ← comprehension (.DictComp kx vx [⟨tg, iter, ifs, 0⟩] scope pos) scope X.env (firstIterPos [⟨tg, iter, ifs, 0⟩] pos) newDict false (eval iter X.env) (some (assign (.Name y py) X.env))) _ _ s
  have h : tDc wi g tt tk tv (own.map (·.2)) σ H (fun x H1 => gName i x σ H1 D.nx) := h
  refine wpAny_bind (thn (dc_core (Qf := fun _ s' => SP X pins D .next s') hc hN I hi ok hg ht hk he hs h fun L C s' m H' I' q hn f => ?_) fun _ s' hq => wpAny_pure (wpAny_pure hq))
  show wpAny _ _ (assign (.Name y py) X.env (.ref L)) _ _ _
  refine wpAny_assign_Name (store_ok2 (v := V.ref L) I' hN hy (.inl hyl) rfl (fun s2 I2 ⟨a, sb, ha⟩ => ?_) (.inr hyl))
  obtain ⟨f0, f1, f2, f3, f4, f5⟩ := f
  have haC : C ≠ a := by
    rcases ha with z | z
    · rw [z]; exact f1
    · exact fun e => f4 y a z e.symm
  refine ⟨m, hn.sameBut sb haC, fun h3 sb3 => ?_⟩
  exact ⟨_, H', I2.turned (t' := s2.toks) (fun b o hb e => (sb3.2 b hb).trans e) f0 f1 f3 f4 f5, q⟩
theorem sw_trueD {kx vx : Expr} {gs : List Comprehension} {scope : Scope} {pos py : Pos} {y : Str} {l : Nat} {env : Env} (hk : env.scope.kind = .function) (hy : env.scope.names.lookup y = some .local) (hl : (py.line == pos.line) = true)
    (ha : (scope.names.any fun (n, k) => n == y && (k == .local || k == .cell)) = false) : swapsWith (.DictComp kx vx gs scope pos) (some (.Name y py)) l env = pure true := by
  have ky : env.kindOf y = some .local := hy
  have hb : env.blockKind = .function := by unfold Env.blockKind; rw [hk]; rfl
  unfold swapsWith
  simp only [hb, ky, ha, Expr.pos, hl]
  rfl
end
end WW
set_option Elab.async false
set_option linter.all false
set_option maxRecDepth 100000
set_option maxHeartbeats 4000000
namespace WW
open PySem PySem.Spec PyProof.Rows L2
def lookM (kn : List (Str × MOb)) (z : Str) : DMd := (((Dct.mk kn).get z).getD ⟨noM⟩).m
def calledD (m : DMd) (kn : List (Str × MOb)) : List (Str × MOb) := m.c.map fun t => (t.1, MOb.mk (lookM kn t.2))
def endOk (cd : List (Str × MOb)) (sel : DMd → List Str) (z : Str) : Bool := !(decide ((Txt.partition z ".").2.1 = dot) && !decide ((Txt.partition z ".").2.2 ∈ sel (lookM cd (Txt.partition z ".").1)))
def endsOk (m : DMd) (kn : List (Str × MOb)) : Bool := m.l.all fun t => endOk (calledD m kn) DMd.o t.a && endOk (calledD m kn) DMd.i t.b
structure EndPre (m : DMd) (kn : List (Str × MOb)) : Prop where
  nd : m.labels.Nodup
  len : m.c.length ≤ 1000
  get : ∀ t ∈ m.c, (Dct.mk kn).get t.2 = some (MOb.mk (lookM kn t.2))
  lab : ∀ t ∈ m.l, ∀ z, z = t.a ∨ z = t.b → z.length ≤ 1000 ∧ (decide ((Txt.partition z ".").2.1 = dot) = true → (Dct.mk (calledD m kn)).get (Txt.partition z ".").1 = some (MOb.mk (lookM (calledD m kn) (Txt.partition z ".").1)))
section
variable {P : Program} {w : World} {K : PySem.W.Frag} {mg : Str → Option Value} {base : Heap} {f : Addr} {fd : FuncData}
def dpEnds : List Slot → (Slot → Prop) → Prop := fun ss R => ∃ (m : DMd) (kn : List (Str × MOb)), ss = [.val (MOb.mk m), .out (ownD kn)] ∧ EndPre m kn ∧ R (.val (endsOk m kn))
abbrev N_ends_are_there : List Str := ["module", "known", "called", "first", "then", "marks", "lasts", "label", "point", "name"]
theorem sc_ends_are_there : FnScope N_ends_are_there ["module", "known"] (defScope s_ends_are_there) := ⟨rfl, rfl, rfl, by decide +kernel, rfl, by decide +kernel, by decide +kernel⟩
theorem ok_ends (F : FnP K "ends_are_there" s_ends_are_there f fd) (MC : ModC K (He.ga K "Module")) : FnOk P w K mg base CX0 1 f fd ["module", "known"] (spT K dpEnds) := by
  refine okT F sc_ends_are_there (fun ss R h => ?_) (fun cdv A outer s H E hr => ⟨_, (pss_cons (ps_setDc (i := 2) (own := [("label", 7), ("name", 9)]) rfl sc_ends_are_there.nd rfl rfl (sw_trueD rfl rfl rfl (by decide +kernel)) (pi_seqK K (pe_fldK K (pv 0) rfl)) (blkOk_by (N := N_ends_are_there) (sc := defScope s_ends_are_there) (by decide +kernel)) (fun _ _ _ _ _ => pg_tupK (n := 2) K rfl (pgs_cons (pg_name (i := 7) sc_ends_are_there.nd rfl (.inl rfl)) (pgs_cons (pg_name (i := 9) sc_ends_are_there.nd rfl (.inl rfl)) (pgs_nil)))) (fun _ _ _ _ _ => pts_nil) (fun _ _ _ _ _ => pv 7) (fun _ _ _ _ _ => pe_dget (hu_of hr) (pv 1) (pv 9) (fun _ _ => rfl)))
 (pss_cons (ps_for PassesOwn.never rfl (pi_seqK K (pe_fldK K (pv 0) rfl)) (pg_tupK (n := 4) K rfl (pgs_cons (pg_name (i := 3) sc_ends_are_there.nd rfl (.inl rfl)) (pgs_cons (pg_name (i := 4) sc_ends_are_there.nd rfl (.inl rfl)) (pgs_cons (pg_name (i := 5) sc_ends_are_there.nd rfl (.inl rfl)) (pgs_cons (pg_name (i := 6) sc_ends_are_there.nd rfl (.inl rfl)) (pgs_nil)))))) (pss_cons (ps_asg (pe_partition (pv 3) pe_str) (pg_tupK (n := 3) K rfl (pgs_cons (pg_name (i := 7) sc_ends_are_there.nd rfl (.inl rfl)) (pgs_cons (pg_name (i := 8) sc_ends_are_there.nd rfl (.inl rfl)) (pgs_cons (pg_name (i := 9) sc_ends_are_there.nd rfl (.inl rfl)) (pgs_nil))))))
 (pss_cons (ps_if (PW.pt (pw_and (pt_cmpR op_eq (pv 8) (pe_str) (nomark _)) (pw_and1 (pt_cmpR (op_notInK K) (pv 9) (pe_fldK K (pe_dget (hu_of hr) (pv 2) (pv 7) (fun _ _ => rfl)) rfl) rfl)))) (pss_one (ps_ret (pe_bl))) (pss_nil))
 (pss_cons (ps_asg (pe_partition (pv 4) pe_str) (pg_tupK (n := 3) K rfl (pgs_cons (pg_name (i := 7) sc_ends_are_there.nd rfl (.inl rfl)) (pgs_cons (pg_name (i := 8) sc_ends_are_there.nd rfl (.inl rfl)) (pgs_cons (pg_name (i := 9) sc_ends_are_there.nd rfl (.inl rfl)) (pgs_nil))))))
 (pss_one (ps_if (PW.pt (pw_and (pt_cmpR op_eq (pv 8) (pe_str) (nomark _)) (pw_and1 (pt_cmpR (op_notInK K) (pv 9) (pe_fldK K (pe_dget (hu_of hr) (pv 2) (pv 7) (fun _ _ => rfl)) rfl) rfl)))) (pss_one (ps_ret (pe_bl))) (pss_nil)))))))
 (pss_one (ps_ret (pe_bl))))), fun B ss R h => ?_⟩)
  · obtain ⟨m, sh, rfl, _⟩ := h
    rfl
  · obtain ⟨m, kn, rfl, ok, q⟩ := h
    have b18 : ∀ {n : Nat}, n ≤ 10000 → n ≤ BIG := fun h => Nat.le_trans h (by decide)
    show DS K B _ [.val (MOb.mk m), .out (ownD kn), .no, .no, .no, .no, .no, .no, .no, .no] _
    refine dq_asgI (δ := Dct MOb) (Dct.mk (calledD m kn)) (d_dcDct (fun t : Str × Str => t.1) (fun t => MOb.mk (lookM kn t.2)) (di_seq (d_Uq (d_mcalls MC (d_var rfl)))) ok.len ok.nd fun t ht => ⟨_, _, DG.pair dg_name dg_name, by simp, d_var rfl, d_getDO (n := 1) rfl (d_var rfl) (ok.get t ht)⟩) ?_
    show DS K B _ [.val (MOb.mk m), .out (ownD kn), .val (Dct.mk (calledD m kn)), .no, .no, .no, .no, .no, .no, .no] _
    have lab := ok.lab
    have eq : endsOk m kn = m.l.all fun t => endOk (calledD m kn) DMd.o t.a && endOk (calledD m kn) DMd.i t.b := rfl
    generalize calledD m kn = cd at lab eq
    refine dq_for (xs := m.l) (di_seq (d_Uq (d_mlinks MC (d_var rfl)))) (fun i r => ∃ s3 s4 s5 s6 s7 s8 s9 : Slot, r = [.val (MOb.mk m), .out (ownD kn), .val (Dct.mk cd), s3, s4, s5, s6, s7, s8, s9] ∧ ∀ t ∈ m.l.take i, (endOk cd DMd.o t.a && endOk cd DMd.i t.b) = true) ⟨.no, .no, .no, .no, .no, .no, .no, rfl, fun t ht => by rw [List.take_zero] at ht; cases ht⟩ (fun i t r ht hI => ?_) fun r hI => ?_
    · obtain ⟨s3, s4, s5, s6, s7, s8, s9, rfl, hp⟩ := hI
      have tm := List.mem_of_getElem? ht
      have tk : m.l.take (i + 1) = m.l.take i ++ [t] := by rw [List.take_add_one, ht]; rfl
      obtain ⟨la, ga⟩ := lab t tm t.a (.inl rfl)
      obtain ⟨lb, gb⟩ := lab t tm t.b (.inr rfl)
      have no : endOk cd DMd.o t.a = false ∨ endOk cd DMd.i t.b = false → false = endsOk m kn := fun h => by
        rw [eq]
        symm
        rw [List.all_eq_false]
        exact ⟨t, tm, by rcases h with h | h <;> rw [h] <;> simp⟩
      refine ⟨_, _, DG.quad dg_name dg_name dg_name dg_name, ?_⟩
      show DS K B _ [.val (MOb.mk m), .out (ownD kn), .val (Dct.mk cd), .val t.a, .val t.b, .val t.c, .val t.d, s7, s8, s9] _
      refine dq_asgG (d_partition (d_var rfl) d_str (by decide) (b18 (by omega))) (DG.trip dg_name dg_name dg_name) ?_
      show DS K B _ [.val (MOb.mk m), .out (ownD kn), .val (Dct.mk cd), .val t.a, .val t.b, .val t.c, .val t.d, .val (Txt.partition t.a ".").1, .val (Txt.partition t.a ".").2.1, .val (Txt.partition t.a ".").2.2] _
      refine dq_when (c := decide ((Txt.partition t.a ".").2.1 = dot) && !decide ((Txt.partition t.a ".").2.2 ∈ (lookM cd (Txt.partition t.a ".").1).o)) (dt_and (dt_test (d_eq (d_var rfl) d_str inferInstance inferInstance)) fun hd => dt_test (d_notInS (d_var rfl) (d_Uq (d_moutlets MC (d_getD (α := MOb) (d_var rfl) (d_var rfl) (ga hd)))))) (fun c => ds_retE q d_bl (no (.inl (by unfold endOk; rw [c]; rfl)))) fun c1 => ?_
      refine dq_asgG (d_partition (d_var rfl) d_str (by decide) (b18 (by omega))) (DG.trip dg_name dg_name dg_name) ?_
      show DS K B _ [.val (MOb.mk m), .out (ownD kn), .val (Dct.mk cd), .val t.a, .val t.b, .val t.c, .val t.d, .val (Txt.partition t.b ".").1, .val (Txt.partition t.b ".").2.1, .val (Txt.partition t.b ".").2.2] _
      refine ds_if (c := decide ((Txt.partition t.b ".").2.1 = dot) && !decide ((Txt.partition t.b ".").2.2 ∈ (lookM cd (Txt.partition t.b ".").1).i)) (dt_and (dt_test (d_eq (d_var rfl) d_str inferInstance inferInstance)) fun hd => dt_test (d_notInS (d_var rfl) (d_Uq (d_minlets MC (d_getD (α := MOb) (d_var rfl) (d_var rfl) (gb hd)))))) (fun c => ds_retE q d_bl (no (.inr (by unfold endOk; rw [c]; rfl)))) fun c2 => ds_next ⟨_, _, _, _, _, _, _, rfl, fun u hu => ?_⟩
      rw [tk] at hu
      rcases List.mem_append.mp hu with hu | hu
      · exact hp u hu
      · rw [List.mem_singleton.mp hu]
        unfold endOk
        rw [c1, c2]
        rfl
    · obtain ⟨s3, s4, s5, s6, s7, s8, s9, rfl, hp⟩ := hI
      rw [List.take_length] at hp
      exact ds_retE q d_bl (by rw [eq]; exact (List.all_eq_true.mpr hp).symm)
end
end WW
set_option Elab.async false
set_option linter.all false
set_option maxRecDepth 100000
set_option maxHeartbeats 4000000
namespace WW
open PySem PySem.Spec PyProof.Rows L2
section
variable {K : PySem.W.Frag} {B : Addr → Prop} {ρ : List Slot} {te : TE} {o : MOb}
theorem d_isM (MC : ModC K (He.ga K "Module")) (T : TyC K (He.ga K "Module")) (h : DE K B te ρ o) : DE K B (tCB (rIsi K) (tCons te (tCons (tC (.ref (He.ga K "Module"))) tNil))) ρ true := fun S0 H0 S H σ E Q q =>
  h S0 H0 S H σ E _ fun v S1 H1 e1 ⟨x, dx, v1, v2, v3, v4, v5, z, hx, _⟩ => by
    subst z
    exact ⟨_, _, _, _, true, rfl, .own _, tyx_same e1.i (.base (.ins hx MC.cls T.cl T.ge T.tk T.ob)), T.own, q _ S1 H1 e1 rfl⟩
end
section
variable {P : Program} {w : World} {K : PySem.W.Frag} {mg : Str → Option Value} {base : Heap} {f : Addr} {fd : FuncData}
abbrev dpSeqM := dp1 (fun _ : List MOb => True) (fun _ => true)
theorem ok_is_sequenceM (F : FnP K "is_sequence" s_is_sequence f fd) (m_isinstance : mg "isinstance" = none) (m_list : mg "list" = none) (m_tuple : mg "tuple" = none) : FnOk P w K mg base CX0 1 f fd ["value"] (spT K dpSeqM) := by
  refine okT F sc_is_sequence (fun ss R h => ?_) (fun cdv A outer s H E hr => ⟨_, (pss_one (ps_ret (pe_callB (call_isiTK K) rfl m_isinstance (by decide +kernel) (pa_cons (pv 0) (pa_cons (pe_tup (pa_cons (pe_bltn (v := .ty "list") (u := .type "list") rfl m_list (by decide +kernel) rfl) (pa_cons (pe_bltn (v := .ty "tuple") (u := .type "tuple") rfl m_tuple (by decide +kernel) rfl) (pa_nil)))) (pa_nil)))))), fun B ss R h => ?_⟩)
  · obtain ⟨x, rfl, _⟩ := h
    rfl
  · obtain ⟨v, rfl, _, q⟩ := h
    exact ds_ret (d_isSq (d_var rfl)) q
end
end WW
set_option Elab.async false
set_option linter.all false
set_option maxRecDepth 100000
set_option maxHeartbeats 4000000
namespace WW
open PySem PySem.Spec PyProof.Rows L2
section
variable {K : PySem.W.Frag} {B : Addr → Prop} {ρ : List Slot} {te : TE} {α : Type} {e_α : Enc α}
def enumL {α : Type} (xs : List α) : List (Int × α) := xs.zipIdx.map fun p => ((p.2 : Int), p.1)
theorem enumL_at {α : Type} {xs : List α} {i : Nat} {p : Int × α} : (enumL xs)[i]? = some p ↔ ∃ x, xs[i]? = some x ∧ p = ((i : Int), x) := by
  unfold enumL
  rw [List.getElem?_map, List.getElem?_zipIdx]
  cases h : xs[i]? with
  | none => simp
  | some x =>
    simp
    exact ⟨fun h => h.symm, fun h => h.symm⟩
theorem enumL_len {α : Type} {xs : List α} : (enumL xs).length = xs.length := by
  unfold enumL
  rw [List.length_map, List.length_zipIdx]
theorem di_enum {xs : List α} (h : DE K B te ρ (α := L α) xs) : DI K B (iEnum K (tCons te tNil)) ρ (enumL xs) := fun S0 H0 S H σ E R q =>
  h S0 H0 S H σ E _ fun v S1 H1 e1 ⟨hl, p, vs, e, hq, r⟩ => by
    have hh : SqL K S1 p vs := SqL.of hq
    refine ⟨p, vs, by rw [e], Evl.ex_l e1.i hh, q _ S1 H1 e1 fun S2 H2 s2 x2 => have i2 := x2.i; ⟨fun i y hy => ?_, vs, Evl.ex_l (s2.trans i2) hh, by rw [r.length, enumL_len]; exact Nat.le_refl _⟩⟩
    obtain ⟨x, hx, rfl⟩ := enumL_at.mp hy
    obtain ⟨w, h1, h2⟩ := Paired.at r hx
    refine ⟨⟨vs, w, Evl.ex_l (s2.trans i2) hh, h1⟩, fun v H3 hyl => ?_⟩
    obtain ⟨T, x', rfl, hT, rfl, hall⟩ := hyl
    have z := hall vs (Evl.ex_l (s2.trans i2) hh)
    rw [h1] at z
    cases z
    have e4 : Ext B S2 H2 (upd S2 T (.tup [.int (i : Nat), w])) (upd H2 T (.tup [.int (i : Nat), w])) := Ext.new i2 hT
    exact ⟨_, e4, T, _, _, rfl, .inl (.inl upd_same), rfl, Enc.mono (s2.trans e4.s) h2⟩
end
end WW
set_option Elab.async false
set_option linter.all false
set_option maxRecDepth 100000
set_option maxHeartbeats 4000000
namespace WW
open PySem PySem.Spec PyProof.Rows L2
def knM (ms : List DMd) : List (Str × MOb) := ms.map fun m => (m.n, MOb.mk m)
theorem knM_get {ms : List DMd} {z : Str} : ((Dct.mk (knM ms)).get z).isSome = decide (z ∈ ms.map (·.n)) := by
  unfold knM Dct.get
  induction ms with
  | nil => rfl
  | cons m r ih =>
    rw [List.map_cons, List.find?_cons]
    by_cases c : m.n = z
    · rw [decide_eq_true c, List.map_cons, decide_eq_true (by rw [c]; exact List.mem_cons_self)]
      rfl
    · rw [decide_eq_false c]
      show (Option.map _ (List.find? _ (List.map _ r))).isSome = _
      rw [ih]
      congr 1
      rw [List.map_cons, List.mem_cons]
      exact propext ⟨.inr, fun h => h.resolve_left (fun e => c e.symm)⟩
structure KnOk (ms : List DMd) : Prop where
  at' : ∀ (i : Nat) (m : DMd), ms[i]? = some m → EndPre m (knM (ms.take i)) ∧ endsOk m (knM (ms.take i)) = true ∧ m.n ∉ (ms.take i).map (·.n) ∧ ∀ t ∈ m.c, t.2 ∈ (ms.take i).map (·.n)
  len : ms.length ≤ 10
section
variable {P : Program} {w : World} {K : PySem.W.Frag} {mg : Str → Option Value} {base : Heap} {f : Addr} {fd : FuncData}
def dpKnown : List Slot → (Slot → Prop) → XPH → Prop := fun ss R X => ∃ ms : List DMd, ss = [.val (α := L MOb) (ms.map MOb.mk)] ∧ KnOk ms ∧ R (.val (Dct.mk (knM ms)))
abbrev N_known_modules : List Str := ["modules", "known", "at", "module", "label", "name"]
theorem sc_known_modules : FnScope N_known_modules ["modules"] (defScope s_known_modules) := ⟨rfl, rfl, rfl, by decide +kernel, rfl, by decide +kernel, by decide +kernel⟩
theorem ok_known_modules (F : FnP K "known_modules" s_known_modules f fd) (MC : ModC K (He.ga K "Module")) (T : TyC K (He.ga K "Module")) (m_Module : mg "Module" = some (.ref (He.ga K "Module"))) (m_isinstance : mg "isinstance" = none) (m_all : mg "all" = none) (m_enumerate : mg "enumerate" = none)
    (g_is_sequence : FnAt P w K mg base CX0 1 "is_sequence" ["value"] (spT K dpSeqM)) (g_ends_are_there : FnAt P w K mg base CX0 1 "ends_are_there" ["module", "known"] (spT K dpEnds)) (S_InvalidHouse : SupAt P K mg "InvalidHouse" "at") :
    FnOk P w K mg base (L2.CX P w) 3 f fd ["modules"] (spTXH K dpKnown) := by
  refine okTXH F sc_known_modules (fun ss R X h => ?_) (fun cdv A outer s H E hr => ⟨_, (pss_cons (ps_if (pt_not (pt_val (pe_fn g_is_sequence hr rfl (pa_cons (pv 0) (pa_nil))))) (pss_one (ps_raise rfl (takes_of rfl rfl rfl rfl) (pmk_sup S_InvalidHouse hr rfl pe_int))) (pss_nil))
 (pss_cons (ps_set (i := 1) sc_known_modules.nd rfl (.inr rfl) (pe_dnewK))
 (pss_cons (ps_for (passes_of rfl) rfl (pi_enum rfl m_enumerate (pa_cons (pv 0) (pa_nil))) (pg_tupK (n := 2) K rfl (pgs_cons (pg_name (i := 2) sc_known_modules.nd rfl (.inl rfl)) (pgs_cons (pg_name (i := 3) sc_known_modules.nd rfl (.inl rfl)) (pgs_nil)))) (pss_cons (ps_if (PW.pt (pw_or (pt_not (pt_val (pe_callB (call_isiK1 K) rfl m_isinstance (by decide +kernel) (pa_cons (pv 3) (pa_cons (pe_glob (v := .ref (He.ga K "Module")) rfl m_Module rfl) (pa_nil)))))) (pw_or1 (pt_cmp (pc_din (hu_of hr) (pe_fldK K (pv 3) rfl) (pv 1)))))) (pss_one (ps_raise rfl (takes_of rfl rfl rfl rfl) (pmk_sup S_InvalidHouse hr rfl (pv 2)))) (pss_nil))
 (pss_cons (ps_if (PW.pt (pw_or (pt_not (pt_val (pe_callB (cr_allK K) rfl m_all (by decide +kernel) (pa_cons (pe_lc (own := [("label", 4), ("name", 5)]) rfl sc_known_modules.nd (pi_seqK K (pe_fldK K (pv 3) rfl)) (blkOk_by (N := N_known_modules) (sc := defScope s_known_modules) (by decide +kernel)) (fun _ _ _ _ _ => pg_tupK (n := 2) K rfl (pgs_cons (pg_name (i := 4) sc_known_modules.nd rfl (.inl rfl)) (pgs_cons (pg_name (i := 5) sc_known_modules.nd rfl (.inl rfl)) (pgs_nil)))) (fun _ _ _ _ _ => pts_nil) (fun _ _ _ _ _ => pe_cmp (pc_din (hu_of hr) (pv 5) (pv 1)))) (pa_nil))))) (pw_or1 (pt_not (pt_val (pe_fn g_ends_are_there hr rfl (pa_cons (pv 3) (pa_cons (pv 1) (pa_nil))))))))) (pss_one (ps_raise rfl (takes_of rfl rfl rfl rfl) (pmk_sup S_InvalidHouse hr rfl (pv 2)))) (pss_nil))
 (pss_one (ps_dput (hu_of hr) (pv 1) (pe_fldK K (pv 3) rfl) (pv 3) rfl)))))
 (pss_one (ps_ret (pv 1)))))), fun B ss R X h => ?_⟩)
  · obtain ⟨ms, rfl, _⟩ := h
    rfl
  · obtain ⟨ms, rfl, ok, q⟩ := h
    have ml := ok.len
    have b18 : ∀ {n : Nat}, n ≤ 10000 → n ≤ BIG := fun h => Nat.le_trans h (by decide)
    show DS K B _ [.val (α := L MOb) (ms.map MOb.mk), .no, .no, .no, .no, .no] _
    refine dq_when (c := false) (DT.is (dt_not (dt_B (d_call1 (x := (show List MOb from ms.map MOb.mk)) (d_Lq (d_var rfl)) trivial))) rfl) (fun h => nomatch h) fun _ => ?_
    refine ds_seq (ds_asgOb (P := ownD (knM [])) dob_dct ?_)
    show DS K B _ [.val (α := L MOb) (ms.map MOb.mk), .obj (ownD (knM [])), .no, .no, .no, .no] _
    refine dq_for (xs := enumL (ms.map MOb.mk)) (di_enum (d_var rfl)) (fun i r => ∃ s2 s3 s4 s5 : Slot, r = [.val (α := L MOb) (ms.map MOb.mk), .obj (ownD (knM (ms.take i))), s2, s3, s4, s5]) ⟨.no, .no, .no, .no, rfl⟩ (fun i p r hp hI => ?_) fun r hI => ?_
    · obtain ⟨s2, s3, s4, s5, rfl⟩ := hI
      obtain ⟨x, hx, rfl⟩ := enumL_at.mp hp
      obtain ⟨m, hm, rfl⟩ : ∃ m, ms[i]? = some m ∧ MOb.mk m = x := by
        rw [List.getElem?_map] at hx
        cases hh : ms[i]? with
        | none => rw [hh] at hx; cases hx
        | some m => rw [hh] at hx; cases hx; exact ⟨m, rfl, rfl⟩
      obtain ⟨o1, o2, o3, o4⟩ := ok.at' i m hm
      have il := (List.getElem?_eq_some_iff.mp hm).1
      have tk : ms.take (i + 1) = ms.take i ++ [m] := by rw [List.take_add_one, hm]; rfl
      refine ⟨_, _, DG.pair dg_name dg_name, ?_⟩
      show DS K B _ [.val (α := L MOb) (ms.map MOb.mk), .obj (ownD (knM (ms.take i))), .val (i : Int), .val (MOb.mk m), s4, s5] _
      refine dq_when (c := false) (DT.is (dt_or (dt_not (dt_B (d_isM MC T (d_var rfl)))) fun _ => dt_test (d_inOb (z := m.n) (xs := knM (ms.take i)) (d_mname MC (d_var rfl)) rfl)) (by rw [knM_get, decide_eq_false o3]; rfl)) (fun h => nomatch h) fun _ => ?_
      refine dq_when (c := false) (DT.is (dt_or (dt_not (dt_B (d_all (DO.l (do_map (fun t : Str × Str => ((Dct.mk (knM (ms.take i))).get t.2).isSome) (di_seq (d_Uq (d_mcalls MC (d_var rfl)))) (Nat.le_trans o1.len (by decide)) fun t ht => ⟨_, _, DG.pair dg_name dg_name, by simp, d_inOb (d_var rfl) rfl⟩))))) fun _ => dt_not (dt_B (d_call (da_cons (d_var rfl) (da_own rfl da_nil)) ⟨m, _, rfl, o1, rfl⟩))) ?_) (fun h => nomatch h) fun _ => ?_
      · rw [o2, List.all_map]
        have : (m.c.all (id ∘ fun t : Str × Str => ((Dct.mk (knM (ms.take i))).get t.2).isSome)) = true := List.all_eq_true.mpr fun t ht => by
          show ((Dct.mk (knM (ms.take i))).get t.2).isSome = true
          rw [knM_get]
          exact decide_eq_true (o4 t ht)
        rw [this]
        rfl
      refine ds_dput (n := 1) (xs := knM (ms.take i)) (a := MOb.mk m) rfl (d_var rfl) (d_mname MC (d_var rfl)) ?_ ?_ ⟨.val (i : Int), .val (MOb.mk m), s4, s5, ?_⟩
      · have e : (knM (ms.take i)).map (·.1) = (ms.take i).map (·.n) := by unfold knM; rw [List.map_map]; rfl
        rw [e]
        exact o3
      · unfold knM
        rw [List.length_map, List.length_take]
        omega
      · have e : knM (ms.take (i + 1)) = knM (ms.take i) ++ [(m.n, MOb.mk m)] := by unfold knM; rw [tk, List.map_append]; rfl
        rw [e]
        rfl
    · obtain ⟨s2, s3, s4, s5, rfl⟩ := hI
      rw [enumL_len, List.length_map, List.take_length]
      exact ds_frzD (n := 1) rfl (ds_ret (d_var rfl) q)
end
end WW
set_option Elab.async false
set_option linter.all false
set_option maxRecDepth 100000
set_option maxHeartbeats 4000000
namespace WW
open PySem PySem.Spec PyProof.Rows L2
section
variable {X : Cx} {k j : Nat} {x : Str} {ps : List Str} {sp : Sp} {e : Expr} {es : List Expr} {t : TA} {p pos : Pos} {W : WX}
theorem pe_fnX (K : PySem.W.Frag) (F : FnAt X.prog X.w K X.mg X.base (L2.CX X.prog X.w) k x ps sp) (tk : Takes X W) (hr : Room j X.A) (hg : Gl X x) (ha : PA X (e :: es) t) (hk : k ≤ j := by decide) (hK : X.K = K := by rfl)
    (hdb : (x == ("__debug__" : Str)) = false := by decide) (he : starEach (e :: es) X.env = (false, eval e X.env) :: starEach es X.env := by rfl) (hpl : (backTo pos (starEach es X.env)).any (·.1) = false := by rfl) :
    PE X (.Call (.Name x p) (e :: es) [] pos) (tCallS sp (WE W) t) := by
  subst hK
  obtain ⟨fd, F1, b⟩ := F.ex
  exact pe_callS F1 (hr.mono hk) hg F.g F.kp b (fun σ => passAt tk σ) ha hdb he hpl
end
def DX {α : Type} [Enc α] (K : PySem.W.Frag) (B : Addr → Prop) (te : TE) (ρ : List Slot) (P : α → Prop) (px : Hp → Hp → Prop) : Prop := ∀ S0 H0 S H σ, En K B S0 H0 S H σ ρ → px S0 H0 → ∀ Q : VK, (∀ v a S' H', P a → Ext B S H S' H' → Enc.rep K S' v a → Q v H') → te σ H Q
def DXW {α : Type} [Enc α] (K : PySem.W.Frag) (B : Addr → Prop) (te : TE) (ρ : List Slot) (P : α → Prop) (X : XPH) (W : WX) : Prop := ∀ S0 H0 S H σ, En K B S0 H0 S H σ ρ → ∀ Q : VK, (∀ v a S' H', P a → Ext B S H S' H' → Enc.rep K S' v a → Q v H') →
  (∀ C fs d S' H', X S' C fs → Ext B S H S' H' → H d = none → H' d = some (.xd fs) → W (.ref C) (some d) σ H') → te σ H Q
section
variable {K : PySem.W.Frag} {B : Addr → Prop} {ρ ρ' : List Slot} {te : TE} {tr t : TA} {ts tz : TS} {α β : Type} {e_α : Enc α} {e_β : Enc β} {P : α → Prop} {px : Hp → Hp → Prop} {Φ : Post} {n : Nat} {ss : List Slot}
theorem DN.x (h : DN K B te ρ P) : DX K B te ρ P px := fun S0 H0 S H σ E _ Q q => h S0 H0 S H σ E Q q
theorem DE.x {a : α} (h : DE K B te ρ a) : DX K B te ρ (fun b => b = a) px := (DE.n h).x
theorem DX.imp {P' : α → Prop} (h : DX K B te ρ P px) (f : ∀ a, P a → P' a) : DX K B te ρ P' px := fun S0 H0 S H σ E x Q q => h S0 H0 S H σ E x Q fun v a S' H' pa => q v a S' H' (f a pa)
theorem DX.conv {P' : β → Prop} (h : DX K B te ρ P px) (f : ∀ a, P a → ∃ b, P' b ∧ ∀ S v, Enc.rep K S v a → Enc.rep K S v b) : DX K B te ρ P' px := fun S0 H0 S H σ E x Q q => h S0 H0 S H σ E x Q fun v a S' H' pa e r => by
  obtain ⟨b, pb, hb⟩ := f a pa
  exact q v b S' H' pb e (hb _ _ r)
theorem dx_call {dp : List Slot → (Slot → Prop) → XPH → Prop} {X X' : XPH} {E : XK} (h : DA K B tr ρ ss) (hd : dp ss (fun s => ∃ a, P a ∧ s = .val a) X') (f : ∀ S C fs, X' S C fs → X S C fs) : DX K B (tCallS (spTXH K dp) (WE fun cls d _ H => E cls d H) tr) ρ P (PXH B X E) := fun S0 H0 S H σ En px Q q =>
  h S0 H0 S H σ En _ fun vs S1 H1 e1 r1 => ⟨B, S1, ss, _, X', e1.i, (fun p hp => by
      have := (En.go e1).bx p hp
      exact ⟨this.1, this.2.1⟩), r1, hd, (fun s v S' H' ⟨a, pa, es⟩ e2 ok => by
      subst es
      exact q v a S' H' pa (e1.trans e2) ok), px.sub En.i0 (En.ext.trans e1) f⟩
end
def PXO (x : Addr) (X : XPH) (E : XK) (S0 H0 : Hp) : Prop := ∀ C fs d S' H', X S' C fs → Off x S0 H0 S' H' → H0 d = none → H' d = some (.xd fs) → E (.ref C) (some d) H'
def spInitT (K : PySem.W.Frag) (C : Addr) (dp : List Slot → (Hp → List (Str × V) → Prop) → XPH → Prop) : Sp := fun vs H Q E => ∃ (S : Hp) (x dx : Addr) (ss : List Slot) (R : Hp → List (Str × V) → Prop) (X : XPH), Same S H ∧ S x = none ∧ H x = some (.ins C dx []) ∧
  ArgsOk K noB H S H vs (.val (V.ref x) :: ss) ∧ (∀ s ∈ ss, s.plain = true) ∧ dp ss R X ∧ PXO x X E S H ∧ (∀ S' H' fs, Off x S H S' H' → H' x = some (.ins C dx fs) → R S' fs → Q .non H')
theorem Off.free {x d : Addr} {S0 H0 S H : Hp} (o : Off x S0 H0 S H) (i : Same S0 H0) (hx : H x ≠ none) (h : H d = none) : H0 d = none := by
  cases q : H0 d with
  | none => rfl
  | some v =>
    have n : d ≠ x := fun z => hx (by rw [← z]; exact h)
    cases r : S0 d with
    | some u =>
      rw [o.i _ _ (o.s _ _ r)] at h
      cases h
    | none =>
      have := (o.p d r (by rw [q]; exact fun z => nomatch z) n).2
      rw [h, q] at this
      cases this
theorem PXO.at' {x : Addr} {X X' : XPH} {E : XK} {S0 H0 S H : Hp} (h : PXO x X E S0 H0) (i : Same S0 H0) (o : Off x S0 H0 S H) (hx : H x ≠ none) (f : ∀ S C fs, X' S C fs → X S C fs) : PXH noB X' E S H := fun C fs d S' H' hX e2 nd hd =>
  h C fs d S' H' (f _ _ _ hX) (o.ext e2 hx) (o.free i hx nd) hd
section
variable {K : PySem.W.Frag} {B : Addr → Prop} {ρ ρ' : List Slot} {te : TE} {tr t : TA} {ts tz : TS} {α β : Type} {e_α : Enc α} {e_β : Enc β} {P : α → Prop} {ss : List Slot}
structure Self (K : PySem.W.Frag) (C x dx : Addr) (S0 H0 : Hp) (fs : List (Str × V)) (ρ : List Slot) (S H : Hp) (σ : L2.St) : Prop where
  off : Off x S0 H0 S H
  hx : H x = some (.ins C dx fs)
  en : En K noB S H S H σ ρ
theorem Self.put {C x dx : Addr} {S0 H0 S H S1 H1 : Hp} {fs fs' : List (Str × V)} {σ : L2.St} (st : Self K C x dx S0 H0 fs ρ S H σ) (hv : ∀ s ∈ ρ, s.plain = true) (e : Ext noB S H S1 H1) : H1 x = some (.ins C dx fs) ∧ Self K C x dx S0 H0 fs' ρ S1 (upd H1 x (.ins C dx fs')) σ := by
  have hn : H x ≠ none := by rw [st.hx]; exact fun z => nomatch z
  obtain ⟨p1, p2⟩ := e.p x st.off.x0 hn
  have h1 : H1 x = some (.ins C dx fs) := by
    rcases p2 with z | ⟨z, _⟩
    · rw [z, st.hx]
    · exact z.elim
  have o1 := (st.off.ext e hn).put (u := .ins C dx fs')
  exact ⟨h1, o1, upd_same, (st.en.go e).anew o1.i hv⟩
theorem self_fld {C x dx : Addr} {S0 H0 S H : Hp} {fs : List (Str × V)} {σ : L2.St} {f : Str} {D : Ends} {X X' : XPH} {E : XK} (CC : Cls K C) (NA : NoAttr K C f) (st : Self K C x dx S0 H0 fs ρ S H σ) (hv : ∀ s ∈ ρ, s.plain = true) (h0 : ρ[0]? = some (.val (V.ref x))) (i0 : Same S0 H0)
    (px : PXO x X E S0 H0) (few : fs.length < 1000) (sub : ∀ S C fs, X' S C fs → X S C fs) (h : DX K noB te ρ P (PXH noB X' E))
    (k : ∀ a v S' H', P a → Same S S' → Enc.rep K S' v a → Self K C x dx S0 H0 (putF f v fs) ρ S' H' σ → D.nx σ H') : sFld K (tVar 0) te f D σ H := by
  refine h S H S H σ st.en (px.at' i0 st.off (by rw [st.hx]; exact fun z => nomatch z) sub) _ fun v a S1 H1 pa e1 r1 => ?_
  obtain ⟨h1, s2⟩ := st.put (fs' := putF f v fs) hv e1
  obtain ⟨vx, gx, wx⟩ := st.en.val h0
  cases wx
  exact ⟨_, gx, x, C, dx, fs, rfl, h1, CC, NA, few, k a v S1 _ pa e1.s r1 s2⟩
theorem dxw_make {C : Addr} {dp : List Slot → (Hp → List (Str × V) → Prop) → XPH → Prop} {X' : XPH} {R : Hp → List (Str × V) → Prop} {W : WX} (h : DA K B t ρ ss) (hs : ∀ s ∈ ss, s.plain = true) (hd : dp ss R X')
    (hR : ∀ S fs, R S fs → ∃ a, P a ∧ ∀ S' x dx, Same S S' → S' x = some (.ins C dx fs) → Enc.rep K S' (.ref x) a) : DXW K B (tMakeS C (spInitT K C dp) [] (WE W) t) ρ P X' W := fun S0 H0 S H σ En Q q hE => by
  refine h S0 H0 S H σ En _ ?_
  intro vs S1 H1 e1 r1 x dx nx ndx hn
  have s1 : Same H1 (upd (upd H1 dx (.own x)) x (.ins C dx [])) := (same_new ndx).trans (same_new ((upd_ne (Ne.symm hn)).trans nx))
  have sx : S1 x = none := e1.i.free nx
  have toE : ∀ (S2 H2 : Hp), Off x S1 (upd (upd H1 dx (.own x)) x (.ins C dx [])) S2 H2 → Ext B S1 H1 S2 H2 := fun S2 H2 o => by
    refine ⟨o.s, o.i, fun a h1 h2 => ?_⟩
    have n1 : a ≠ x := fun z => h2 (by rw [z]; exact nx)
    have n2 : a ≠ dx := fun z => h2 (by rw [z]; exact ndx)
    have e : upd (upd H1 dx (.own x)) x (.ins C dx []) a = H1 a := by rw [upd_ne n1, upd_ne n2]
    obtain ⟨q1, q2⟩ := o.p a h1 (by rw [e]; exact h2) n1
    exact ⟨q1, .inl (by rw [q2, e])⟩
  have av : ∀ {vs : List V} {ss : List Slot}, ArgsOk K B H1 S1 H1 vs ss → (∀ s ∈ ss, s.plain = true) → ArgsOk K noB (upd (upd H1 dx (.own x)) x (.ins C dx [])) S1 (upd (upd H1 dx (.own x)) x (.ins C dx [])) vs ss := by
    intro vs ss h
    induction h with
    | nil => exact fun _ => .nil
    | cons h1 h2 _ ih =>
      intro hp
      refine .cons ?_ h2 (ih fun s hs => hp s (List.mem_cons_of_mem _ hs))
      have := hp _ List.mem_cons_self
      rename_i v s vs ss _
      cases s with
      | no => trivial
      | val a => exact h1
      | _ => cases this
  rw [List.append_nil]
  refine ⟨S1, x, dx, ss, R, X', e1.i.trans s1, sx, upd_same, .cons rfl rfl (av r1 hs), hs, hd, fun Cx fs d S2 H2 hX of nd hdd => ?_, fun S2 H2 fs of hxx hF => ⟨rfl, ?_⟩⟩
  · have n1 : d ≠ x := fun z => by rw [z, upd_same] at nd; cases nd
    rw [upd_ne n1] at nd
    have n2 : d ≠ dx := fun z => by rw [z, upd_same] at nd; cases nd
    rw [upd_ne n2] at nd
    exact hE Cx fs d S2 H2 hX (e1.trans (toE S2 H2 of)) (e1.free En.i nd) hdd
  · have ee := toE S2 H2 of
    have fz := ee.frz (p := x) nx e1.i hxx of.x0
    have up : Same S2 (upd S2 x (.ins C dx fs)) := same_new of.x0
    obtain ⟨a, pa, ha⟩ := hR S2 fs hF
    exact q _ a _ H2 pa (e1.trans fz) (ha _ x dx up upd_same)
theorem dx_make {C : Addr} {dp : List Slot → (Hp → List (Str × V) → Prop) → XPH → Prop} {X' : XPH} {R : Hp → List (Str × V) → Prop} {W : WX} {px : Hp → Hp → Prop} (h : DA K B t ρ ss) (hs : ∀ s ∈ ss, s.plain = true) (hd : dp ss R X')
    (hR : ∀ S fs, R S fs → ∃ a, P a ∧ ∀ S' x dx, Same S S' → S' x = some (.ins C dx fs) → Enc.rep K S' (.ref x) a)
    (hE : ∀ S0 H0 σ, px S0 H0 → Same S0 H0 → PXH B X' (WE W σ) S0 H0) : DX K B (tMakeS C (spInitT K C dp) [] (WE W) t) ρ P px := fun S0 H0 S H σ En pe Q q =>
  dxw_make h hs hd hR S0 H0 S H σ En Q q fun Cx fs d S' H' hX e nd hdd => hE S0 H0 σ pe En.i0 Cx fs d S' H' hX (En.ext.trans e) (En.ext.free En.i0 nd) hdd
theorem dn_make {C : Addr} {dp : List Slot → (Hp → List (Str × V) → Prop) → XPH → Prop} {R : Hp → List (Str × V) → Prop} {W : WX} (h : DA K B t ρ ss) (hs : ∀ s ∈ ss, s.plain = true) (hd : dp ss R fun _ _ _ => False)
    (hR : ∀ S fs, R S fs → ∃ a, P a ∧ ∀ S' x dx, Same S S' → S' x = some (.ins C dx fs) → Enc.rep K S' (.ref x) a) : DN K B (tMakeS C (spInitT K C dp) [] (WE W) t) ρ P := fun S0 H0 S H σ En Q q =>
  dx_make (px := fun _ _ => True) h hs hd hR (fun _ _ _ _ _ _ _ _ _ _ hX => hX.elim) S0 H0 S H σ En trivial Q q
end
end WW
set_option Elab.async false
set_option linter.all false
set_option maxRecDepth 100000
set_option maxHeartbeats 4000000
namespace WW
open PySem PySem.Spec PyProof.Rows L2
structure HOb where
  ms : List DMd
def HouF (K : PySem.W.Frag) (S : Hp) (fs : List (Str × V)) (ms : List DMd) : Prop := ∃ v1 v2 v3, fs = ([("known", v1), ("modules", v2), ("shapes", v3)] : List (Str × V)) ∧ Enc.rep K S v1 (Dct.mk (knM ms)) ∧ Enc.rep K S v2 (show U MOb from ms.map MOb.mk) ∧ Enc.rep K S v3 (Dct.mk (shS ms))
instance : Enc HOb where
  rep K S v o := ∃ x dx v1 v2 v3, v = .ref x ∧ S x = some (.ins (He.ga K "House") dx [("known", v1), ("modules", v2), ("shapes", v3)]) ∧ Enc.rep K S v1 (Dct.mk (knM o.ms)) ∧ Enc.rep K S v2 (show U MOb from o.ms.map MOb.mk) ∧ Enc.rep K S v3 (Dct.mk (shS o.ms))
  mono e h := by
    obtain ⟨x, dx, v1, v2, v3, z, hx, h1, h2, h3⟩ := h
    exact ⟨x, dx, v1, v2, v3, z, e _ _ hx, Enc.mono e h1, Enc.mono e h2, Enc.mono e h3⟩
instance : OfCls HOb where
  cn := "House"
  fl := ["known", "modules", "shapes"]
  is h := by
    obtain ⟨x, dx, _, _, _, rfl, hx, _⟩ := h
    exact ⟨x, dx, _, rfl, hx, rfl⟩
structure HouC (K : PySem.W.Frag) (C : Addr) : Prop where
  cls : Cls K C
  kn : PySem.W.findIn K (.ref C) "known" = some none
  mo : PySem.W.findIn K (.ref C) "modules" = some none
  sh : PySem.W.findIn K (.ref C) "shapes" = some none
def AllGo (ms : List DMd) : Prop := ∀ i m, ms[i]? = some m → NoRing m (shS (ms.take i))
def HouX (K : PySem.W.Frag) (ms : List DMd) (X : XPH) : Prop := ∀ i m rg, ms[i]? = some m → (∀ j m', j < i → ms[j]? = some m' → NoRing m' (shS (ms.take j))) → IsRing (srt ltL (lkOf m (shS (ms.take i)))) rg → (∀ z ∈ rg, z ∈ srt ltS (plOf m (shS (ms.take i)))) → ∀ S C fs, ringX K rg S C fs → X S C fs
def dpHouI (K : PySem.W.Frag) : List Slot → (Hp → List (Str × V) → Prop) → XPH → Prop := fun ss R X => ∃ ms : List DMd, ss = [.val (α := L MOb) (ms.map MOb.mk)] ∧ KnOk ms ∧ ShsOk ms ∧ (AllGo ms → ∀ S fs, HouF K S fs ms → R S fs) ∧ HouX K ms X
section
variable {P : Program} {w : World} {K : PySem.W.Frag} {mg : Str → Option Value} {base : Heap} {f : Addr} {fd : FuncData}
abbrev N_House___init__ : List Str := ["self", "modules"]
theorem sc_House___init__ : FnScope N_House___init__ ["self", "modules"] (defScope s_House___init__) := ⟨rfl, rfl, rfl, by decide +kernel, rfl, by decide +kernel, by decide +kernel⟩
theorem ok_Hou_init {C : Addr} {dvs : List V} (F : FunD K "__init__" "House.__init__" (defArgs s_House___init__) (defBody s_House___init__) (defScope s_House___init__) dvs [] f fd) (HC : HouC K C) (m_tuple : mg "tuple" = none)
    (g_known_modules : FnAt P w K mg base (L2.CX P w) 3 "known_modules" ["modules"] (spTXH K dpKnown)) (g_known_shapes : FnAt P w K mg base (L2.CX P w) 3 "known_shapes" ["modules"] (spTXH K (dpKnS K))) :
    FnOk P w K mg base (L2.CX P w) 4 f fd ["self", "modules"] (spInitT K C (dpHouI K)) := by
  refine F.ok sc_House___init__ (fun vs H Q E h => ?_) (fun cdv A outer s H vs Q E hr h => ?_)
  · obtain ⟨S, x, dx, ss, R, X, _, _, _, ha, _, ⟨ms, rfl, _⟩, _⟩ := h
    rw [ha.length]
    rfl
  · obtain ⟨S, x, dx, ss, R, X, si, sx, hx, ha, hp, ⟨ms, rfl, ok1, ok2, hR, hX⟩, px, q⟩ := h
    refine ⟨_, (pss_cons (ps_fld (pv 0) (pe_fnX K g_known_modules (takes_of rfl rfl rfl rfl) hr rfl (pa_cons (pv 1) (pa_nil))) rfl)
 (pss_cons (ps_fld (pv 0) (pe_callTy (call_tupleK K) rfl m_tuple (by decide +kernel) (pa_cons (pv 1) (pa_nil))) rfl)
 (pss_one (ps_fld (pv 0) (pe_fnX K g_known_shapes (takes_of rfl rfl rfl rfl) hr rfl (pa_cons (pv 1) (pa_nil))) rfl)))), ?_⟩
    have E0 := start_en (N := N_House___init__) si (fun p hp => hp.elim) ha
    have E0 : En K noB S H S H _ [.val (V.ref x), .val (α := L MOb) (ms.map MOb.mk)] := E0
    generalize L2.start _ vs = σ0 at E0 ⊢
    have hv : ∀ s ∈ ([.val (V.ref x), .val (α := L MOb) (ms.map MOb.mk)] : List Slot), s.plain = true := by simp [Slot.plain]
    have st0 : Self K C x dx S H [] [.val (V.ref x), .val (α := L MOb) (ms.map MOb.mk)] S H σ0 := ⟨Off.refl si sx, hx, E0⟩
    refine self_fld (P := fun d => d = Dct.mk (knM ms)) HC.cls HC.kn st0 hv rfl si px (by decide) (X' := fun _ _ _ => False) (fun _ _ _ h => h.elim) (dx_call (da_cons (d_var rfl) da_nil) ⟨ms, rfl, ok1, _, rfl, rfl⟩ fun _ _ _ h => h) fun d1 v1 S1 H1 pd s1 r1 st1 => ?_
    subst pd
    refine self_fld (α := U MOb) (P := fun d => d = ms.map MOb.mk) HC.cls HC.mo st1 hv rfl si px (by show 1 < 1000; decide) (X' := fun _ _ _ => False) (fun _ _ _ h => h.elim) (DE.x (d_tuple (d_Lq (d_var rfl)))) fun d2 v2 S2 H2 pd s2 r2 st2 => ?_
    subst pd
    refine self_fld (P := fun d => AllGo ms ∧ d = Dct.mk (shS ms)) HC.cls HC.sh st2 hv rfl si px (by show 2 < 1000; decide) (X' := X) (fun _ _ _ h => h) (dx_call (da_cons (α := List MOb) (d_Lq (d_var rfl)) da_nil) ⟨ms, rfl, ok2, fun hg => ⟨_, ⟨hg, rfl⟩, rfl⟩, hX⟩ fun _ _ _ h => h) fun d3 v3 S3 H3 pd s3 r3 st3 => ?_
    obtain ⟨hg, rfl⟩ := pd
    exact q S3 _ _ st3.off st3.hx (hR hg _ _ ⟨v1, v2, v3, rfl, Enc.mono (s2.trans s3) r1, Enc.mono s3 r2, r3⟩)
end
section
variable {K : PySem.W.Frag} {B : Addr → Prop} {ρ : List Slot} {t : TA} {ms : List DMd}
theorem d_house {W : WX} (h : DA K B t ρ [.val (α := L MOb) (ms.map MOb.mk)]) (ok1 : KnOk ms) (ok2 : ShsOk ms) (hg : AllGo ms) (hX : HouX K ms fun _ _ _ => False) : DE K B (tMakeS (He.ga K "House") (spInitT K (He.ga K "House") (dpHouI K)) [] (WE W) t) ρ (HOb.mk ms) :=
  DN.e (dn_make (R := fun S fs => HouF K S fs ms) h (by simp [Slot.plain]) ⟨ms, rfl, ok1, ok2, fun _ S fs h => h, hX⟩ fun S fs ⟨v1, v2, v3, e, r1, r2, r3⟩ => ⟨HOb.mk ms, rfl, fun S' x dx sm hx => ⟨x, dx, v1, v2, v3, rfl, by rw [hx, e], Enc.mono sm r1, Enc.mono sm r2, Enc.mono sm r3⟩⟩)
end
end WW
set_option Elab.async false
set_option linter.all false
set_option maxRecDepth 100000
set_option maxHeartbeats 4000000
namespace WW
open PySem PySem.Spec PyProof.Rows L2
abbrev Sui := Addr → Value → Option Addr → TS
inductive NmOk (X : Cx) : Option Str → Option Nat → Prop
  | no : NmOk X none none
  | as {n : Str} {i : Nat} (hi : X.N[i]? = some n) (hl : X.env.kindOf n = some .local) : NmOk X (some n) (some i)
inductive ClOk (X : Cx) : List ExceptHandler → List (Value × Option Nat × Sui) → Prop
  | nil : ClOk X [] []
  | cons {x : Str} {c : Value} {on : Option Str} {o : Option Nat} {ts : Sui} {b₀ : Stmt} {suite : List Stmt} {np pos' : Pos} {hds : List ExceptHandler} {l : List (Value × Option Nat × Sui)} (hc : Names X x c) (hn : NmOk X on o)
      (hsu : ∀ (a : Addr) (oe : Obj) (cls : Value) (d : Option Addr) (pn : List (Addr × Obj)), Zc cls d oe → (∃ vs, oe.data = .fields vs) → PSs (X.suite a ((a, oe) :: pn)) (b₀ :: suite) (ts a cls d)) (r : ClOk X hds l) :
      ClOk X (.ExceptHandler (some (.Name x np)) on (b₀ :: suite) pos' :: hds) ((c, o, ts) :: l)
end WW
set_option Elab.async false
set_option linter.all false
set_option maxRecDepth 100000
set_option maxHeartbeats 4000000
namespace WW
open PySem PySem.Spec PyProof.Rows L2
structure ExcV (β : Type) where
  a : Addr
  d : Addr
  nm : Str
  x : β
def FldR {β : Type} [Enc β] (K : PySem.W.Frag) (S : Hp) (fs : List (Str × V)) (nm : Str) (x : β) : Prop := ∃ v, fs = [(nm, v)] ∧ Enc.rep K S v x
instance {β : Type} [Enc β] : Enc (ExcV β) where
  rep K S v e := v = .ref e.a ∧ ∃ fs, S e.d = some (.xd fs) ∧ FldR K S fs e.nm e.x
  mono e h := by
    obtain ⟨h1, fs, h2, v, h3, h4⟩ := h
    exact ⟨h1, fs, e _ _ h2, v, h3, Enc.mono e h4⟩
abbrev XSt := List Slot → XPH
def DSW (K : PySem.W.Frag) (B : Addr → Prop) (ts : TS) (ρ : List Slot) (Φ : Post) (X : XSt) (W : WX) : Prop := ∀ S0 H0 S H σ (D : Ends), En K B S0 H0 S H σ ρ → Φ.px S0 H0 →
  (∀ ρ' C fs d σ' S1 H1 S' H', X ρ' S' C fs → Same S S1 → En K B S0 H0 S1 H1 σ' ρ' → Ext B S1 H1 S' H' → H1 d = none → H' d = some (.xd fs) → W (.ref C) (some d) σ' H') →
  (∀ ρ' σ' S' H', Φ.nx ρ' → Same S S' → En K B S0 H0 S' H' σ' ρ' → D.nx σ' H') → (∀ s v S' H', Φ.rt s → Ext B S0 H0 S' H' → SlotOk K B H0 S' H' (some v) s → D.rt v H') →
  (∀ ρ' σ' S' H', Φ.bk ρ' → Same S S' → En K B S0 H0 S' H' σ' ρ' → D.bk σ' H') → (∀ ρ' σ' S' H', Φ.ct ρ' → Same S S' → En K B S0 H0 S' H' σ' ρ' → D.ct σ' H') → ts D σ H
def setNo (o : Option Nat) (r : List Slot) : List Slot := match o with
  | none => r
  | some i => r.set i .no
section
variable {K : PySem.W.Frag} {B : Addr → Prop} {ρ ρ' : List Slot} {te td : TE} {tr t : TA} {ts tz : TS} {α β : Type} {e_α : Enc α} {e_β : Enc β} {P : α → Prop} {X X' : XPH} {Xs : XSt} {W : WX} {Φ : Post} {n : Nat} {ss : List Slot} {b : β} {z : Str}
theorem DXW.conv {P' : β → Prop} (h : DXW K B te ρ P X W) (f : ∀ a, P a → ∃ b, P' b ∧ ∀ S v, Enc.rep K S v a → Enc.rep K S v b) : DXW K B te ρ P' X W := fun S0 H0 S H σ E Q q x => h S0 H0 S H σ E Q (fun v a S' H' pa e r => by
  obtain ⟨b, pb, hb⟩ := f a pa
  exact q v b S' H' pb e (hb _ _ r)) x
theorem DXW.imp {P' : α → Prop} (h : DXW K B te ρ P X W) (f : ∀ a, P a → P' a) : DXW K B te ρ P' X W := h.conv fun a pa => ⟨a, f a pa, fun _ _ r => r⟩
theorem DS.w (h : DS K B ts ρ Φ) : DSW K B ts ρ Φ Xs W := fun S0 H0 S H σ D E px _ => h S0 H0 S H σ D E px
end
end WW
set_option Elab.async false
set_option linter.all false
set_option maxRecDepth 100000
set_option maxHeartbeats 4000000
namespace WW
open PySem PySem.Spec PyProof.Rows L2
structure FnOkG (P : Program) (w : World) (K : PySem.W.Frag) (mg : Str → Option Value) (base : Heap) (CX : CXT) (k : Nat) (f : Addr) (fd : FuncData) (ps : List Str) (sp : Sp) : Prop where
  len : ∀ vs H Q E, sp vs H Q E → vs.length = ps.length
  go : ∀ (A : Around) (up : List PySem.Env) (s : Shared) (H : Hp) (ar : Args) (us : List Value) (vs : List V) (Q : VK) (E : XK), A.guards = some [] → Room k A → Env0 P w K mg base A up s H → BindsTo s fd ar (ps.zip us) → Vals vs us → sp vs H Q E → codeAny (model P w) A (.call (.ref f) ar) (CR CX up P w H s Q E) s
section
variable {P : Program} {w : World} {K : PySem.W.Frag} {mg : Str → Option Value} {base : Heap} {CX : CXT} {k j : Nat} {f : Addr} {fd : FuncData} {ps N : List Str} {sp sp' : Sp}
theorem FnOkG.of (F : FnOk P w K mg base CX k f fd ps sp) : FnOkG P w K mg base CX k f fd ps sp := ⟨F.len, fun A up s H ar us vs Q E _ => F.run A up s H ar us vs Q E⟩
theorem FnOkG.imp (F : FnOkG P w K mg base CX k f fd ps sp) (h : ∀ vs H Q E, sp' vs H Q E → sp vs H Q E) : FnOkG P w K mg base CX k f fd ps sp' :=
  ⟨fun vs H Q E q => F.len vs H Q E (h _ _ _ _ q), fun A up s H ar us vs Q E g r e b v q => F.go A up s H ar us vs Q E g r e b v (h _ _ _ _ q)⟩
theorem okGsh {x qual : Str} {params : Arguments} {body : List Stmt} {scope : Scope} {dvs : List V} {kws : List (Str × V)} (F : FunD K x qual params body scope dvs kws f fd) (S : FnScope N ps scope) (len : ∀ vs H Q E, sp vs H Q E → vs.length = ps.length)
    (bd : ∀ (cdv : Value) (A : Around) (up : List PySem.Env) (s : Shared) (H : Hp) (vs : List V) (Q : VK) (E : XK), A.guards = some [] → Room k (A.deeper (envOfC qual scope s.heap.objs.size f cdv)) → sp vs H Q E →
      ∃ t, PSs (cxOf CX P w K mg base N qual scope f cdv A up s H E) body t ∧ t { nx := fun _ H' => Q .non H', rt := Q } (L2.start N vs) H) : FnOkG P w K mg base CX (k + 1) f fd ps sp := by
  obtain ⟨_, _, _, _, _, _, _, cv, _, _, rfl, look, code, _, _⟩ := F.ex
  refine ⟨len, fun A up s H ar us vs Q E g room e bs rv q => ?_⟩
  have ll := len _ _ _ _ q
  have inK : K.In s.heap := e.mod.kin.keeps fun p u hu => (e.bs p u hu).1
  have noL : s.heap.NoLimit := e.mod.nolimit.keeps fun p u hu => (e.bs p u hu).1
  have kinds : ∀ z ∈ ps.zip us, scope.names.lookup z.1 = some .local ∨ (scope.names.lookup z.1 = some .cell ∧ ((cellsFrom (s.heap.objs.size + 1) scope.names []).lookup z.1).isSome = true) := by
    intro z hz
    obtain ⟨z1, z2⟩ := z
    exact (S.par z1 (List.of_mem_zip hz).1).imp id fun c => ⟨c, PySem.W.cellsFrom_some _ _ _ (.inl c)⟩
  refine codeAny_call_function room.depth (inK _ _ look) rfl S.co S.gen rfl (PySem.W.codeRec_of inK code) (bs _ _ _ _ ?_)
  refine wpAny_newFunctionEnv_cells S.kind kinds fun env ee s2 ic => ?_
  subst ee
  refine ⟨noL.keeps ic.toInCall.keep, codeAny_func ?_⟩
  obtain ⟨t, tp, tq⟩ := bd cv A up s H vs Q E g (room.deeper _) q
  have inv := inv_start (CX := CX) (E := E) S room.hd e ll rv ic
  refine wpAny_mono (tp.run [] s2 (L2.start N vs) H _ inv tq) ?_ fun _ _ z => z
  intro fl s' sp'
  have done : ∀ {σ' : L2.St} {H' : Hp} {v : V} {u : Value}, Inv (cxOf CX P w K mg base N qual scope f cv A up s H E) [] σ' H' s' → RelV v u → Q v H' → CE up P w H s Q u s' := by
    intro σ' H' v u J r' q'
    exact ⟨v, H', J.os, J.bare, J.base, J.hok, r', q'⟩
  match fl, sp' with
  | .ret u, ⟨v, σ', H', J, r', q'⟩ => exact done J r' q'
  | .next, ⟨σ', H', J, q'⟩ => exact done (v := .non) (u := .none) J rfl q'
  | .brk, ⟨_, _, _, q'⟩ => exact q'.elim
  | .cont, ⟨_, _, _, q'⟩ => exact q'.elim
end
structure FnAtG (P : Program) (w : World) (K : PySem.W.Frag) (mg : Str → Option Value) (base : Heap) (CX : CXT) (k : Nat) (x : Str) (ps : List Str) (sp : Sp) : Prop where
  ex : ∃ fd, FnOkG P w K mg base CX k (He.ga K x) fd ps sp ∧ Binds K fd ps []
  kp : PySem.W.keepIn K (.ref (He.ga K x)) = true
  g : mg x = some (.ref (He.ga K x))
section
variable {X : Cx} {CX : CXT} {k j : Nat} {x : Str} {ps : List Str} {sp : Sp} {e : Expr} {es : List Expr} {t : TA} {p pos : Pos} {E : L2.St → XK} {W : WX} {f : Addr} {fd : FuncData}
theorem run_G {pins : List (Addr × Obj)} {σ : L2.St} {H : Hp} {s : Shared} {Q : VK} {us : List Value} {vs : List V} (F : FnOkG X.prog X.w X.K X.mg X.base CX k f fd ps sp) (gu : X.A.guards = some []) (hr : Room k X.A) (hb : Binds X.K fd ps []) (hx : PassesAt CX X σ (E σ))
    (I : Inv X pins σ H s) (r : Vals vs us) (h : sp vs H Q (E σ)) : wpAny (model X.prog X.w) X.A (call (.ref f) us) (EP X pins σ Q) X.xe s := by
  have b := hb s us I.kIn (by rw [List.append_nil, ← r.length]; exact F.len _ _ _ _ h)
  rw [List.append_nil] at b
  refine wpAny_call (codeAny_mono (F.go X.A X.stack s H ⟨us, []⟩ us vs Q (E σ) gu hr I.env0 b r h) ?_)
  intro o s' q
  match o, q with
  | .error er, q => exact hx pins H s er s' I q
  | .ok (.ret u), q => exact I.after q
theorem pe_gS (F : FnAtG X.prog X.w X.K X.mg X.base CX k x ps sp) (gu : X.A.guards = some []) (hr : Room j X.A) (hg : Gl X x) (hx : ∀ σ, PassesAt CX X σ (E σ)) (ha : PA X (e :: es) t) (hk : k ≤ j := by decide)
    (hdb : (x == ("__debug__" : Str)) = false := by decide) (he : starEach (e :: es) X.env = (false, eval e X.env) :: starEach es X.env := by rfl) (hpl : (backTo pos (starEach es X.env)).any (·.1) = false := by rfl) :
    PE X (.Call (.Name x p) (e :: es) [] pos) (tCallS sp E t) := by
  obtain ⟨fd, F1, b⟩ := F.ex
  refine ⟨fun pins s σ H Q I h => wpAny_Call_Name_kw (ld_glob I hg F.g ?_ hdb)⟩
  refine PySem.W.callWith_K (h₀ := X.base) I.ok.mod.kin F.kp (thn (ha.run pos pins s σ H _ I h) ?_) he hpl
  rintro us s1 ⟨vs, H1, I1, r, q⟩
  exact ⟨I1.kIn, run_G F1 gu (hr.mono hk) b (hx σ) I1 r q⟩
theorem pe_fnG (K : PySem.W.Frag) (F : FnAtG X.prog X.w K X.mg X.base CX0 k x ps sp) (gu : X.A.guards = some []) (hr : Room j X.A) (hg : Gl X x) (ha : PA X (e :: es) t) (hk : k ≤ j := by decide) (hK : X.K = K := by rfl)
    (hdb : (x == ("__debug__" : Str)) = false := by decide) (he : starEach (e :: es) X.env = (false, eval e X.env) :: starEach es X.env := by rfl) (hpl : (backTo pos (starEach es X.env)).any (·.1) = false := by rfl) :
    PE X (.Call (.Name x p) (e :: es) [] pos) (tCallS sp (fun _ => E0) t) := by
  subst hK
  exact pe_gS F gu hr hg (fun σ _ _ _ _ _ _ h => h.elim) ha hk hdb he hpl
end
section
variable {K : PySem.W.Frag} {B : Addr → Prop} {ρ : List Slot} {te : TE} {tr : TA} {α : Type} {e_α : Enc α} {P : α → Prop} {a : α} {ss : List Slot}
theorem dn_callG {dp : List Slot → (Slot → Prop) → Prop} (h : DA K B tr ρ ss) (hd : dp ss fun s => ∃ a : α, P a ∧ s = .val a) : DN K B (tCallS (spT K dp) (fun _ => E0) tr) ρ P := fun S0 H0 S H σ En Q q =>
  h S0 H0 S H σ En _ fun vs S1 H1 e1 r1 => ⟨B, S1, ss, _, e1.i, (fun p hp => by
      have := (En.go e1).bx p hp
      exact ⟨this.1, this.2.1⟩), r1, hd, fun s v S' H' ⟨a, pa, es⟩ e2 ok => by
      subst es
      exact q v a S' H' pa (e1.trans e2) ok⟩
theorem d_callG {dp : List Slot → (Slot → Prop) → Prop} (h : DA K B tr ρ ss) (hd : dp ss fun s => s = .val a) : DE K B (tCallS (spT K dp) (fun _ => E0) tr) ρ a :=
  DN.e (dn_callG h (by
    have : (fun s => ∃ b : α, b = a ∧ s = Slot.val b) = fun s => s = Slot.val a := funext fun s => propext ⟨fun ⟨b, e1, e2⟩ => by rw [e2, e1], fun e => ⟨a, rfl, e⟩⟩
    rw [this]
    exact hd))
end
theorem okTG {P : Program} {w : World} {K : PySem.W.Frag} {mg : Str → Option Value} {base : Heap} {x qual : Str} {params : Arguments} {body : List Stmt} {scope : Scope} {dvs : List V} {kws : List (Str × V)} {f : Addr} {fd : FuncData} {N ps : List Str} {k : Nat} {dp : List Slot → (Slot → Prop) → Prop}
    (F : FunD K x qual params body scope dvs kws f fd) (S : FnScope N ps scope) (len : ∀ ss R, dp ss R → ss.length = ps.length)
    (hbody : ∀ (cdv : Value) (A : Around) (outer : List PySem.Env) (s : Shared) (H : Hp) (E : XK), A.guards = some [] → Room k (A.deeper (envOfC qual scope s.heap.objs.size f cdv)) →
      ∃ t, PSs (cxOf CX0 P w K mg base N qual scope f cdv A outer s H E).nox body t ∧ ∀ (B : Addr → Prop) ss R, dp ss R → DS K B t (startS N ss) ⟨fun _ => R (.val ()), R, fun _ => False, fun _ => False, fun _ _ => True⟩) : FnOkG P w K mg base CX0 (k + 1) f fd ps (spT K dp) := by
  refine okGsh F S (fun vs H Q E h => ?_) (fun cdv A outer s H vs Q E gu hr h => ?_)
  · obtain ⟨B, S, ss, R, _, _, ha, hd, _⟩ := h
    rw [ha.length, len ss R hd]
  · obtain ⟨B, S, ss, R, hi, hb, ha, hd, q⟩ := h
    obtain ⟨t, h1, h2⟩ := hbody cdv A outer s H E gu hr
    exact ⟨t, h1.nox, h2 B ss R hd S H S H _ _ (start_en hi hb ha) trivial (fun ρ' σ' S' H' r _ E' => q _ _ S' H' r E'.ext rfl) (fun s v S' H' r ex ok => q s v S' H' r ex ok) (fun _ _ _ _ h => h.elim) (fun _ _ _ _ h => h.elim)⟩
end WW
set_option Elab.async false
set_option linter.all false
set_option maxRecDepth 100000
set_option maxHeartbeats 4000000
namespace WW
open PySem PySem.Spec PyProof.Rows L2
section
variable {P : Program} {w : World} {K : PySem.W.Frag} {mg mb : Str → Option Value} {k : Nat} {fa a : Addr} {fd : FuncData} {x : Str} {sp : Sp} {s1 : Shared} {vs : List Value} {ns : List Int}
theorem top_at {H : Hp} (KX : K.In s1.heap) (nsm : s1.heap.Ns mainGlobals mg) (nsb : s1.heap.Ns builtinsNs mb) (bb : ∀ y : Str, y ≠ "__name__" → mb y = bootBuiltins y) (nl : s1.heap.NoLimit) (ge : s1.gens = #[])
    (ha : s1.heap.get? a = some { cls := .type "list", data := .seq vs.toArray }) (hr : Room k callerA) (F : ∀ base : Heap, K.In base → base.Ns mainGlobals mg → FnOkG P w K mg base CX0 k fa fd [x] sp) (bi : ∀ (s : Shared) (u : Value), BindsTo s fd ⟨[u], []⟩ [(x, u)])
    (on : Only H) (hok : HOk P w H s1.heap) (oa : ∀ b, H b ≠ none → b = a) (ka : H a ≠ none → K.lookup a = none) (q : sp [.ref a] H (fun v _ => v = .bl true) fun _ _ _ => False) :
    codeAny (model P w) callerA (.call (.ref fa) ⟨[.ref a], []⟩) (fun r s' => r = .ok (.ret (.bool true)) ∧ OldK s1.heap s'.heap ∧ s'.os = s1.os ∧ AllBare s'.gens) s1 := by
  have only : ∀ {b : Addr}, H b ≠ none → b = a := fun {b} h => oa b h
  have dict0 : ∀ {b : Addr} {o : Obj} {es : Array DictEntry} {n : Nat}, s1.heap.get? b = some o → o.data = .dict es n → H b = none := by
    intro b o es n g d
    rcases hq : H b with _ | u
    · rfl
    · have := only (b := b) (by rw [hq]; exact fun z => nomatch z)
      subst this
      rw [ha] at g
      cases g
      exact nomatch d
  have nsH : ∀ {b : Addr} {m : Str → Option Value}, s1.heap.Ns b m → (hidT s1.heap H).Ns b m := by
    rintro b m ⟨o, es, n, g, d, r⟩
    exact ⟨o, es, n, hidT_get g (dict0 g d), d, r⟩
  have inH : K.In (hidT s1.heap H) := by
    intro b o lk
    refine hidT_get (KX b o lk) ?_
    rcases hq : H b with _ | u
    · rfl
    · have nn : H b ≠ none := by rw [hq]; exact fun z => nomatch z
      have := only nn
      subst this
      rw [ka nn] at lk
      cases lk
  obtain ⟨mc, l1, l2⟩ := nl
  have e0 : Env0 P w K mg (hidT s1.heap H) callerA [] s1 H := by
    refine ⟨rfl, ⟨inH, nsH nsm, ⟨mb, nsH nsb, bb⟩, mc, nsH l1, l2⟩, fun b o g => of_hidT g, Nat.le_of_eq (hidT_size _ _), trivial, ?_, hok, .of_eq ge⟩
    intro b hb
    cases hb
  refine codeAny_mono ((F _ inH (nsH nsm)).go callerA [] s1 H ⟨[.ref a], []⟩ [.ref a] [.ref a] _ _ rfl hr e0 (bi s1 (.ref a)) (.cons rfl .nil) q) ?_
  rintro (er | fl) s' h
  · exact h.elim
  match fl, h with
  | .ret u, ⟨v, H', os, bare, un, hok', r', qv⟩ =>
    have qv : v = .bl true := qv
    subst qv
    cases (show u = Value.bool true from r')
    refine ⟨rfl, OldK.of_keep ?_, os, bare⟩
    intro b o g
    rcases on b with z | ⟨ob, xs, z⟩
    · exact un.keep b o g z (fun m => nomatch m) (fun m => nomatch m)
    · obtain ⟨g1, _⟩ := hok b _ z
      obtain ⟨g2, _⟩ := hok' b _ (un.frzs b ob _ z)
      rw [g] at g1
      cases g1
      exact g2
theorem top_G (KX : K.In s1.heap) (nsm : s1.heap.Ns mainGlobals mg) (nsb : s1.heap.Ns builtinsNs mb) (bb : ∀ y : Str, y ≠ "__name__" → mb y = bootBuiltins y) (nl : s1.heap.NoLimit) (ge : s1.gens = #[])
    (ha : s1.heap.get? a = some { cls := .type "list", data := .seq vs.toArray }) (hi : IntsAre vs ns) (hl : ns.length ≤ sizeLine) (hr : Room k callerA) (F : ∀ base : Heap, K.In base → base.Ns mainGlobals mg → FnOkG P w K mg base CX0 k fa fd [x] sp) (bi : ∀ (s : Shared) (u : Value), BindsTo s fd ⟨[u], []⟩ [(x, u)])
    (q : ∀ H : Hp, Only H → SqL K H a (ns.map V.int) → sp [.ref a] H (fun v _ => v = .bl true) fun _ _ _ => False) :
    codeAny (model P w) callerA (.call (.ref fa) ⟨[.ref a], []⟩) (fun r s' => r = .ok (.ret (.bool true)) ∧ OldK s1.heap s'.heap ∧ s'.os = s1.os ∧ AllBare s'.gens) s1 := by
  have rel := vals_ints hi
  have len := hi.length
  rcases lk : K.lookup a with _ | o
  · let ob : Obj := { cls := .type "list", data := .seq vs.toArray }
    let H : Hp := fun b => if b = a then some (.frz ob (.lst (ns.map V.int))) else none
    have at_ : H a = some (.frz ob (.lst (ns.map V.int))) := if_pos rfl
    have off : ∀ b, b ≠ a → H b = none := fun b n => if_neg n
    have on : Only H := fun b => by
      by_cases c : b = a
      · rw [c, at_]
        exact .inr ⟨_, _, rfl⟩
      · exact .inl (off b c)
    refine top_at (H := H) KX nsm nsb bb nl ge ha hr F bi on ?_ ?_ (fun _ => lk) (q H on (.inl (.inr ⟨ob, at_⟩)))
    · intro b u hu
      by_cases c : b = a
      · subst c
        rw [at_] at hu
        cases hu
        refine ⟨ha, ?_, vs, _, rel, ha⟩
        rw [List.length_map]
        exact hl
      · rw [off b c] at hu
        cases hu
    · intro b hb
      by_cases c : b = a
      · exact c
      · exact absurd (off b c) hb
  · have g := KX a o lk
    rw [ha] at g
    cases g
    refine top_at (H := fun _ => none) KX nsm nsb bb nl ge ha hr F bi (fun _ => .inl rfl) (fun b u hu => nomatch hu) (fun b hb => absurd rfl hb) (fun hb => absurd rfl hb) (q _ (fun _ => .inl rfl) ?_)
    refine .inr ⟨_, vs.toArray, _, lk, rfl, rfl, rfl, ?_, by simpa using rel⟩
    rw [List.size_toArray, len]
    exact hl
end
theorem walk_G {l : PySem.W.OpenLaw} {n k : Nat} {q : Program} {loose : List Str} {XP : (Str → Option Value) → Heap → Prop} {YP : World → Heap → Prop} {d : DefRec} {x : Str}
    (hn : l.most = some n) (n2 : n ≤ sizeLine) (df : d.params.defaults = []) (hr : Room k callerA)
    (F : ∀ (w : World) (mg : Str → Option Value) (fa : Addr) (h : Heap), YP w h → h.Ns mainGlobals mg → mg d.name = some (.ref fa) →
      ∃ (K : PySem.W.Frag) (fd : FuncData) (sp : Sp), K.In h ∧ (∀ (s : Shared) (u : Value), BindsTo s fd ⟨[u], []⟩ [(x, u)]) ∧
        (∀ (H : Hp) (a : Addr) (ns : List Int), ns.length ≤ n → Only H → SqL K H a (ns.map V.int) → sp [.ref a] H (fun v _ => v = .bl true) fun _ _ _ => False) ∧
        ∀ base : Heap, K.In base → base.Ns mainGlobals mg → FnOkG l.prog w K mg base CX0 k fa fd [x] sp) :
    PySem.W.WalkO q loose XP YP l.row.toRowW d [] (fun f vs => PySem.call f vs) := by
  refine Att.attach_call hn df ?_
  intro w s0 s1 mg mb fa o pm cd doc a vs ns G Y _ _ _ hm ho hi ll ge
  obtain ⟨K, fd, sp, KX, bi, qs, FG⟩ := F w mg fa _ Y G.T.g hm
  exact top_G KX G.T.g G.T.b G.T.builtins G.T.nolimit ge ho hi (Nat.le_trans ll n2) hr FG bi fun H on sq => qs H a ns ll on sq
end WW
set_option Elab.async false
set_option linter.all false
set_option maxRecDepth 100000
set_option maxHeartbeats 4000000
namespace WW
open PySem PySem.Spec PyProof.Rows L2
class DatQ (α : Type) [Enc α] where
  d : α → PyData
  dp : ∀ {K : PySem.W.Frag} {S : Hp} {v : V} {a : α}, Enc.rep K S v a → Dp K S v (d a)
  k : Nat
  dep : ∀ a : α, PyData.depth (d a) ≤ k
  inj : ∀ (a b : α), PyData.eqv (d a) (d b) = true ↔ a = b
  nn : ∀ a : α, PyData.eqv (d a) .none = true ∨ PyData.eqv .none (d a) = true → ∀ {K : PySem.W.Frag} {S : Hp}, Enc.rep K S .non a
def canQ {α : Type} [Enc α] [q : DatQ α] (a : α) : Prop := PyData.canLay0 (q.d a) = true
theorem eqvAll_injQ {δ : Type} {e : Enc δ} (dt : DatQ δ) : ∀ (xs ys : List δ), PyData.eqvAll (xs.map dt.d) (ys.map dt.d) = true ↔ xs = ys
  | [], [] => by simp [PyData.eqvAll]
  | [], y :: q => by simp [PyData.eqvAll]
  | x :: r, [] => by simp [PyData.eqvAll]
  | x :: r, y :: q => by
    rw [List.map_cons, List.map_cons, PyData.eqvAll, Bool.and_eq_true, dt.inj, eqvAll_injQ dt r q]
    simp
theorem canAllQ {δ : Type} {e : Enc δ} (dt : DatQ δ) : ∀ xs : List δ, PyData.canLayAll0 (xs.map dt.d) = true ↔ ∀ x ∈ xs, canQ x
  | [] => by simp [PyData.canLayAll0]
  | x :: r => by
    rw [List.map_cons, PyData.canLayAll0, Bool.and_eq_true, canAllQ dt r]
    simp [canQ]
theorem depAllQ {δ : Type} {e : Enc δ} (dt : DatQ δ) : ∀ xs : List δ, PyData.depthAll (xs.map dt.d) ≤ dt.k
  | [] => by simp [PyData.depthAll]
  | x :: r => by rw [List.map_cons, PyData.depthAll]; exact Nat.max_le.mpr ⟨dt.dep x, depAllQ dt r⟩
theorem dpAllQ {K : PySem.W.Frag} {δ : Type} {e : Enc δ} (dt : DatQ δ) {S : Hp} : ∀ {vs : List V} {xs : List δ}, Paired (Enc.rep K S) vs xs → DpAll K S vs (xs.map dt.d)
  | _, _, .nil => .nil
  | _, _, .cons h r => .cons (dt.dp h) (dpAllQ dt r)
instance qStr : DatQ Str where
  d := .str
  dp h := by cases h; exact .str _
  k := 0
  dep _ := by simp [PyData.depth]
  inj a b := by simp [PyData.eqv]
  nn a h := by simp [PyData.eqv] at h
instance qInt : DatQ Int where
  d := .int
  dp h := by cases h; exact .int _
  k := 0
  dep _ := by simp [PyData.depth]
  inj a b := by simp [PyData.eqv]
  nn a h := by simp [PyData.eqv] at h
instance qBool : DatQ Bool where
  d := .bool
  dp h := by cases h; exact .bl _
  k := 0
  dep _ := by simp [PyData.depth]
  inj a b := by simp [PyData.eqv]
  nn a h := by simp [PyData.eqv] at h
theorem canI (i : Int) : canQ i := by simp [canQ, DatQ.d, PyData.canLay0]
theorem canS {z : Str} : canQ z ↔ PyData.strOk z = true := by simp [canQ, DatQ.d, PyData.canLay0]
instance qU {δ : Type} [Enc δ] [dt : DatQ δ] : DatQ (U δ) where
  d xs := .tuple (List.map dt.d xs)
  dp h := by
    obtain ⟨_, p, vs, rfl, hh, r⟩ := h
    exact .tup hh (dpAllQ dt r)
  k := dt.k + 1
  dep xs := by rw [PyData.depth]; exact Nat.succ_le_succ (depAllQ dt xs)
  inj a b := by rw [PyData.eqv]; exact eqvAll_injQ dt a b
  nn a h := by simp [PyData.eqv] at h
instance qL {δ : Type} [Enc δ] [dt : DatQ δ] : DatQ (L δ) where
  d xs := .list (List.map dt.d xs)
  dp h := by
    obtain ⟨_, p, vs, rfl, hh, r⟩ := h
    exact .lst (.inl (.inl hh)) (dpAllQ dt r)
  k := dt.k + 1
  dep xs := by rw [PyData.depth]; exact Nat.succ_le_succ (depAllQ dt xs)
  inj a b := by rw [PyData.eqv]; exact eqvAll_injQ dt a b
  nn a h := by simp [PyData.eqv] at h
theorem canU {δ : Type} [Enc δ] [dt : DatQ δ] {xs : List δ} : canQ (α := U δ) xs ↔ ∀ x ∈ xs, canQ x := by
  unfold canQ
  show PyData.canLay0 (.tuple (List.map dt.d xs)) = true ↔ _
  rw [PyData.canLay0]
  exact canAllQ dt xs
instance qP {δ ε : Type} [Enc δ] [Enc ε] [dt : DatQ δ] [de : DatQ ε] : DatQ (δ × ε) where
  d p := .tuple [dt.d p.1, de.d p.2]
  dp h := by
    obtain ⟨p, v1, v2, rfl, hh, r1, r2⟩ := h
    exact .tup hh (.cons (dt.dp r1) (.cons (de.dp r2) .nil))
  k := max dt.k de.k + 1
  dep p := by
    simp only [PyData.depth, PyData.depthAll]
    have h1 := dt.dep p.1
    have h2 := de.dep p.2
    omega
  inj a b := by
    rw [PyData.eqv, PyData.eqvAll, PyData.eqvAll, PyData.eqvAll, Bool.and_eq_true, Bool.and_eq_true, dt.inj, de.inj]
    constructor
    · rintro ⟨h1, h2, _⟩
      exact Prod.ext h1 h2
    · rintro rfl
      exact ⟨rfl, rfl, rfl⟩
  nn a h := by simp [PyData.eqv] at h
instance q3 {δ ε ζ : Type} [Enc δ] [Enc ε] [Enc ζ] [dt : DatQ δ] [de : DatQ ε] [dz : DatQ ζ] : DatQ (T3 δ ε ζ) where
  d p := .tuple [dt.d p.a, de.d p.b, dz.d p.c]
  dp h := by
    obtain ⟨p, v1, v2, v3, rfl, hh, r1, r2, r3⟩ := h
    exact .tup hh (.cons (dt.dp r1) (.cons (de.dp r2) (.cons (dz.dp r3) .nil)))
  k := max dt.k (max de.k dz.k) + 1
  dep p := by
    simp only [PyData.depth, PyData.depthAll]
    have h1 := dt.dep p.a
    have h2 := de.dep p.b
    have h3 := dz.dep p.c
    omega
  inj a b := by
    rw [PyData.eqv, PyData.eqvAll, PyData.eqvAll, PyData.eqvAll, PyData.eqvAll, Bool.and_eq_true, Bool.and_eq_true, Bool.and_eq_true, dt.inj, de.inj, dz.inj]
    obtain ⟨a1, a2, a3⟩ := a
    obtain ⟨b1, b2, b3⟩ := b
    constructor
    · rintro ⟨h1, h2, h3, _⟩
      cases h1
      cases h2
      cases h3
      rfl
    · rintro ⟨⟩
      exact ⟨rfl, rfl, rfl, rfl⟩
  nn a h := by simp [PyData.eqv] at h
instance q4 {δ ε ζ η : Type} [Enc δ] [Enc ε] [Enc ζ] [Enc η] [dt : DatQ δ] [de : DatQ ε] [dz : DatQ ζ] [dh : DatQ η] : DatQ (T4 δ ε ζ η) where
  d p := .tuple [dt.d p.a, de.d p.b, dz.d p.c, dh.d p.d]
  dp h := by
    obtain ⟨p, v1, v2, v3, v4, rfl, hh, r1, r2, r3, r4⟩ := h
    exact .tup hh (.cons (dt.dp r1) (.cons (de.dp r2) (.cons (dz.dp r3) (.cons (dh.dp r4) .nil))))
  k := max (max dt.k (max de.k dz.k)) dh.k + 1
  dep p := by
    simp only [PyData.depth, PyData.depthAll]
    have h1 := dt.dep p.a
    have h2 := de.dep p.b
    have h3 := dz.dep p.c
    have h4 := dh.dep p.d
    omega
  inj a b := by
    rw [PyData.eqv, PyData.eqvAll, PyData.eqvAll, PyData.eqvAll, PyData.eqvAll, PyData.eqvAll, Bool.and_eq_true, Bool.and_eq_true, Bool.and_eq_true, Bool.and_eq_true, dt.inj, de.inj, dz.inj, dh.inj]
    obtain ⟨a1, a2, a3, a4⟩ := a
    obtain ⟨b1, b2, b3, b4⟩ := b
    constructor
    · rintro ⟨h1, h2, h3, h4, _⟩
      cases h1
      cases h2
      cases h3
      cases h4
      rfl
    · rintro ⟨⟩
      exact ⟨rfl, rfl, rfl, rfl, rfl⟩
  nn a h := by simp [PyData.eqv] at h
theorem can4 {δ ε ζ η : Type} [Enc δ] [Enc ε] [Enc ζ] [Enc η] [dt : DatQ δ] [de : DatQ ε] [dz : DatQ ζ] [dh : DatQ η] {a : δ} {b : ε} {c : ζ} {d : η} : canQ (T4.mk a b c d) ↔ canQ a ∧ canQ b ∧ canQ c ∧ canQ d := by
  unfold canQ
  show PyData.canLay0 (.tuple [dt.d a, de.d b, dz.d c, dh.d d]) = true ↔ _
  simp [PyData.canLay0, PyData.canLayAll0]
class DatN (α : Type) [Enc α] [q : DatQ α] : Prop where
  n1 : ∀ a : α, PyData.eqv (q.d a) .none = false
  n2 : ∀ a : α, PyData.eqv .none (q.d a) = false
instance : DatN Str := ⟨fun a => by simp [DatQ.d, PyData.eqv], fun a => by simp [DatQ.d, PyData.eqv]⟩
instance : DatN Int := ⟨fun a => by simp [DatQ.d, PyData.eqv], fun a => by simp [DatQ.d, PyData.eqv]⟩
instance {δ : Type} [Enc δ] [DatQ δ] : DatN (U δ) := ⟨fun a => by simp [DatQ.d, PyData.eqv], fun a => by simp [DatQ.d, PyData.eqv]⟩
instance {δ : Type} [Enc δ] [DatQ δ] : DatN (L δ) := ⟨fun a => by simp [DatQ.d, PyData.eqv], fun a => by simp [DatQ.d, PyData.eqv]⟩
instance {δ ε : Type} [Enc δ] [Enc ε] [DatQ δ] [DatQ ε] : DatN (δ × ε) := ⟨fun a => by simp [DatQ.d, PyData.eqv], fun a => by simp [DatQ.d, PyData.eqv]⟩
def optD {δ : Type} [Enc δ] [dt : DatQ δ] : Option δ → PyData
  | none => .none
  | some a => dt.d a
instance qO {δ : Type} [Enc δ] [dt : DatQ δ] [dn : DatN δ] : DatQ (Option δ) where
  d := optD
  dp {K S v a} h := by
    cases a with
    | none => cases h; exact .non
    | some a => exact dt.dp h
  k := dt.k
  dep a := by
    cases a with
    | none => simp [optD, PyData.depth]
    | some a => exact dt.dep a
  inj a b := by
    cases a with
    | none =>
      cases b with
      | none => simp [optD, PyData.eqv]
      | some b =>
        show PyData.eqv .none (dt.d b) = true ↔ _
        rw [dn.n2]
        simp
    | some a =>
      cases b with
      | none =>
        show PyData.eqv (dt.d a) .none = true ↔ _
        rw [dn.n1]
        simp
      | some b =>
        show PyData.eqv (dt.d a) (dt.d b) = true ↔ _
        rw [dt.inj]
        simp
  nn a h := by
    cases a with
    | none => intros; rfl
    | some a =>
      rcases h with h | h
      · have h : PyData.eqv (dt.d a) .none = true := h
        rw [dn.n1] at h
        cases h
      · have h : PyData.eqv .none (dt.d a) = true := h
        rw [dn.n2] at h
        cases h
theorem eqv_decQ {δ : Type} {e : Enc δ} (dt : DatQ δ) (inst : DecidableEq δ) (x y : δ) : PyData.eqv (dt.d x) (dt.d y) = decide (x = y) := by
  by_cases c : x = y
  · rw [decide_eq_true c, (dt.inj x y).mpr c]
  · rw [decide_eq_false c]
    cases h : PyData.eqv (dt.d x) (dt.d y) with
    | false => rfl
    | true => exact absurd ((dt.inj x y).mp h) c
theorem shaped_q {δ : Type} {e : Enc δ} (dt : DatQ δ) (hk : dt.k ≤ 64) (x : δ) (c : canQ x) : SeqAt.shaped (dt.d x) = true := by
  unfold SeqAt.shaped
  rw [Bool.and_eq_true]
  exact ⟨c, decide_eq_true (Nat.le_trans (dt.dep x) hk)⟩
section
variable {K : PySem.W.Frag} {B : Addr → Prop} {ρ : List Slot} {ta tb te : TE} {α : Type} {e_α : Enc α} {a b : α} {xs : List α}
theorem d_eqQ (ha : DE K B ta ρ a) (hb : DE K B tb ρ b) (inst : DecidableEq α) (dt : DatQ α) (hk : dt.k ≤ 64) (ca : canQ a) (cb : canQ b) : DE K B (tOp (rEqD K) ta tb) ρ (decide (a = b)) :=
  d_op ha hb fun x y S H hi r1 r2 Q q => ⟨_, _, dt.dp (Enc.mono hi r1), dt.dp (Enc.mono hi r2), shaped_q dt hk a ca, shaped_q dt hk b cb, by rw [eqv_decQ dt inst]; exact q _ S H (Ext.refl hi) rfl⟩
end
end WW
set_option Elab.async false
set_option linter.all false
set_option maxRecDepth 100000
set_option maxHeartbeats 4000000
namespace WW
open PySem PySem.Spec PyProof.Rows L2
def rShow (K : PySem.W.Frag) : List V → Hp → VK → Prop := fun xs H Q => ∃ x d, xs = [x] ∧ Dp K H x d ∧ PyData.hasDict d = false ∧ d.showable = true ∧ d.depth ≤ 64 ∧ d.shown.length ≤ sizeLine ∧ Q (.str d.shown) H
theorem call_reprD {X : Cx} {j : Nat} (K : PySem.W.Frag) (gu : X.A.guards = some []) (hr : Room j X.A) (h : X.K = K := by rfl) : CallR X (.builtin "repr") (rShow K) := by
  subst h
  intro pins s σ H xs us Q I r q
  obtain ⟨x, d, rfl, hd, nd, sh, dep, len, q⟩ := q
  obtain ⟨u, rfl, rx⟩ := vals1 r
  have un := hr.un
  obtain ⟨as, rd⟩ := Dp.reads I d x u hd rx
  have go : ∀ h' tk u', (∀ b o, s.heap.get? b = some o → h'.get? b = some o) → EP X pins σ Q (.str d.shown u') { s with heap := h', toks := tk } := fun h' tk u' k => ⟨.str d.shown, H, I.kept k, ⟨u', rfl⟩, q⟩
  have same : ∀ tk u', EP X pins σ Q (.str d.shown u') { s with toks := tk } := fun tk u' => go s.heap tk u' fun _ _ e => e
  cases hd with
  | non => cases rx; exact PySem.P.repr_of_none (by simpa [PyData.shown] using same (s.toks + 1) s.toks)
  | bl b => cases rx; exact PySem.P.repr_of_bool (by simpa [PyData.shown] using same (s.toks + 1) s.toks)
  | int i =>
    obtain ⟨t, rfl⟩ := rx
    exact PySem.P.repr_of_int (by simpa [PyData.showable] using sh) (by simpa [PyData.shown] using same (s.toks + 1) s.toks)
  | str z =>
    obtain ⟨t, rfl⟩ := rx
    exact PySem.P.repr_of_str (by simpa [PyData.shown] using same (s.toks + 1) s.toks) (by simpa [PyData.shown] using len)
  | lst h1 h2 =>
    cases rx
    exact repr_of_reads' rd sh (PyData.noDict_hsm nd) gu (by omega) (fun _ _ e => e) (fun h' u' tk k => go h' tk u' k) len
  | tup h1 h2 =>
    cases rx
    exact repr_of_reads' rd sh (PyData.noDict_hsm nd) gu (by omega) (fun _ _ e => e) (fun h' u' tk k => go h' tk u' k) len
end WW
set_option Elab.async false
set_option linter.all false
set_option maxRecDepth 100000
set_option maxHeartbeats 4000000
namespace WW
open PySem PySem.Spec PyProof.Rows L2
mutual
def AV.dat : AV → PyData
  | .non => .none
  | .bl b => .bool b
  | .int i => .int i
  | .str z => .str z
  | .lst xs => .list (AV.dats xs)
  | .tup xs => .tuple (AV.dats xs)
def AV.dats : List AV → List PyData
  | [] => []
  | x :: r => AV.dat x :: AV.dats r
end
mutual
theorem AV.dp {K : PySem.W.Frag} {S : Hp} : ∀ {v : V} (a : AV), AV.rep K S v a → Dp K S v a.dat
  | v, .non, h => by rw [AV.rep] at h; subst h; rw [AV.dat]; exact .non
  | v, .bl b, h => by rw [AV.rep] at h; subst h; rw [AV.dat]; exact .bl _
  | v, .int b, h => by rw [AV.rep] at h; subst h; rw [AV.dat]; exact .int _
  | v, .str b, h => by rw [AV.rep] at h; subst h; rw [AV.dat]; exact .str _
  | v, .lst xs, h => by
    rw [AV.rep] at h
    obtain ⟨hl, p, vs, rfl, hq, hp⟩ := h
    rw [AV.dat]
    exact .lst (.inl (.inl hq)) (AV.dps xs hp)
  | v, .tup xs, h => by
    rw [AV.rep] at h
    obtain ⟨hl, p, vs, rfl, hq, hp⟩ := h
    rw [AV.dat]
    exact .tup hq (AV.dps xs hp)
theorem AV.dps {K : PySem.W.Frag} {S : Hp} : ∀ {vs : List V} (xs : List AV), AV.reps K S vs xs → DpAll K S vs (AV.dats xs)
  | vs, [], h => by rw [AV.reps] at h; subst h; rw [AV.dats]; exact .nil
  | vs, x :: r, h => by
    rw [AV.reps] at h
    obtain ⟨v, us, rfl, h1, h2⟩ := h
    rw [AV.dats]
    exact .cons (AV.dp x h1) (AV.dps r h2)
end
structure AV.Gd (k : Nat) (x : AV) : Prop where
  c : x.dat.canLay0 = true
  d : x.dat.depth ≤ k
def Gds (k : Nat) (xs : List AV) : Prop := ∀ x ∈ xs, x.Gd k
theorem Gds.nil {k : Nat} : Gds k [] := fun x h => nomatch h
theorem Gds.cons {k : Nat} {x : AV} {xs : List AV} (h : x.Gd k) (t : Gds k xs) : Gds k (x :: xs) := fun y hy => by
  rcases List.mem_cons.mp hy with rfl | hy
  · exact h
  · exact t y hy
theorem Gds.app {k : Nat} {xs ys : List AV} (h : Gds k xs) (t : Gds k ys) : Gds k (xs ++ ys) := fun y hy => (List.mem_append.mp hy).elim (h y) (t y)
theorem Gds.sub {k : Nat} {xs ys : List AV} (h : Gds k xs) (t : ∀ y ∈ ys, y ∈ xs) : Gds k ys := fun y hy => h y (t y hy)
theorem dats_can : ∀ {xs : List AV}, PyData.canLayAll0 (AV.dats xs) = true ↔ ∀ x ∈ xs, x.dat.canLay0 = true
  | [] => by simp [AV.dats, PyData.canLayAll0]
  | x :: r => by rw [AV.dats, PyData.canLayAll0, Bool.and_eq_true, dats_can]; simp
theorem dats_dep {k : Nat} : ∀ {xs : List AV}, PyData.depthAll (AV.dats xs) ≤ k ↔ ∀ x ∈ xs, x.dat.depth ≤ k
  | [] => by simp [AV.dats, PyData.depthAll]
  | x :: r => by
    rw [AV.dats, PyData.depthAll, Nat.max_le, dats_dep]
    simp
theorem gd_tup {k : Nat} {xs : List AV} : (AV.tup xs).Gd (k + 1) ↔ Gds k xs := by
  constructor
  · rintro ⟨c, d⟩
    rw [AV.dat, PyData.canLay0, dats_can] at c
    rw [AV.dat, PyData.depth, Nat.succ_le_succ_iff, dats_dep] at d
    exact fun x hx => ⟨c x hx, d x hx⟩
  · intro h
    refine ⟨?_, ?_⟩
    · rw [AV.dat, PyData.canLay0, dats_can]
      exact fun x hx => (h x hx).c
    · rw [AV.dat, PyData.depth, Nat.succ_le_succ_iff, dats_dep]
      exact fun x hx => (h x hx).d
theorem gd_lst {k : Nat} {xs : List AV} : (AV.lst xs).Gd (k + 1) ↔ Gds k xs := by
  constructor
  · rintro ⟨c, d⟩
    rw [AV.dat, PyData.canLay0, dats_can] at c
    rw [AV.dat, PyData.depth, Nat.succ_le_succ_iff, dats_dep] at d
    exact fun x hx => ⟨c x hx, d x hx⟩
  · intro h
    refine ⟨?_, ?_⟩
    · rw [AV.dat, PyData.canLay0, dats_can]
      exact fun x hx => (h x hx).c
    · rw [AV.dat, PyData.depth, Nat.succ_le_succ_iff, dats_dep]
      exact fun x hx => (h x hx).d
theorem gd_int {k : Nat} {b : Int} : (AV.int b).Gd k := ⟨by simp [AV.dat, PyData.canLay0], by simp [AV.dat, PyData.depth]⟩
theorem gd_str {k : Nat} {z : Str} (h : PyData.strOk z = true) : (AV.str z).Gd k := ⟨by rw [AV.dat, PyData.canLay0]; exact h, by simp [AV.dat, PyData.depth]⟩
theorem AV.Gd.up {k l : Nat} {x : AV} (h : x.Gd k) (hl : k ≤ l) : x.Gd l := ⟨h.c, Nat.le_trans h.d hl⟩
theorem AV.Gd.items {k : Nat} {x : AV} (h : x.Gd k) : Gds k x.items := by
  cases x with
  | tup xs =>
    cases k with
    | zero =>
      have := h.d
      rw [AV.dat, PyData.depth] at this
      omega
    | succ k => exact fun y hy => (gd_tup.mp h y hy).up (Nat.le_succ k)
  | lst xs =>
    cases k with
    | zero =>
      have := h.d
      rw [AV.dat, PyData.depth] at this
      omega
    | succ k => exact fun y hy => (gd_lst.mp h y hy).up (Nat.le_succ k)
  | _ => exact Gds.nil
theorem AV.Gd.shaped {k : Nat} {x : AV} (h : x.Gd k) (hk : k ≤ 64) : SeqAt.shaped x.dat = true := by
  unfold SeqAt.shaped
  rw [h.c, Bool.true_and]
  exact decide_eq_true (Nat.le_trans h.d hk)
theorem AV.map_id (xs : List AV) : xs.map (IsAV.av (α := AV)) = xs := by
  show xs.map id = xs
  exact List.map_id xs
instance : IsAV (Option Int) where
  av o := match o with
    | none => .non
    | some i => .int i
  iff {K S v a} := by
    cases a with
    | none => show AV.rep K S v .non ↔ v = .non; rw [AV.rep]
    | some i => show AV.rep K S v (.int i) ↔ v = .int i; rw [AV.rep]
section
variable {K : PySem.W.Frag} {B : Addr → Prop} {ρ : List Slot} {ta tb te : TE} {x y : AV} {α : Type} {e_α : Enc α}
theorem d_catU {xs ys : List α} (h1 : DE K B ta ρ (α := U α) xs) (h2 : DE K B tb ρ (α := U α) ys) (hl : xs.length + ys.length ≤ BIG) : DE K B (tOp (rCatA K) ta tb) ρ (α := U α) (xs ++ ys) := fun S0 H0 S H σ E Q q =>
  h1 S0 H0 S H σ E _ fun v S1 H1 e1 r1 => h2 S0 H0 S1 H1 σ (E.go e1) _ fun w S2 H2 e2 r2 => by
    obtain ⟨l1, p1, vs1, rfl, hq1, r1⟩ := Enc.mono e2.s r1
    obtain ⟨l2, p2, vs2, rfl, hq2, r2⟩ := r2
    have r := Paired.app r1 r2
    have la : (xs ++ ys).length ≤ BIG := by rw [List.length_append]; exact hl
    refine ⟨p1, p2, vs1, vs2, rfl, rfl, Evl.ex_t e2.i hq1, Evl.ex_t e2.i hq2, ?_, fun z => ?_, fun _ z => ?_, fun _ _ p hp => ?_⟩
    · rw [r1.length, r2.length]
      exact Nat.le_trans hl big_line
    · subst z
      rw [List.nil_append] at r
      exact q _ S2 H2 (e1.trans e2) ⟨la, p2, vs2, rfl, hq2, r⟩
    · subst z
      rw [List.append_nil] at r
      exact q _ S2 H2 (e1.trans e2) ⟨la, p1, vs1, rfl, hq1, r⟩
    · have e3 : Ext B S2 H2 (upd S2 p (.tup (vs1 ++ vs2))) (upd H2 p (.tup (vs1 ++ vs2))) := Ext.new e2.i hp
      exact q _ _ _ ((e1.trans e2).trans e3) ⟨la, p, _, rfl, .inl (.inl upd_same), Paired.mono (fun _ _ => Enc.mono e3.s) r⟩
theorem op_catAK {X : Cx} (K : PySem.W.Frag) (h : X.K = K := by rfl) : OpR X (binaryOp .Add) (rCatA K) := by
  subst h
  exact op_catA
end
end WW
set_option Elab.async false
set_option linter.all false
set_option maxRecDepth 100000
set_option maxHeartbeats 4000000
namespace WW
open PySem PySem.Spec PyProof.Rows L2
mutual
/-- every number is short -/
def AV.ish : AV → Bool
  | .int i => decide (i.natAbs < 10 ^ 12)
  | .lst xs => AV.ishs xs
  | .tup xs => AV.ishs xs
  | _ => true
def AV.ishs : List AV → Bool
  | [] => true
  | x :: xs => AV.ish x && AV.ishs xs
end
theorem log_short {i : Int} (h : i.natAbs < 10 ^ 12) : decide (i.natAbs.log2 < 1920) = true := by
  refine decide_eq_true ?_
  by_cases c : i.natAbs = 0
  · rw [c]
    decide
  · exact (Nat.log2_lt c).mpr (Nat.lt_of_lt_of_le h (Nat.le_trans (show 10 ^ 12 ≤ 2 ^ 40 by decide) (Nat.pow_le_pow_right (by decide) (by decide))))
mutual
theorem AV.shw : ∀ x : AV, x.ish = true → x.dat.showable = true ∧ x.dat.intsShort 13 = true ∧ x.dat.hasDict = false
  | .non, _ => by simp [AV.dat, PyData.showable, PyData.intsShort, PyData.hasDict]
  | .bl _, _ => by simp [AV.dat, PyData.showable, PyData.intsShort, PyData.hasDict]
  | .str _, _ => by simp [AV.dat, PyData.showable, PyData.intsShort, PyData.hasDict]
  | .int i, h => by
    rw [AV.ish] at h
    have h := of_decide_eq_true h
    refine ⟨?_, ?_, ?_⟩
    · rw [AV.dat, PyData.showable]; exact log_short h
    · rw [AV.dat, PyData.intsShort]; exact decide_eq_true (PyData.shown_int_le h)
    · rw [AV.dat, PyData.hasDict]
  | .lst xs, h => by
    rw [AV.ish] at h
    obtain ⟨h1, h2, h3⟩ := AV.shws xs h
    rw [AV.dat, PyData.showable, PyData.intsShort, PyData.hasDict]
    exact ⟨h1, h2, h3⟩
  | .tup xs, h => by
    rw [AV.ish] at h
    obtain ⟨h1, h2, h3⟩ := AV.shws xs h
    rw [AV.dat, PyData.showable, PyData.intsShort, PyData.hasDict]
    exact ⟨h1, h2, h3⟩
theorem AV.shws : ∀ xs : List AV, AV.ishs xs = true → PyData.showableAll (AV.dats xs) = true ∧ PyData.intsShortAll 13 (AV.dats xs) = true ∧ PyData.hasDictAll (AV.dats xs) = false
  | [], _ => by simp [AV.dats, PyData.showableAll, PyData.intsShortAll, PyData.hasDictAll]
  | x :: xs, h => by
    rw [AV.ishs, Bool.and_eq_true] at h
    obtain ⟨a1, a2, a3⟩ := AV.shw x h.1
    obtain ⟨b1, b2, b3⟩ := AV.shws xs h.2
    rw [AV.dats, PyData.showableAll, PyData.intsShortAll, PyData.hasDictAll, a1, a2, a3, b1, b2, b3]
    exact ⟨rfl, rfl, rfl⟩
end
theorem d_reprA {K : PySem.W.Frag} {B : Addr → Prop} {ρ : List Slot} {te : TE} {x : AV} {k : Nat} (h : DE K B te ρ x) (hs : x.ish = true) (gx : x.Gd k) (hk : k ≤ 64) (hw : x.dat.weight ≤ 2 ^ 20) : DE K B (tCB (rShow K) (tCons te tNil)) ρ x.dat.shown := fun S0 H0 S H σ E Q q =>
  h S0 H0 S H σ E _ fun v S1 H1 e1 r1 => by
    obtain ⟨s1, s2, s3⟩ := AV.shw x hs
    refine ⟨v, x.dat, rfl, AV.dp _ (AV.mono e1.i x r1), s3, s1, Nat.le_trans gx.d hk, PyData.shown_fits_of_layable0 (B := 13) (by decide) (by decide) ?_ s2, q _ S1 H1 e1 rfl⟩
    show (PyData.canLay0 x.dat && decide (PyData.depth x.dat ≤ 64) && decide (PyData.weight x.dat ≤ 2 ^ 20)) = true
    rw [gx.c, decide_eq_true (Nat.le_trans gx.d hk), decide_eq_true hw]
    rfl
end WW
set_option Elab.async false
set_option linter.all false
set_option maxRecDepth 100000
set_option maxHeartbeats 4000000
namespace WW
open PySem PySem.Spec PyProof.Rows L2
def nmLine (w : Str) (ns : List Str) : List Str := if 0 < ns.length then [Txt.join " " (w :: ns)] else []
def fmtJ (zs : List Str) : Str := zs.foldl (· ++ ·) Str.empty
def useLine (t : Str × Str) : Str := fmtJ ["use ", t.1, " ", t.2]
def lnkLine (t : Lk) : Str := fmtJ ["link ", t.a, " ", t.b, " ", Str.ofString (toString t.c), " ", Str.ofString (toString t.d)]
def nmSecs (m : DMd) : List (Str × U Str) := [("in", m.i), ("out", m.o), ("at", m.s)]
def modLines (m : DMd) : List Str := [fmtJ ["module ", m.n]] ++ (nmSecs m).flatMap (fun q => nmLine q.1 q.2) ++ m.c.map useLine ++ m.l.map lnkLine
def modText (m : DMd) : Str := Txt.join "\n" (modLines m)
structure TxtM (m : DMd) : Prop where
  n : m.n.length ≤ 100
  nl : ∀ z ∈ m.i ++ m.o ++ m.s, z.length ≤ 100
  il : m.i.length ≤ 100
  ol : m.o.length ≤ 100
  sl : m.s.length ≤ 100
  cl : m.c.length ≤ 100
  cn : ∀ t ∈ m.c, t.1.length ≤ 100 ∧ t.2.length ≤ 100
  ll : m.l.length ≤ 100
  ln : ∀ t ∈ m.l, t.a.length ≤ 100 ∧ t.b.length ≤ 100 ∧ t.c.natAbs < 10 ^ 9 ∧ t.d.natAbs < 10 ^ 9
theorem foldl_len : ∀ (zs : List Str) (a : Str), (zs.foldl (· ++ ·) a).length = a.length + (zs.map (·.length)).sum
  | [], a => by simp
  | z :: zs, a => by
    rw [List.foldl_cons, foldl_len zs, str_app_len, List.map_cons, List.sum_cons]
    omega
theorem fmtJ_len (zs : List Str) : (fmtJ zs).length = (zs.map (·.length)).sum := by
  unfold fmtJ
  rw [foldl_len]
  show 0 + _ = _
  omega
theorem glue_len (z : Str) : ∀ (ws : List Str) (a : Array Nat), (ws.foldl (fun acc p => acc ++ z.cps ++ p.cps) a).size = a.size + (ws.map (·.length)).sum + ws.length * z.length
  | [], a => by simp
  | w :: ws, a => by
    rw [List.foldl_cons, glue_len z ws, Array.size_append, Array.size_append, List.map_cons, List.sum_cons, List.length_cons, Nat.add_mul]
    show a.size + z.length + w.length + _ + _ = _
    omega
theorem join_len (z : Str) : ∀ (ws : List Str), (Txt.join z ws).length ≤ (ws.map (·.length)).sum + ws.length * z.length
  | [] => by
    show (Str.empty).length ≤ _
    exact Nat.zero_le _
  | w :: ws => by
    show (ws.foldl (fun acc p => acc ++ z.cps ++ p.cps) w.cps).size ≤ _
    rw [glue_len, List.map_cons, List.sum_cons, List.length_cons, Nat.add_mul]
    show w.length + _ + _ ≤ _
    omega
theorem sumL_le {k : Nat} : ∀ {ws : List Str}, (∀ w ∈ ws, w.length ≤ k) → (ws.map (·.length)).sum ≤ ws.length * k
  | [], _ => Nat.zero_le _
  | w :: ws, h => by
    have h1 := h w List.mem_cons_self
    have h2 := sumL_le (ws := ws) fun x hx => h x (List.mem_cons_of_mem _ hx)
    rw [List.map_cons, List.sum_cons, List.length_cons, Nat.add_mul]
    omega
theorem nmLine_len {w : Str} {ns : List Str} (hw : w.length ≤ 10) (hl : ns.length ≤ 100) (hn : ∀ z ∈ ns, z.length ≤ 100) : ((w :: ns).map (·.length)).sum + (w :: ns).length * (" " : Str).length ≤ 10111 ∧ ∀ x ∈ nmLine w ns, x.length ≤ 10111 := by
  have e : (" " : Str).length = 1 := by decide
  have s := sumL_le (k := 100) (ws := ns) hn
  have b : ((w :: ns).map (·.length)).sum + (w :: ns).length * (" " : Str).length ≤ 10111 := by
    rw [List.map_cons, List.sum_cons, List.length_cons, e]
    have : ns.length * 100 ≤ 100 * 100 := Nat.mul_le_mul_right _ hl
    omega
  refine ⟨b, fun x hx => ?_⟩
  unfold nmLine at hx
  split at hx
  · rw [List.mem_singleton.mp hx]
    exact Nat.le_trans (join_len _ _) b
  · cases hx
theorem num_len {i : Int} (h : i.natAbs < 10 ^ 9) : (Str.ofString (toString i)).length ≤ 10 := by
  rw [PySem.ofString_length]
  exact PySem.int_text_length_le10 (k := 9) (by decide) h
section
variable {m : DMd}
theorem useLine_len {t : Str × Str} (h : t.1.length ≤ 100 ∧ t.2.length ≤ 100) : ((["use ", t.1, " ", t.2] : List Str).map (·.length)).sum ≤ 1000 := by
  have e1 : ("use " : Str).length = 4 := by decide
  have e2 : (" " : Str).length = 1 := by decide
  simp only [List.map_cons, List.map_nil, List.sum_cons, List.sum_nil, e1, e2]
  omega
theorem lnkLine_len {t : Lk} (h : t.a.length ≤ 100 ∧ t.b.length ≤ 100 ∧ t.c.natAbs < 10 ^ 9 ∧ t.d.natAbs < 10 ^ 9) : ((["link ", t.a, " ", t.b, " ", Str.ofString (toString t.c), " ", Str.ofString (toString t.d)] : List Str).map (·.length)).sum ≤ 1000 := by
  have e1 : ("link " : Str).length = 5 := by decide
  have e2 : (" " : Str).length = 1 := by decide
  have n1 := num_len h.2.2.1
  have n2 := num_len h.2.2.2
  simp only [List.map_cons, List.map_nil, List.sum_cons, List.sum_nil, e1, e2]
  omega
theorem TxtM.lines (h : TxtM m) : (modLines m).length ≤ 204 ∧ ∀ x ∈ modLines m, x.length ≤ 10111 := by
  have e0 : ("module " : Str).length = 7 := by decide
  have nl := h.nl
  have s1 := nmLine_len (w := "in") (ns := m.i) (by decide) h.il fun z hz => nl z (by simp [hz])
  have s2 := nmLine_len (w := "out") (ns := m.o) (by decide) h.ol fun z hz => nl z (by simp [hz])
  have s3 := nmLine_len (w := "at") (ns := m.s) (by decide) h.sl fun z hz => nl z (by simp [hz])
  have one : ∀ (w : Str) (ns : List Str), (nmLine w ns).length ≤ 1 := fun w ns => by unfold nmLine; split <;> simp
  have ef : (nmSecs m).flatMap (fun q => nmLine q.1 q.2) = nmLine "in" m.i ++ (nmLine "out" m.o ++ (nmLine "at" m.s ++ [])) := rfl
  unfold modLines
  rw [ef, List.append_nil]
  have o1 := one "in" m.i
  have o2 := one "out" m.o
  have o3 := one "at" m.s
  have cl := h.cl
  have ll := h.ll
  refine ⟨by simp only [List.length_append, List.length_map, List.length_cons, List.length_nil]; omega, fun x hx => ?_⟩
  simp only [List.mem_append] at hx
  rcases hx with ((hx | hx | hx | hx) | hx) | hx
  · rw [List.mem_singleton.mp hx, fmtJ_len]
    have := h.n
    simp only [List.map_cons, List.map_nil, List.sum_cons, List.sum_nil, e0]
    omega
  · exact s1.2 x hx
  · exact s2.2 x hx
  · exact s3.2 x hx
  · obtain ⟨t, ht, rfl⟩ := List.mem_map.mp hx
    unfold useLine
    rw [fmtJ_len]
    exact Nat.le_trans (useLine_len (h.cn t ht)) (by decide)
  · obtain ⟨t, ht, rfl⟩ := List.mem_map.mp hx
    unfold lnkLine
    rw [fmtJ_len]
    exact Nat.le_trans (lnkLine_len (h.ln t ht)) (by decide)
theorem TxtM.sum (h : TxtM m) : ((modLines m).map (·.length)).sum + (modLines m).length * ("\n" : Str).length ≤ 2100000 := by
  have e : ("\n" : Str).length = 1 := by decide
  obtain ⟨l1, l2⟩ := h.lines
  have s := sumL_le l2
  have : (modLines m).length * 10111 ≤ 204 * 10111 := Nat.mul_le_mul_right _ l1
  rw [e]
  omega
theorem TxtM.len (h : TxtM m) : (modText m).length ≤ 2100000 := Nat.le_trans (join_len _ _) h.sum
end
structure TxtH (ms : List DMd) : Prop where
  ok : ∀ m ∈ ms, TxtM m
  l : ms.length ≤ 7
theorem TxtH.sum {ms : List DMd} (h : TxtH ms) : ((ms.map modText).map (·.length)).sum + (ms.map modText).length * ("\n" : Str).length ≤ 16777216 := by
  have e : ("\n" : Str).length = 1 := by decide
  have s := sumL_le (k := 2100000) (ws := ms.map modText) fun x hx => by
    obtain ⟨m, hm, rfl⟩ := List.mem_map.mp hx
    exact (h.ok m hm).len
  rw [List.length_map] at s ⊢
  have : ms.length * 2100000 ≤ 7 * 2100000 := Nat.mul_le_mul_right _ h.l
  have := h.l
  rw [e]
  omega
section
variable {K : PySem.W.Frag} {B : Addr → Prop} {ρ : List Slot} {te : TE} {i : Int} {m : DMd} {ms : List DMd}
theorem d_fmtI (h : DE K B te ρ i) (hs : i.natAbs < 10 ^ 9) : DE K B (tFmt te) ρ (Str.ofString (toString i)) := fun S0 H0 S H σ E Q q =>
  h S0 H0 S H σ E _ fun v S1 H1 e1 r1 => .inr ⟨i, r1, of_decide_eq_true (log_short (Nat.lt_trans hs (by decide))), q _ S1 H1 e1 rfl⟩
def spMStr (K : PySem.W.Frag) : Sp := fun vs H Q _ => ∃ (S : Hp) (x : Addr) (m : DMd), vs = [.ref x] ∧ Same S H ∧ Enc.rep K S (.ref x) (MOb.mk m) ∧ TxtM m ∧ ∀ S' H', Ext noB S H S' H' → Q (.str (modText m)) H'
theorem ext_noH {S H S' H' : Hp} (e : Ext noB S H S' H') : Ext B S H S' H' := ⟨e.s, e.i, fun a h1 h2 => ⟨(e.p a h1 h2).1, (e.p a h1 h2).2.imp id fun h => h.1.elim⟩⟩
theorem d_strM (h : DE K B te ρ (MOb.mk m)) (hs : TxtM m) : DE K B (tCB (rStrO (He.ga K "Module") (spMStr K)) (tCons te tNil)) ρ (modText m) := fun S0 H0 S H σ E Q q =>
  h S0 H0 S H σ E _ fun v S1 H1 e1 r => by
    obtain ⟨x, dx, fs, rfl, hx, _⟩ := OfCls.is (α := MOb) r
    exact .mk x dx _ rfl (e1.i _ _ hx) ⟨S1, x, m, rfl, e1.i, r, hs, fun S' H' ex => ⟨_, rfl, q _ S' H' (e1.trans (ext_noH ex)) rfl⟩⟩
end
section
variable {P : Program} {w : World} {K : PySem.W.Frag} {mg : Str → Option Value} {base : Heap} {f : Addr} {fd : FuncData}
abbrev N_names_line : List Str := ["word", "names"]
theorem sc_names_line : FnScope N_names_line ["word", "names"] (defScope s_names_line) := ⟨rfl, rfl, rfl, by decide +kernel, rfl, by decide +kernel, by decide +kernel⟩
theorem ok_names_line (F : FnP K "names_line" s_names_line f fd) (m_len : mg "len" = none) : FnOk P w K mg base CX0 1 f fd ["word", "names"] (spT K (dp2 (α := Str) (β := U Str) (γ := L Str) (fun w ns => w.length ≤ 10 ∧ List.length ns ≤ 100 ∧ ∀ z ∈ (show List Str from ns), z.length ≤ 100) fun w ns => nmLine w ns)) := by
  refine okT F sc_names_line (fun ss R h => ?_) (fun cdv A outer s H E hr => ⟨_, (pss_one (ps_ret (pe_ifExp (pt_cmpR op_gt (pe_callB (call_lenK K) rfl m_len (by decide +kernel) (pa_cons (pv 1) (pa_nil))) (pe_int) (nomark _)) (pe_lst (pa_cons (pe_joinK K (pe_str) (pe_lst (pa_cons (pv 0) (pa_starK K (pv 1) (pa_nil))))) (pa_nil))) (pe_lst (pa_nil))))), fun B ss R h => ?_⟩)
  · obtain ⟨z, ns, rfl, _⟩ := h
    rfl
  · obtain ⟨z, ns, rfl, ⟨h1, h2, h3⟩, q⟩ := h
    have b := (nmLine_len (w := z) (ns := ns) h1 h2 h3).1
    have lb : (z :: (show List Str from ns) ++ []).length ≤ BIG := by
      rw [List.append_nil]
      exact Nat.le_trans (show List.length ns + 1 ≤ 101 by omega) (by decide)
    show DS K B _ [.val z, .val ns] _
    refine ds_ret (α := L Str) (a := nmLine z ns) (d_ifE (c := decide (0 < List.length ns)) (DT.is (dt_test (d_gt (d_len (d_Uq (d_var (n := 1) (a := ns) rfl))) d_int)) ?_) (fun c => DE.is (DO.l (do_lst (dl_cons (d_join d_str (ws := z :: (show List Str from ns) ++ []) (DO.q (do_lst (dl_cons (d_var (n := 0) (a := z) rfl) (dl_star (d_Uq (d_var (n := 1) (a := ns) rfl)) dl_nil)) lb)) (by rw [List.append_nil]; exact Nat.le_trans b (by decide))) dl_nil) (show 1 ≤ BIG by decide))) ?_) fun c => DE.is (DO.l (do_nil Str)) ?_) q
    · exact decide_eq_decide.mpr (by omega)
    · unfold nmLine
      rw [if_pos (of_decide_eq_true c), List.append_nil]
    · unfold nmLine
      rw [if_neg (of_decide_eq_false c)]
end
end WW
set_option Elab.async false
set_option linter.all false
set_option maxRecDepth 100000
set_option maxHeartbeats 4000000
namespace WW
open PySem PySem.Spec PyProof.Rows L2
section
variable {P : Program} {w : World} {K : PySem.W.Frag} {mg : Str → Option Value} {base : Heap} {f : Addr} {fd : FuncData}
abbrev N_module_lines : List Str := ["module", "found", "word", "names", "label", "name", "first", "then", "marks", "lasts"]
theorem sc_module_lines : FnScope N_module_lines ["module"] (defScope s_module_lines) := ⟨rfl, rfl, rfl, by decide +kernel, rfl, by decide +kernel, by decide +kernel⟩
theorem ok_module_lines (F : FnP K "module_lines" s_module_lines f fd) (MC : ModC K (He.ga K "Module")) (g_names_line : FnAt P w K mg base CX0 1 "names_line" ["word", "names"] (spT K (dp2 (α := Str) (β := U Str) (γ := L Str) (fun w ns => w.length ≤ 10 ∧ List.length ns ≤ 100 ∧ ∀ z ∈ (show List Str from ns), z.length ≤ 100) fun w ns => nmLine w ns))) : FnOk P w K mg base CX0 3 f fd ["module"] (spT K (dp1 (α := MOb) (γ := L Str) (fun o => TxtM o.m) fun o => modLines o.m)) := by
  refine okT F sc_module_lines (fun ss R h => ?_) (fun cdv A outer s H E hr => ⟨_, (pss_cons (ps_set (i := 1) sc_module_lines.nd rfl (.inl rfl) (pe_lst (pa_cons (pe_joined (.cons (pe_str) (.cons (pe_fmt (pe_fldK K (pv 0) rfl)) (.nil)))) (pa_nil))))
 (pss_cons (ps_for PassesOwn.never rfl (pi_seqK K (pe_tup (pa_cons (pe_tup (pa_cons (pe_str) (pa_cons (pe_fldK K (pv 0) rfl) (pa_nil)))) (pa_cons (pe_tup (pa_cons (pe_str) (pa_cons (pe_fldK K (pv 0) rfl) (pa_nil)))) (pa_cons (pe_tup (pa_cons (pe_str) (pa_cons (pe_fldK K (pv 0) rfl) (pa_nil)))) (pa_nil)))))) (pg_tupK (n := 2) K rfl (pgs_cons (pg_name (i := 2) sc_module_lines.nd rfl (.inl rfl)) (pgs_cons (pg_name (i := 3) sc_module_lines.nd rfl (.inl rfl)) (pgs_nil)))) (pss_one (ps_expr (pe_bmK K PySem.F.plainAttrs_list PySem.F.slot_list_extend PySem.F.type_list_extend mt_extend (pv 1) (pa_cons (pe_fn g_names_line hr rfl (pa_cons (pv 2) (pa_cons (pv 3) (pa_nil)))) (pa_nil))))))
 (pss_cons (ps_expr (pe_bmK K PySem.F.plainAttrs_list PySem.F.slot_list_extend PySem.F.type_list_extend mt_extend (pv 1) (pa_cons (pe_lc (own := [("label", 4), ("name", 5)]) rfl sc_module_lines.nd (pi_seqK K (pe_fldK K (pv 0) rfl)) (blkOk_by (N := N_module_lines) (sc := defScope s_module_lines) (by decide +kernel)) (fun _ _ _ _ _ => pg_tupK (n := 2) K rfl (pgs_cons (pg_name (i := 4) sc_module_lines.nd rfl (.inl rfl)) (pgs_cons (pg_name (i := 5) sc_module_lines.nd rfl (.inl rfl)) (pgs_nil)))) (fun _ _ _ _ _ => pts_nil) (fun _ _ _ _ _ => pe_joined (.cons (pe_str) (.cons (pe_fmt (pv 4)) (.cons (pe_str) (.cons (pe_fmt (pv 5)) (.nil))))))) (pa_nil))))
 (pss_cons (ps_expr (pe_bmK K PySem.F.plainAttrs_list PySem.F.slot_list_extend PySem.F.type_list_extend mt_extend (pv 1) (pa_cons (pe_lc (own := [("first", 6), ("then", 7), ("marks", 8), ("lasts", 9)]) rfl sc_module_lines.nd (pi_seqK K (pe_fldK K (pv 0) rfl)) (blkOk_by (N := N_module_lines) (sc := defScope s_module_lines) (by decide +kernel)) (fun _ _ _ _ _ => pg_tupK (n := 4) K rfl (pgs_cons (pg_name (i := 6) sc_module_lines.nd rfl (.inl rfl)) (pgs_cons (pg_name (i := 7) sc_module_lines.nd rfl (.inl rfl)) (pgs_cons (pg_name (i := 8) sc_module_lines.nd rfl (.inl rfl)) (pgs_cons (pg_name (i := 9) sc_module_lines.nd rfl (.inl rfl)) (pgs_nil)))))) (fun _ _ _ _ _ => pts_nil) (fun _ _ _ _ _ => pe_joined (.cons (pe_str) (.cons (pe_fmt (pv 6)) (.cons (pe_str) (.cons (pe_fmt (pv 7)) (.cons (pe_str) (.cons (pe_fmt (pv 8)) (.cons (pe_str) (.cons (pe_fmt (pv 9)) (.nil))))))))))) (pa_nil))))
 (pss_one (ps_ret (pv 1))))))), fun B ss R h => ?_⟩)
  · obtain ⟨o, rfl, _⟩ := h
    rfl
  · obtain ⟨⟨m⟩, rfl, h, q⟩ := h
    have b18 : ∀ {n : Nat}, n ≤ 100000 → n ≤ BIG := fun h => Nat.le_trans h (by decide)
    have h : TxtM m := h
    have e0 : ("module " : Str).length = 7 := by decide
    have hn := h.n
    have cl := h.cl
    have ll := h.ll
    have one : ∀ (w : Str) (ns : List Str), (nmLine w ns).length ≤ 1 := fun w ns => by unfold nmLine; split <;> simp
    have dv : ∀ {ρ : List Slot}, ρ[0]? = some (.val (MOb.mk m)) → DE K B (tVar 0) ρ (MOb.mk m) := fun h => d_var (n := 0) (a := MOb.mk m) h
    show DS K B _ [.val (MOb.mk m), .no, .no, .no, .no, .no, .no, .no, .no, .no] _
    refine dq_asgO (α := Str) (xs := [fmtJ ["module ", m.n]]) (do_lst (dl_cons (d_joined (zs := ["module ", m.n]) (dj_cons d_str (dj_cons (d_fmtS (d_mname MC (dv rfl)) (b18 (by show m.n.length ≤ _; omega))) dj_nil)) (b18 (by simp only [List.map_cons, List.map_nil, List.sum_cons, List.sum_nil, e0]; omega))) dl_nil) (show 1 ≤ BIG by decide)) ?_
    refine dq_for (α := Str × U Str) (xs := nmSecs m) (di_seq (d_Uq (d_tupU (dl_cons (d_pair d_str (d_minlets MC (dv rfl))) (dl_cons (d_pair d_str (d_moutlets MC (dv rfl))) (dl_cons (d_pair d_str (d_mstations MC (dv rfl))) dl_nil))) (show 3 ≤ BIG by decide)))) (fun j r => ∃ s2 s3 : Slot, r = [.val (MOb.mk m), .own ([fmtJ ["module ", m.n]] ++ ((nmSecs m).take j).flatMap fun q => nmLine q.1 q.2), s2, s3, .no, .no, .no, .no, .no, .no]) ⟨.no, .no, rfl⟩ (fun j x r hx hI => ?_) fun r hI => ?_
    · obtain ⟨s2, s3, rfl⟩ := hI
      obtain ⟨z, ns⟩ := x
      have et : (nmSecs m).take (j + 1) = (nmSecs m).take j ++ [(z, ns)] := by rw [List.take_add_one, hx]; rfl
      have hp : z.length ≤ 10 ∧ List.length ns ≤ 100 ∧ ∀ y ∈ (show List Str from ns), y.length ≤ 100 := by
        have hm := List.mem_of_getElem? hx
        unfold nmSecs at hm
        simp only [List.mem_cons, List.mem_nil_iff, or_false, Prod.mk.injEq] at hm
        rcases hm with ⟨rfl, rfl⟩ | ⟨rfl, rfl⟩ | ⟨rfl, rfl⟩
        · exact ⟨by decide, h.il, fun y hy => h.nl y (List.mem_append_left _ (List.mem_append_left _ hy))⟩
        · exact ⟨by decide, h.ol, fun y hy => h.nl y (List.mem_append_left _ (List.mem_append_right _ hy))⟩
        · exact ⟨by decide, h.sl, fun y hy => h.nl y (List.mem_append_right _ hy)⟩
      have jl : j < 3 := (List.getElem?_eq_some_iff.mp hx).1
      have fl : (((nmSecs m).take j).flatMap fun q => nmLine q.1 q.2).length ≤ 3 := by
        match j, jl with
        | 0, _ => exact Nat.zero_le _
        | 1, _ =>
          show (nmLine "in" m.i ++ []).length ≤ 3
          have := one "in" m.i
          rw [List.append_nil]
          omega
        | 2, _ =>
          show (nmLine "in" m.i ++ (nmLine "out" m.o ++ [])).length ≤ 3
          have := one "in" m.i
          have := one "out" m.o
          rw [List.append_nil, List.length_append]
          omega
      refine ⟨_, _, DG.pair (e_α := inferInstance) (e_β := inferInstance) dg_name dg_name, ?_⟩
      refine ds_extend (α := Str) (n := 1) rfl (d_call2 (γ := L Str) (d_var (n := 2) (a := z) rfl) (d_var (n := 3) (a := ns) rfl) hp) (b18 ?_) ⟨.val z, .val ns, ?_⟩
      · have := one z ns
        show ([fmtJ ["module ", m.n]] ++ _).length + (nmLine z ns).length ≤ _
        rw [List.length_append]
        show 1 + _ + _ ≤ _
        omega
      · rw [et, List.flatMap_append, List.flatMap_cons, List.flatMap_nil, List.append_nil, List.append_assoc]
        rfl
    · obtain ⟨s2, s3, rfl⟩ := hI
      rw [List.take_length]
      generalize hX : (([fmtJ ["module ", m.n]] : List Str) ++ (nmSecs m).flatMap fun q => nmLine q.1 q.2) = X
      have xl : X.length ≤ 4 := by
        rw [← hX]
        show ([fmtJ ["module ", m.n]] ++ (nmLine "in" m.i ++ (nmLine "out" m.o ++ (nmLine "at" m.s ++ [])))).length ≤ 4
        have := one "in" m.i
        have := one "out" m.o
        have := one "at" m.s
        rw [List.append_nil, List.length_append, List.length_append, List.length_append]
        show 1 + _ ≤ 4
        omega
      show DS K B _ [.val (MOb.mk m), .own X, s2, s3, .no, .no, .no, .no, .no, .no] _
      refine ds_seq (ds_extend (α := Str) (n := 1) (xs := X) (ys := m.c.map useLine) rfl (DO.l (do_map (fun t : Str × Str => useLine t) (di_seq (d_Uq (d_mcalls MC (dv rfl)))) (b18 (by show m.c.length ≤ _; omega)) fun t ht => ⟨_, _, DG.pair dg_name dg_name, by simp, d_joined (zs := ["use ", t.1, " ", t.2]) (dj_cons d_str (dj_cons (d_fmtS (d_var (n := 4) (a := t.1) rfl) (b18 (by have := (h.cn t ht).1; omega))) (dj_cons d_str (dj_cons (d_fmtS (d_var (n := 5) (a := t.2) rfl) (b18 (by have := (h.cn t ht).2; omega))) dj_nil)))) (b18 (Nat.le_trans (useLine_len (h.cn t ht)) (by decide)))⟩)) (b18 (by rw [List.length_map]; omega)) ?_)
      show DS K B _ [.val (MOb.mk m), .own (X ++ m.c.map useLine), s2, s3, .no, .no, .no, .no, .no, .no] _
      refine ds_seq (ds_extend (α := Str) (n := 1) (xs := X ++ m.c.map useLine) (ys := m.l.map lnkLine) rfl (DO.l (do_map (fun t : Lk => lnkLine t) (di_seq (d_Uq (d_mlinks MC (dv rfl)))) (b18 (by show m.l.length ≤ _; omega)) fun t ht => ⟨_, _, DG.quad dg_name dg_name dg_name dg_name, by simp, d_joined (zs := ["link ", t.a, " ", t.b, " ", Str.ofString (toString t.c), " ", Str.ofString (toString t.d)]) (dj_cons d_str (dj_cons (d_fmtS (d_var (n := 6) (a := t.a) rfl) (b18 (by have := (h.ln t ht).1; omega))) (dj_cons d_str (dj_cons (d_fmtS (d_var (n := 7) (a := t.b) rfl) (b18 (by have := (h.ln t ht).2.1; omega))) (dj_cons d_str (dj_cons (d_fmtI (d_var (n := 8) (a := t.c) rfl) (h.ln t ht).2.2.1) (dj_cons d_str (dj_cons (d_fmtI (d_var (n := 9) (a := t.d) rfl) (h.ln t ht).2.2.2) dj_nil)))))))) (b18 (Nat.le_trans (lnkLine_len (h.ln t ht)) (by decide)))⟩)) (b18 (by rw [List.length_append, List.length_map, List.length_map]; omega)) ?_)
      show DS K B _ [.val (MOb.mk m), .own (X ++ m.c.map useLine ++ m.l.map lnkLine), s2, s3, .no, .no, .no, .no, .no, .no] _
      refine ds_frz (α := Str) (n := 1) rfl ?_
      refine ds_ret (α := L Str) (d_var (n := 1) (a := (show L Str from X ++ m.c.map useLine ++ m.l.map lnkLine)) rfl) ?_
      rw [← hX]
      exact q
abbrev N_Module___str__ : List Str := ["self"]
theorem sc_Module___str__ : FnScope N_Module___str__ ["self"] (defScope s_Module___str__) := ⟨rfl, rfl, rfl, by decide +kernel, rfl, by decide +kernel, by decide +kernel⟩
theorem ok_mstr (F : FunD K "__str__" "Module.__str__" (defArgs s_Module___str__) (defBody s_Module___str__) (defScope s_Module___str__) [] [] f fd) (g_module_lines : FnAt P w K mg base CX0 3 "module_lines" ["module"] (spT K (dp1 (α := MOb) (γ := L Str) (fun o => TxtM o.m) fun o => modLines o.m))) : FnOk P w K mg base CX0 4 f fd ["self"] (spMStr K) := by
  refine F.ok sc_Module___str__ (fun vs H Q E h => ?_) (fun cdv A outer s H vs Q E hr h => ?_)
  · obtain ⟨S, x, m, rfl, _⟩ := h
    rfl
  · obtain ⟨S, x, m, rfl, si, rx, h, q⟩ := h
    refine ⟨_, PSs.nox (pss_one (ps_ret (pe_joinK K (pe_str) (pe_fn g_module_lines hr rfl (pa_cons (pv 0) (pa_nil)))))), ?_⟩
    have E0 := start_en (N := N_Module___str__) (B := noB) (ss := [.val (MOb.mk m)]) si (fun p hp => hp.elim) (.cons rx rfl .nil)
    have E0 : En K noB S H S H _ [.val (MOb.mk m)] := E0
    refine (show DS K noB _ [.val (MOb.mk m)] ⟨fun _ => False, fun s => s = .val (modText m), fun _ => False, fun _ => False, fun _ _ => True⟩ from ?_) S H S H _ _ E0 trivial (fun _ _ _ _ h => h.elim) (fun s v S' H' r ex ok => ?_) (fun _ _ _ _ h => h.elim) (fun _ _ _ _ h => h.elim)
    · exact ds_ret (α := Str) (d_join d_str (d_Lq (d_call1 (α := MOb) (γ := L Str) (d_var (n := 0) (a := MOb.mk m) rfl) h)) (Nat.le_trans h.sum (by decide))) rfl
    · subst r
      cases (show v = V.str (modText m) from ok)
      exact q S' H' ex
end
end WW
set_option Elab.async false
set_option linter.all false
set_option maxRecDepth 100000
set_option maxHeartbeats 4000000
namespace WW
open PySem PySem.Spec PyProof.Rows L2
abbrev DIGS : Str := "0123456789"
theorem dig_list : DIGS.cps.toList = [48, 49, 50, 51, 52, 53, 54, 55, 56, 57] := by decide
theorem dig_mem {c : Nat} (h : c ∈ DIGS.cps.toList) : 48 ≤ c ∧ c ≤ 57 := by
  rw [dig_list] at h
  simp at h
  omega
def digsB (z : Str) : Bool := z.cps.toList.all fun c => decide (c ∈ DIGS.cps.toList)
def numOk (z : Str) (most : Int) : Bool := (decide (0 < (z.length : Int)) && decide ((z.length : Int) ≤ most)) && digsB z && (decide (z = "0") || !decide (z.cps.toList.head? = some 48))
def valS (z : Str) : Int := ((NumText.digitsVal z.cps.toList : Nat) : Int)
def numIn (z : Str) (most : Int) : Option Int := if numOk z most = true then some (valS z) else none
section
variable {P : Program} {w : World} {K : PySem.W.Frag} {mg : Str → Option Value} {base : Heap} {f : Addr} {fd : FuncData}
abbrev N_number_in : List Str := ["text", "most", "sign"]
theorem sc_number_in : FnScope N_number_in ["text", "most"] (defScope s_number_in) := ⟨rfl, rfl, rfl, by decide +kernel, rfl, by decide +kernel, by decide +kernel⟩
theorem ok_number_in (F : FnP K "number_in" s_number_in f fd) (m_all : mg "all" = none) (m_len : mg "len" = none) (m_int : mg "int" = none) (v_DIGITS : ∃ u, mg "DIGITS" = some u ∧ RelV (.str DIGS) u) : FnOk P w K mg base CX0 1 f fd ["text", "most"] (spT K (dp2 (fun (z : Str) (m : Int) => z.length ≤ 100000 ∧ m ≤ 600) numIn)) := by
  refine okT F sc_number_in (fun ss R h => ?_) (fun cdv A outer s H E hr => ⟨_, (pss_cons (ps_if (PW.pt (pw_or (pt_not (pt_chain op_lt op_le (pe_int) (pe_callB call_len_str rfl m_len (by decide +kernel) (pa_cons (pv 0) (pa_nil))) (pv 1))) (pw_or1 (pt_not (pt_val (pe_callB (cr_allK K) rfl m_all (by decide +kernel) (pa_cons (pe_lc (own := [("sign", 2)]) rfl sc_number_in.nd (pi_str (pv 0)) (blkOk_by (N := N_number_in) (sc := defScope s_number_in) (by decide +kernel)) (fun _ _ _ _ _ => pg_name (i := 2) sc_number_in.nd rfl (.inl rfl)) (fun _ _ _ _ _ => pts_nil) (fun _ _ _ _ _ => pe_cmpR op_in_sign (pv 2) (pe_gv rfl v_DIGITS) rfl)) (pa_nil)))))))) (pss_one (ps_ret (pe_non))) (pss_nil))
 (pss_one (ps_ret (pe_ifExp (PW.pt (pw_or (pt_cmpR op_eq (pv 0) (pe_str) (nomark _)) (pw_or1 (pt_cmpR op_ne (pe_ix ix_str (pv 0) (pe_int) (fun _ _ => rfl)) (pe_str) (nomark _))))) (pe_callTy call_int_str rfl m_int (by decide +kernel) (pa_cons (pv 0) (pa_nil))) (pe_non))))), fun B ss R h => ?_⟩)
  · obtain ⟨x, y, rfl, _⟩ := h
    rfl
  · obtain ⟨z, m, rfl, ⟨hz, hm⟩, q⟩ := h
    show DS K B _ [.val z, .val m, .no] _
    have hb : z.length ≤ BIG := Nat.le_trans hz (by decide)
    refine ds_seq (ds_if (c := !(decide (0 < (z.length : Int)) && decide ((z.length : Int) ≤ m)) || !digsB z) (dt_or (dt_not (dt_test (d_chLtLe d_int (d_lenS (d_var rfl) hb) (d_var rfl)))) fun _ => dt_not (dt_B ?_)) (fun h => ?_) (fun h => ?_))
    · refine DE.is (d_all (DO.l (do_map (fun x : Str => digsB x) (di_str (d_var rfl)) (by rw [signs_len]; exact hb) fun x hx => ?_))) ?_
      · obtain ⟨c, _, rfl⟩ := List.mem_map.mp hx
        refine ⟨_, _, dg_name, by simp, DE.is (d_inSign (d_var rfl) d_str) ?_⟩
        simp [digsB]
      · unfold digsB signs
        rw [List.all_map, List.all_map]
        congr 1
        funext c
        simp
    · refine ds_retE q d_none ?_
      unfold numIn numOk
      rw [if_neg]
      intro hc
      simp only [Bool.and_eq_true] at hc
      rw [hc.1.1.1, hc.1.1.2, hc.1.2] at h
      cases h
    · have hh : (decide (0 < (z.length : Int)) && decide ((z.length : Int) ≤ m)) = true ∧ digsB z = true := by
        revert h
        cases (decide (0 < (z.length : Int)) && decide ((z.length : Int) ≤ m)) <;> cases digsB z <;> simp
      obtain ⟨h1, h2⟩ := hh
      have h1' := h1
      simp only [Bool.and_eq_true, decide_eq_true_eq] at h1'
      have l0 : 0 < z.cps.toList.length := by
        have : z.cps.toList.length = z.length := by rw [Array.length_toList]; rfl
        omega
      refine ds_next (ds_retE q (d_if (α := Option Int) (dt_or (dt_test (d_eq (d_var rfl) d_str inferInstance inferInstance)) fun _ => dt_test (d_ne (d_ixS (c := z.cps.toList[0]) (d_var rfl) d_int hb ?_) d_str inferInstance inferInstance)) (fun _ => d_some (d_intS (n := valS z) (d_var rfl) ?_ (by omega))) (fun _ => d_none)) ?_)
      · exact atI_nat (j := 0) (List.getElem?_eq_getElem l0)
      · refine intText_digits ?_ (List.ne_nil_of_length_pos l0) (by omega)
        intro c hc
        exact dig_mem (of_decide_eq_true (List.all_eq_true.mp h2 c hc))
      · unfold numIn numOk
        rw [h1, h2]
        cases hz0 : decide (z = "0") with
        | true => simp
        | false =>
          have e1 : decide ((⟨#[z.cps.toList[0]]⟩ : Str) = Str.ofString "0") = decide (z.cps.toList.head? = some 48) := by
            have e0 : Str.ofString "0" = ⟨#[48]⟩ := by decide
            rw [e0, List.head?_eq_getElem?, List.getElem?_eq_getElem l0]
            by_cases c : z.cps.toList[0] = 48
            · rw [c]
              simp
            · rw [decide_eq_false (fun h => c (by simpa using h)), decide_eq_false (fun h => c (by injection h))]
          rw [e1]
          simp
end
end WW
set_option Elab.async false
set_option linter.all false
set_option maxRecDepth 100000
set_option maxHeartbeats 4000000
namespace WW
open PySem PySem.Spec PyProof.Rows L2
section
variable {K : PySem.W.Frag} {B : Addr → Prop} {ρ : List Slot} {ta tb te : TE} {z : Str} {zs : List Str} {a : Addr}
theorem SqC.sq (h : SqC K a zs) (H : Hp) : SqT K H a (zs.map V.str) := by
  obtain ⟨o, its, n, h1, h2, _, h3, h4, h5⟩ := h.ex
  exact .inr ⟨o, its, n, h1, h2, h3, h4, h5⟩
theorem paired_strs {S : Hp} : ∀ zs : List Str, Paired (Enc.rep K S) (zs.map V.str) zs
  | [] => .nil
  | z :: r => .cons rfl (paired_strs r)
theorem d_cst (h : SqC K a zs) (hl : zs.length ≤ BIG) : DE K B (tC (.ref a)) ρ (show U Str from zs) := fun S0 H0 S H σ E Q q => q _ S H (Ext.refl E.i) ⟨hl, a, _, rfl, h.sq S, paired_strs zs⟩
def rTix (K : PySem.W.Frag) : V → List V → Hp → VK → Prop := fun x xs H Q => ∃ p, ∃ ys : List Str, ∃ z j, x = .ref p ∧ xs = [.str z] ∧ SqT K H p (ys.map V.str) ∧ ys[j]? = some z ∧ (∀ m, m < j → ys[m]? ≠ some z) ∧ Q (.int (j : Nat)) H
theorem mt_tupIxK {X : Cx} (K : PySem.W.Frag) (hK : X.K = K := by rfl) : MtR X "tuple.index" (rTix K) := by
  subst hK
  exact mt_tup_index
theorem idx_first {ws : List Str} (h : z ∈ ws) : ws[ws.idxOf z]? = some z ∧ ∀ m, m < ws.idxOf z → ws[m]? ≠ some z := by
  have hl : ws.idxOf z < ws.length := List.idxOf_lt_length_iff.mpr h
  refine ⟨?_, fun m hlt he => ?_⟩
  · rw [List.getElem?_eq_getElem hl, List.getElem_idxOf hl]
  · have : ws.idxOf z ≤ m := by
      clear h hl
      induction ws generalizing m with
      | nil => simp at he
      | cons a r ih =>
        rw [List.idxOf_cons] at hlt ⊢
        by_cases c : (a == z) = true
        · rw [c] at hlt
          exact absurd hlt (Nat.not_lt_zero _)
        · have c : (a == z) = false := by simpa using c
          rw [c] at hlt ⊢
          cases m with
          | zero =>
            simp at he
            rw [he] at c
            simp at c
          | succ m =>
            have := ih m (by simpa using hlt) (by simpa using he)
            simpa using this
    omega
theorem d_indexC (h : SqC K a zs) (h2 : DE K B tb ρ z) (hz : z ∈ zs) : DE K B (tBM K "tuple" (rTix K) (tC (.ref a)) (tCons tb tNil)) ρ ((zs.idxOf z : Nat) : Int) := fun S0 H0 S H σ E Q q => by
  obtain ⟨o, its, n, g1, g2, g3, _⟩ := h.ex
  refine ⟨.inr (.inl ⟨rfl, o, g1, g2, g3⟩), h2 S0 H0 S H σ E _ fun w S2 H2 e2 r2 => ?_⟩
  cases r2
  obtain ⟨i1, i2⟩ := idx_first hz
  exact ⟨a, zs, z, zs.idxOf z, rfl, rfl, h.sq H2, i1, i2, q _ S2 H2 e2 rfl⟩
end
instance {α β γ δ : Type} [Enc α] [Enc β] [Enc γ] [Enc δ] : NotN (T4 α β γ δ) := ⟨fun h => by obtain ⟨x, _, _, _, _, rfl, _⟩ := h; exact fun z => nomatch z⟩
def wAt (ws : List Str) (i : Nat) : Str := ws.getD i Str.empty
def linkIn (ws : List Str) : Option Lk := if (!decide (ws.length = 4) || (!endB (wAt ws 0) || !endB (wAt ws 1))) = true then none else match numIn (wAt ws 2) 3, numIn (wAt ws 3) 3 with
  | some a, some b => some ⟨wAt ws 0, wAt ws 1, a, b⟩
  | _, _ => none
def lineB (ws : List Str) : Bool := if wAt ws 0 = "link" then (linkIn (ws.drop 1)).isSome else
  if (decide (ws.length < 2) || (!decide (wAt ws 0 ∈ ORD) || !(ws.drop 1).all nameB)) = true then false else
  if wAt ws 0 = "module" then decide (ws.length = 2) else (!decide (wAt ws 0 = "use") || decide (ws.length = 3))
def followB (w : Str) (last : Option Str) : Bool := if w = "module" then true else match last with
  | none => false
  | some y => decide (ORD.idxOf y < ORD.idxOf w) || (decide (ORD.idxOf w = ORD.idxOf y) && decide (w ∈ (["use", "link"] : List Str)))
structure WsOk (ws : List Str) : Prop where
  ne : 0 < ws.length
  len : ws.length ≤ 100000
  wl : ∀ w ∈ ws, w.length ≤ 1000
theorem wAt_at {ws : List Str} {i : Nat} (h : i < ws.length) : atI ws ((i : Nat) : Int) = some (wAt ws i) := by
  rw [atI_nat (List.getElem?_eq_getElem h)]
  unfold wAt
  rw [List.getD_eq_getElem?_getD, List.getElem?_eq_getElem h]
  rfl
theorem wAt_mem {ws : List Str} {i : Nat} (h : i < ws.length) : wAt ws i ∈ ws := by
  unfold wAt
  rw [List.getD_eq_getElem?_getD, List.getElem?_eq_getElem h]
  exact List.getElem_mem h
section
variable {P : Program} {w : World} {K : PySem.W.Frag} {mg : Str → Option Value} {base : Heap} {f : Addr} {fd : FuncData}
abbrev dpLinkIn := dp1 (γ := Option Lk) (fun ws : List Str => ws.length ≤ 100000 ∧ ∀ w ∈ ws, w.length ≤ 1000) linkIn
abbrev N_link_in : List Str := ["words", "marks", "lasts"]
theorem sc_link_in : FnScope N_link_in ["words"] (defScope s_link_in) := ⟨rfl, rfl, rfl, by decide +kernel, rfl, by decide +kernel, by decide +kernel⟩
theorem ok_link_in (F : FnP K "link_in" s_link_in f fd) (m_len : mg "len" = none) (v_MOST_DIGITS : ∃ u, mg "MOST_DIGITS" = some u ∧ RelV (.int 3) u)
    (g_is_end : FnAt P w K mg base CX0 2 "is_end" ["word"] (spT K (dp1 (fun z : Str => z.length ≤ 1000) endB)))
    (g_number_in : FnAt P w K mg base CX0 1 "number_in" ["text", "most"] (spT K (dp2 (fun (z : Str) (m : Int) => z.length ≤ 100000 ∧ m ≤ 600) numIn))) : FnOk P w K mg base CX0 3 f fd ["words"] (spT K dpLinkIn) := by
  refine okT F sc_link_in (fun ss R h => ?_) (fun cdv A outer s H E hr => ⟨_, (pss_cons (ps_if (PW.pt (pw_or (pt_cmpR op_ne (pe_callB (call_lenK K) rfl m_len (by decide +kernel) (pa_cons (pv 0) (pa_nil))) (pe_int) (nomark _)) (pw_or (pt_not (pt_val (pe_fn g_is_end hr rfl (pa_cons (pe_ix (ix_sqK K) (pv 0) (pe_int) (fun _ _ => rfl)) (pa_nil))))) (pw_or1 (pt_not (pt_val (pe_fn g_is_end hr rfl (pa_cons (pe_ix (ix_sqK K) (pv 0) (pe_int) (fun _ _ => rfl)) (pa_nil))))))))) (pss_one (ps_ret (pe_non))) (pss_nil))
 (pss_cons (ps_par (i := 1) (j := 2) rfl sc_link_in.nd rfl rfl (by decide) rfl rfl (pa_cons (pe_fn g_number_in hr rfl (pa_cons (pe_ix (ix_sqK K) (pv 0) (pe_int) (fun _ _ => rfl)) (pa_cons (pe_gv rfl v_MOST_DIGITS) (pa_nil)))) (pa_cons (pe_fn g_number_in hr rfl (pa_cons (pe_ix (ix_sqK K) (pv 0) (pe_int) (fun _ _ => rfl)) (pa_cons (pe_gv rfl v_MOST_DIGITS) (pa_nil)))) (pa_nil))) rfl)
 (pss_one (ps_ret (pe_ifExp (PW.pt (pw_or (pt_cmpR op_isN (pv 1) (pe_non) (nomark _)) (pw_or1 (pt_cmpR op_isN (pv 2) (pe_non) (nomark _))))) (pe_non) (pe_tup (pa_cons (pe_ix (ix_sqK K) (pv 0) (pe_int) (fun _ _ => rfl)) (pa_cons (pe_ix (ix_sqK K) (pv 0) (pe_int) (fun _ _ => rfl)) (pa_cons (pv 1) (pa_cons (pv 2) (pa_nil))))))))))), fun B ss R h => ?_⟩)
  · obtain ⟨x, rfl, _⟩ := h
    rfl
  · obtain ⟨ws, rfl, ⟨hl, hw⟩, q⟩ := h
    show DS K B _ [.val ws, .no, .no] _
    have at4 : ws.length = 4 → ∀ i, i < 4 → ∀ {te : TE} {ρ : List Slot}, ρ[0]? = some (.val ws) → DE K B (tOp (rIxQ K) (tVar 0) (tC (.int ((i : Nat) : Int)))) ρ (wAt ws i) := fun e i hi te ρ h => d_ix (d_var h) d_int (wAt_at (by omega))
    have wl : ws.length = 4 → ∀ i, i < 4 → (wAt ws i).length ≤ 1000 := fun e i hi => hw _ (wAt_mem (by omega))
    refine ds_seq (ds_if (c := !decide (ws.length = 4) || (!endB (wAt ws 0) || !endB (wAt ws 1))) (DT.is (dt_or (c := !endB (wAt ws 0) || !endB (wAt ws 1)) (dt_test (d_ne (d_len (d_var rfl)) d_int inferInstance inferInstance)) fun h => ?_) ?_) (fun h => ?_) (fun h => ?_))
    · have e4 : ws.length = 4 := by
        have h : (!decide (((ws.length : Nat) : Int) = 4)) = false := h
        have := of_decide_eq_true (show decide (((ws.length : Nat) : Int) = 4) = true by revert h; cases decide (((ws.length : Nat) : Int) = 4) <;> simp)
        omega
      exact dt_or (dt_not (dt_B (d_call1 (at4 e4 0 (by decide) (te := fun _ _ _ => True) rfl) (wl e4 0 (by decide))))) fun _ => dt_not (dt_B (d_call1 (at4 e4 1 (by decide) (te := fun _ _ _ => True) rfl) (wl e4 1 (by decide))))
    · have : decide (((ws.length : Nat) : Int) = 4) = decide (ws.length = 4) := decide_eq_decide.mpr (by omega)
      rw [this]
    · refine ds_retE q d_none ?_
      unfold linkIn
      rw [if_pos h]
    · have e4 : ws.length = 4 := by
        by_cases c : ws.length = 4
        · exact c
        · rw [decide_eq_false c] at h
          cases h
      have q' : R (.val (match numIn (wAt ws 2) 3, numIn (wAt ws 3) 3 with
          | some a, some b => some (T4.mk (wAt ws 0) (wAt ws 1) a b)
          | _, _ => (none : Option Lk))) := by
        have e : linkIn ws = _ := if_neg (by rw [h]; exact fun z => nomatch z)
        rw [e] at q
        exact q
      have l3 : ∀ i, i < 4 → (wAt ws i).length ≤ 100000 ∧ (3 : Int) ≤ 600 := fun i hi => ⟨Nat.le_trans (wl e4 i hi) (by decide), by decide⟩
      refine ds_next (dq_par (d_call2 (at4 e4 2 (by decide) (te := fun _ _ _ => True) rfl) d_int (l3 2 (by decide))) (d_call2 (at4 e4 3 (by decide) (te := fun _ _ _ => True) rfl) d_int (l3 3 (by decide))) ?_)
      show DS K B _ [.val ws, .val (numIn (wAt ws 2) 3), .val (numIn (wAt ws 3) 3)] _
      cases h2 : numIn (wAt ws 2) 3 with
      | none =>
        rw [h2] at q'
        exact ds_retE q' (d_ifE (c := true) (dt_orT (by (exact DT.is (by (repeat' first | exact d_var rfl | exact d_get rfl | exact d_some (d_var rfl) | exact d_Uq (d_var rfl) | exact d_Lq (d_var rfl) | exact d_int | exact d_bl | exact d_str | exact d_none | exact d_unit | exact d_lenO rfl | with_reducible apply d_add | with_reducible apply d_sub | with_reducible apply d_mul | with_reducible apply d_fdiv | with_reducible apply d_mod | with_reducible apply d_neg | with_reducible apply d_lt | with_reducible apply d_le | with_reducible apply d_gt | with_reducible apply d_ge | with_reducible apply d_eq | with_reducible apply d_ne | with_reducible apply d_isN | with_reducible apply d_notN | with_reducible apply dt_test | with_reducible apply dt_B | with_reducible apply dt_not | with_reducible apply d_notV | with_reducible apply d_len | with_reducible apply d_call0 | with_reducible apply d_call1 | with_reducible apply d_call2 | with_reducible apply d_call3 | with_reducible apply d_call4 | with_reducible apply d_slice | with_reducible apply dp_none | with_reducible apply dp_some | with_reducible apply d_tuple | with_reducible apply da_nil | with_reducible apply da_cons | with_reducible apply dl_nil | with_reducible apply dl_cons | with_reducible apply dl_star | with_reducible apply d_chLtLe | with_reducible apply d_chLtLt | with_reducible apply d_chLeLt | with_reducible apply d_lenS | with_reducible apply d_inSign | with_reducible apply d_notInSign | with_reducible apply d_any | with_reducible apply d_all | with_reducible apply d_intI | with_reducible apply d_max2 | with_reducible apply d_min2 | with_reducible apply d_abs | with_reducible apply d_strI | with_reducible apply dt_and | with_reducible apply dt_or | with_reducible apply d_andV | with_reducible apply d_orV | exact inferInstance | with_reducible intro h_ | trivial)) (by rfl)))) (fun _ => d_none) (fun h => nomatch h)) rfl
      | some a =>
        cases h3 : numIn (wAt ws 3) 3 with
        | none =>
          rw [h2, h3] at q'
          exact ds_retE q' (d_ifE (c := true) (DT.is (dt_or (b := false) (c := true) (by (exact DT.is (by (repeat' first | exact d_var rfl | exact d_get rfl | exact d_some (d_var rfl) | exact d_Uq (d_var rfl) | exact d_Lq (d_var rfl) | exact d_int | exact d_bl | exact d_str | exact d_none | exact d_unit | exact d_lenO rfl | with_reducible apply d_add | with_reducible apply d_sub | with_reducible apply d_mul | with_reducible apply d_fdiv | with_reducible apply d_mod | with_reducible apply d_neg | with_reducible apply d_lt | with_reducible apply d_le | with_reducible apply d_gt | with_reducible apply d_ge | with_reducible apply d_eq | with_reducible apply d_ne | with_reducible apply d_isN | with_reducible apply d_notN | with_reducible apply dt_test | with_reducible apply dt_B | with_reducible apply dt_not | with_reducible apply d_notV | with_reducible apply d_len | with_reducible apply d_call0 | with_reducible apply d_call1 | with_reducible apply d_call2 | with_reducible apply d_call3 | with_reducible apply d_call4 | with_reducible apply d_slice | with_reducible apply dp_none | with_reducible apply dp_some | with_reducible apply d_tuple | with_reducible apply da_nil | with_reducible apply da_cons | with_reducible apply dl_nil | with_reducible apply dl_cons | with_reducible apply dl_star | with_reducible apply d_chLtLe | with_reducible apply d_chLtLt | with_reducible apply d_chLeLt | with_reducible apply d_lenS | with_reducible apply d_inSign | with_reducible apply d_notInSign | with_reducible apply d_any | with_reducible apply d_all | with_reducible apply d_intI | with_reducible apply d_max2 | with_reducible apply d_min2 | with_reducible apply d_abs | with_reducible apply d_strI | with_reducible apply dt_and | with_reducible apply dt_or | with_reducible apply d_andV | with_reducible apply d_orV | exact inferInstance | with_reducible intro h_ | trivial)) (by rfl))) fun _ => by (exact DT.is (by (repeat' first | exact d_var rfl | exact d_get rfl | exact d_some (d_var rfl) | exact d_Uq (d_var rfl) | exact d_Lq (d_var rfl) | exact d_int | exact d_bl | exact d_str | exact d_none | exact d_unit | exact d_lenO rfl | with_reducible apply d_add | with_reducible apply d_sub | with_reducible apply d_mul | with_reducible apply d_fdiv | with_reducible apply d_mod | with_reducible apply d_neg | with_reducible apply d_lt | with_reducible apply d_le | with_reducible apply d_gt | with_reducible apply d_ge | with_reducible apply d_eq | with_reducible apply d_ne | with_reducible apply d_isN | with_reducible apply d_notN | with_reducible apply dt_test | with_reducible apply dt_B | with_reducible apply dt_not | with_reducible apply d_notV | with_reducible apply d_len | with_reducible apply d_call0 | with_reducible apply d_call1 | with_reducible apply d_call2 | with_reducible apply d_call3 | with_reducible apply d_call4 | with_reducible apply d_slice | with_reducible apply dp_none | with_reducible apply dp_some | with_reducible apply d_tuple | with_reducible apply da_nil | with_reducible apply da_cons | with_reducible apply dl_nil | with_reducible apply dl_cons | with_reducible apply dl_star | with_reducible apply d_chLtLe | with_reducible apply d_chLtLt | with_reducible apply d_chLeLt | with_reducible apply d_lenS | with_reducible apply d_inSign | with_reducible apply d_notInSign | with_reducible apply d_any | with_reducible apply d_all | with_reducible apply d_intI | with_reducible apply d_max2 | with_reducible apply d_min2 | with_reducible apply d_abs | with_reducible apply d_strI | with_reducible apply dt_and | with_reducible apply dt_or | with_reducible apply d_andV | with_reducible apply d_orV | exact inferInstance | with_reducible intro h_ | trivial)) (by rfl))) rfl) (fun _ => d_none) (fun h => nomatch h)) rfl
        | some b =>
          rw [h2, h3] at q'
          exact ds_retE q' (d_ifE (c := false) (DT.is (dt_or (b := false) (c := false) (by (exact DT.is (by (repeat' first | exact d_var rfl | exact d_get rfl | exact d_some (d_var rfl) | exact d_Uq (d_var rfl) | exact d_Lq (d_var rfl) | exact d_int | exact d_bl | exact d_str | exact d_none | exact d_unit | exact d_lenO rfl | with_reducible apply d_add | with_reducible apply d_sub | with_reducible apply d_mul | with_reducible apply d_fdiv | with_reducible apply d_mod | with_reducible apply d_neg | with_reducible apply d_lt | with_reducible apply d_le | with_reducible apply d_gt | with_reducible apply d_ge | with_reducible apply d_eq | with_reducible apply d_ne | with_reducible apply d_isN | with_reducible apply d_notN | with_reducible apply dt_test | with_reducible apply dt_B | with_reducible apply dt_not | with_reducible apply d_notV | with_reducible apply d_len | with_reducible apply d_call0 | with_reducible apply d_call1 | with_reducible apply d_call2 | with_reducible apply d_call3 | with_reducible apply d_call4 | with_reducible apply d_slice | with_reducible apply dp_none | with_reducible apply dp_some | with_reducible apply d_tuple | with_reducible apply da_nil | with_reducible apply da_cons | with_reducible apply dl_nil | with_reducible apply dl_cons | with_reducible apply dl_star | with_reducible apply d_chLtLe | with_reducible apply d_chLtLt | with_reducible apply d_chLeLt | with_reducible apply d_lenS | with_reducible apply d_inSign | with_reducible apply d_notInSign | with_reducible apply d_any | with_reducible apply d_all | with_reducible apply d_intI | with_reducible apply d_max2 | with_reducible apply d_min2 | with_reducible apply d_abs | with_reducible apply d_strI | with_reducible apply dt_and | with_reducible apply dt_or | with_reducible apply d_andV | with_reducible apply d_orV | exact inferInstance | with_reducible intro h_ | trivial)) (by rfl))) fun _ => by (exact DT.is (by (repeat' first | exact d_var rfl | exact d_get rfl | exact d_some (d_var rfl) | exact d_Uq (d_var rfl) | exact d_Lq (d_var rfl) | exact d_int | exact d_bl | exact d_str | exact d_none | exact d_unit | exact d_lenO rfl | with_reducible apply d_add | with_reducible apply d_sub | with_reducible apply d_mul | with_reducible apply d_fdiv | with_reducible apply d_mod | with_reducible apply d_neg | with_reducible apply d_lt | with_reducible apply d_le | with_reducible apply d_gt | with_reducible apply d_ge | with_reducible apply d_eq | with_reducible apply d_ne | with_reducible apply d_isN | with_reducible apply d_notN | with_reducible apply dt_test | with_reducible apply dt_B | with_reducible apply dt_not | with_reducible apply d_notV | with_reducible apply d_len | with_reducible apply d_call0 | with_reducible apply d_call1 | with_reducible apply d_call2 | with_reducible apply d_call3 | with_reducible apply d_call4 | with_reducible apply d_slice | with_reducible apply dp_none | with_reducible apply dp_some | with_reducible apply d_tuple | with_reducible apply da_nil | with_reducible apply da_cons | with_reducible apply dl_nil | with_reducible apply dl_cons | with_reducible apply dl_star | with_reducible apply d_chLtLe | with_reducible apply d_chLtLt | with_reducible apply d_chLeLt | with_reducible apply d_lenS | with_reducible apply d_inSign | with_reducible apply d_notInSign | with_reducible apply d_any | with_reducible apply d_all | with_reducible apply d_intI | with_reducible apply d_max2 | with_reducible apply d_min2 | with_reducible apply d_abs | with_reducible apply d_strI | with_reducible apply dt_and | with_reducible apply dt_or | with_reducible apply d_andV | with_reducible apply d_orV | exact inferInstance | with_reducible intro h_ | trivial)) (by rfl))) rfl) (fun h => nomatch h) (fun _ => d_some (d_quad (at4 e4 0 (by decide) (te := fun _ _ _ => True) rfl) (at4 e4 1 (by decide) (te := fun _ _ _ => True) rfl) (d_get rfl) (d_get rfl)))) rfl
abbrev N_is_line : List Str := ["words", "word"]
theorem sc_is_line : FnScope N_is_line ["words"] (defScope s_is_line) := ⟨rfl, rfl, rfl, by decide +kernel, rfl, by decide +kernel, by decide +kernel⟩
theorem ok_is_line (F : FnP K "is_line" s_is_line f fd) (oC : SqC K (He.ga K "ORDER") ORD) (m_ORDER : mg "ORDER" = some (.ref (He.ga K "ORDER"))) (m_len : mg "len" = none) (m_all : mg "all" = none) (g_link_in : FnAt P w K mg base CX0 3 "link_in" ["words"] (spT K dpLinkIn)) (g_is_name : FnAt P w K mg base CX0 1 "is_name" ["value"] (spT K dpName)) : FnOk P w K mg base CX0 4 f fd ["words"] (spT K (dp1 (fun ws : List Str => WsOk ws) lineB)) := by
  refine okT F sc_is_line (fun ss R h => ?_) (fun cdv A outer s H E hr => ⟨_, (pss_cons (ps_if (pt_cmpR op_eq (pe_ix (ix_sqK K) (pv 0) (pe_int) (fun _ _ => rfl)) (pe_str) (nomark _)) (pss_one (ps_ret (pe_cmpR op_notN (pe_fn g_link_in hr rfl (pa_cons (pe_slice (sl_sqK K) (pv 0) (po_some (pe_int)) (po_none)) (pa_nil))) (pe_non) (nomark _)))) (pss_nil))
 (pss_cons (ps_if (PW.pt (pw_or (pt_cmpR op_lt (pe_callB (call_lenK K) rfl m_len (by decide +kernel) (pa_cons (pv 0) (pa_nil))) (pe_int) (nomark _)) (pw_or (pt_cmpR (op_notInK K) (pe_ix (ix_sqK K) (pv 0) (pe_int) (fun _ _ => rfl)) (pe_glob (v := .ref (He.ga K "ORDER")) rfl m_ORDER rfl) rfl) (pw_or1 (pt_not (pt_val (pe_callB (cr_allK K) rfl m_all (by decide +kernel) (pa_cons (pe_lc (own := [("word", 1)]) rfl sc_is_line.nd (pi_seqK K (pe_slice (sl_sqK K) (pv 0) (po_some (pe_int)) (po_none))) (blkOk_by (N := N_is_line) (sc := defScope s_is_line) (by decide +kernel)) (fun _ _ _ _ _ => pg_name (i := 1) sc_is_line.nd rfl (.inl rfl)) (fun _ _ _ _ _ => pts_nil) (fun _ _ _ _ _ => pe_fn g_is_name hr rfl (pa_cons (pv 1) (pa_nil)))) (pa_nil))))))))) (pss_one (ps_ret (pe_bl))) (pss_nil))
 (pss_cons (ps_if (pt_cmpR op_eq (pe_ix (ix_sqK K) (pv 0) (pe_int) (fun _ _ => rfl)) (pe_str) (nomark _)) (pss_one (ps_ret (pe_cmpR op_eq (pe_callB (call_lenK K) rfl m_len (by decide +kernel) (pa_cons (pv 0) (pa_nil))) (pe_int) (nomark _)))) (pss_nil))
 (pss_one (ps_ret (pe_or (pe_cmpR op_ne (pe_ix (ix_sqK K) (pv 0) (pe_int) (fun _ _ => rfl)) (pe_str) (nomark _)) (pe_one (pe_cmpR op_eq (pe_callB (call_lenK K) rfl m_len (by decide +kernel) (pa_cons (pv 0) (pa_nil))) (pe_int) (nomark _))))))))), fun B ss R h => ?_⟩)
  · obtain ⟨x, rfl, _⟩ := h
    rfl
  · obtain ⟨ws, rfl, hw, q⟩ := h
    show DS K B _ [.val ws, .no] _
    have d0 : ∀ {ρ : List Slot}, ρ[0]? = some (.val ws) → DE K B (tOp (rIxQ K) (tVar 0) (tC (.int 0))) ρ (wAt ws 0) := fun h => d_ix (d_var h) d_int (wAt_at (i := 0) hw.ne)
    have dl : ∀ {ρ : List Slot}, ρ[0]? = some (.val ws) → DE K B (tSl (rSlQ K) (tVar 0) (tPart (tC (.int 1))) tNoPart) ρ (ws.drop 1) := fun h => DE.is (d_slice (d_var h) (dp_some d_int) dp_none) (cutA_drop (t := 1))
    have dd : ∀ x ∈ ws.drop 1, x.length ≤ 1000 := fun x hx => hw.wl x (List.mem_of_mem_drop hx)
    have ll : (ws.drop 1).length ≤ 100000 := by rw [List.length_drop]; have := hw.len; omega
    refine ds_seq (ds_if (dt_test (d_eq (d0 rfl) d_str inferInstance inferInstance)) (fun h => ?_) (fun h => ?_))
    · have h := of_decide_eq_true h
      refine ds_retE q (d_notN (d_call1 (γ := Option Lk) (dl rfl) ⟨ll, dd⟩) inferInstance) ?_
      unfold lineB
      rw [if_pos h]
      cases linkIn (ws.drop 1) <;> rfl
    · have h := of_decide_eq_false h
      have e : lineB ws = if (decide (ws.length < 2) || (!decide (wAt ws 0 ∈ ORD) || !(ws.drop 1).all nameB)) = true then false else
          if wAt ws 0 = "module" then decide (ws.length = 2) else (!decide (wAt ws 0 = "use") || decide (ws.length = 3)) := if_neg h
      rw [e] at q
      refine ds_next (ds_seq (ds_if (c := decide (ws.length < 2) || (!decide (wAt ws 0 ∈ ORD) || !(ws.drop 1).all nameB)) (DT.is (dt_or (dt_test (d_lt (d_len (d_var rfl)) d_int)) fun _ => dt_or (dt_test (d_notInS (d0 rfl) (d_Uq (d_cst oC (by decide))))) fun _ => dt_not (dt_B (d_all (DO.l (do_map (fun x : Str => nameB x) (di_seq (dl rfl)) (Nat.le_trans ll (by decide)) fun x hx => ⟨_, _, dg_name, by simp, d_call1 (d_avS (d_var rfl)) (decide_eq_true (dd x hx))⟩))))) ?_) (fun h2 => ?_) (fun h2 => ?_)))
      · have : decide (((ws.length : Nat) : Int) < 2) = decide (ws.length < 2) := decide_eq_decide.mpr (by omega)
        rw [this, List.all_map]
        rfl
      · rw [if_pos h2] at q
        exact ds_ret d_bl q
      · rw [if_neg (by rw [h2]; exact fun z => nomatch z)] at q
        refine ds_next (ds_seq (ds_if (dt_test (d_eq (d0 rfl) d_str inferInstance inferInstance)) (fun h3 => ?_) (fun h3 => ?_)))
        · have h3 := of_decide_eq_true h3
          rw [if_pos h3] at q
          exact ds_retE q (d_eq (d_len (d_var rfl)) d_int inferInstance inferInstance) (decide_eq_decide.mpr (by omega))
        · have h3 := of_decide_eq_false h3
          rw [if_neg h3] at q
          refine ds_next (ds_retE q (d_orV (d_ne (d0 rfl) d_str inferInstance inferInstance) fun _ => d_eq (d_len (d_var rfl)) d_int inferInstance inferInstance) ?_)
          have : decide (((ws.length : Nat) : Int) = 3) = decide (ws.length = 3) := decide_eq_decide.mpr (by omega)
          rw [this]
abbrev N_may_follow : List Str := ["word", "last", "here", "there"]
theorem sc_may_follow : FnScope N_may_follow ["word", "last"] (defScope s_may_follow) := ⟨rfl, rfl, rfl, by decide +kernel, rfl, by decide +kernel, by decide +kernel⟩
theorem ok_may_follow (F : FnP K "may_follow" s_may_follow f fd) (oC : SqC K (He.ga K "ORDER") ORD) (m_ORDER : mg "ORDER" = some (.ref (He.ga K "ORDER"))) : FnOk P w K mg base CX0 1 f fd ["word", "last"] (spT K (dp2 (fun (z : Str) (y : Option Str) => z ∈ ORD ∧ ∀ x, y = some x → x ∈ ORD) followB)) := by
  refine okT F sc_may_follow (fun ss R h => ?_) (fun cdv A outer s H E hr => ⟨_, (pss_cons (ps_if (pt_cmpR op_eq (pv 0) (pe_str) (nomark _)) (pss_one (ps_ret (pe_bl))) (pss_nil))
 (pss_cons (ps_if (pt_cmpR op_isN (pv 1) (pe_non) (nomark _)) (pss_one (ps_ret (pe_bl))) (pss_nil))
 (pss_cons (ps_par (i := 2) (j := 3) rfl sc_may_follow.nd rfl rfl (by decide) rfl rfl (pa_cons (pe_bmK K PySem.F.plainAttrs_tuple PySem.F.slot_tuple_index PySem.F.type_tuple_index (mt_tupIxK K) (pe_glob (v := .ref (He.ga K "ORDER")) rfl m_ORDER rfl) (pa_cons (pv 0) pa_nil)) (pa_cons (pe_bmK K PySem.F.plainAttrs_tuple PySem.F.slot_tuple_index PySem.F.type_tuple_index (mt_tupIxK K) (pe_glob (v := .ref (He.ga K "ORDER")) rfl m_ORDER rfl) (pa_cons (pv 1) pa_nil)) (pa_nil))) rfl)
 (pss_one (ps_ret (pe_or (pe_cmpR op_gt (pv 2) (pv 3) (nomark _)) (pe_one (pe_and (pe_cmpR op_eq (pv 2) (pv 3) (nomark _)) (pe_one (pe_cmpR (op_inK K) (pv 0) (pe_tup (pa_cons (pe_str) (pa_cons (pe_str) (pa_nil)))) rfl)))))))))), fun B ss R h => ?_⟩)
  · obtain ⟨x, y, rfl, _⟩ := h
    rfl
  · obtain ⟨z, y, rfl, ⟨hz, hy⟩, q⟩ := h
    show DS K B _ [.val z, .val y, .no, .no] _
    refine ds_seq (ds_if (dt_test (d_eq (d_var rfl) d_str inferInstance inferInstance)) (fun h => ?_) (fun h => ?_))
    · have h := of_decide_eq_true h
      exact ds_retE q d_bl (if_pos h).symm
    · have h := of_decide_eq_false h
      cases y with
      | none =>
        have e : followB z none = false := if_neg h
        rw [e] at q
        exact ds_next (ds_seq (ds_if (c := true) (by (exact DT.is (by (repeat' first | exact d_var rfl | exact d_get rfl | exact d_some (d_var rfl) | exact d_Uq (d_var rfl) | exact d_Lq (d_var rfl) | exact d_int | exact d_bl | exact d_str | exact d_none | exact d_unit | exact d_lenO rfl | with_reducible apply d_add | with_reducible apply d_sub | with_reducible apply d_mul | with_reducible apply d_fdiv | with_reducible apply d_mod | with_reducible apply d_neg | with_reducible apply d_lt | with_reducible apply d_le | with_reducible apply d_gt | with_reducible apply d_ge | with_reducible apply d_eq | with_reducible apply d_ne | with_reducible apply d_isN | with_reducible apply d_notN | with_reducible apply dt_test | with_reducible apply dt_B | with_reducible apply dt_not | with_reducible apply d_notV | with_reducible apply d_len | with_reducible apply d_call0 | with_reducible apply d_call1 | with_reducible apply d_call2 | with_reducible apply d_call3 | with_reducible apply d_call4 | with_reducible apply d_slice | with_reducible apply dp_none | with_reducible apply dp_some | with_reducible apply d_tuple | with_reducible apply da_nil | with_reducible apply da_cons | with_reducible apply dl_nil | with_reducible apply dl_cons | with_reducible apply dl_star | with_reducible apply d_chLtLe | with_reducible apply d_chLtLt | with_reducible apply d_chLeLt | with_reducible apply d_lenS | with_reducible apply d_inSign | with_reducible apply d_notInSign | with_reducible apply d_any | with_reducible apply d_all | with_reducible apply d_intI | with_reducible apply d_max2 | with_reducible apply d_min2 | with_reducible apply d_abs | with_reducible apply d_strI | with_reducible apply dt_and | with_reducible apply dt_or | with_reducible apply d_andV | with_reducible apply d_orV | exact inferInstance | with_reducible intro h_ | trivial)) (by rfl))) (fun _ => ds_retE q d_bl rfl) (fun h => nomatch h)))
      | some y =>
        have e : followB z (some y) = (decide (ORD.idxOf y < ORD.idxOf z) || (decide (ORD.idxOf z = ORD.idxOf y) && decide (z ∈ (["use", "link"] : List Str)))) := if_neg h
        rw [e] at q
        refine ds_next (ds_seq (ds_if (c := false) (by (exact DT.is (by (repeat' first | exact d_var rfl | exact d_get rfl | exact d_some (d_var rfl) | exact d_Uq (d_var rfl) | exact d_Lq (d_var rfl) | exact d_int | exact d_bl | exact d_str | exact d_none | exact d_unit | exact d_lenO rfl | with_reducible apply d_add | with_reducible apply d_sub | with_reducible apply d_mul | with_reducible apply d_fdiv | with_reducible apply d_mod | with_reducible apply d_neg | with_reducible apply d_lt | with_reducible apply d_le | with_reducible apply d_gt | with_reducible apply d_ge | with_reducible apply d_eq | with_reducible apply d_ne | with_reducible apply d_isN | with_reducible apply d_notN | with_reducible apply dt_test | with_reducible apply dt_B | with_reducible apply dt_not | with_reducible apply d_notV | with_reducible apply d_len | with_reducible apply d_call0 | with_reducible apply d_call1 | with_reducible apply d_call2 | with_reducible apply d_call3 | with_reducible apply d_call4 | with_reducible apply d_slice | with_reducible apply dp_none | with_reducible apply dp_some | with_reducible apply d_tuple | with_reducible apply da_nil | with_reducible apply da_cons | with_reducible apply dl_nil | with_reducible apply dl_cons | with_reducible apply dl_star | with_reducible apply d_chLtLe | with_reducible apply d_chLtLt | with_reducible apply d_chLeLt | with_reducible apply d_lenS | with_reducible apply d_inSign | with_reducible apply d_notInSign | with_reducible apply d_any | with_reducible apply d_all | with_reducible apply d_intI | with_reducible apply d_max2 | with_reducible apply d_min2 | with_reducible apply d_abs | with_reducible apply d_strI | with_reducible apply dt_and | with_reducible apply dt_or | with_reducible apply d_andV | with_reducible apply d_orV | exact inferInstance | with_reducible intro h_ | trivial)) (by rfl))) (fun h => nomatch h) (fun _ => ?_)))
        refine ds_next (dq_par (d_indexC oC (d_var rfl) hz) (d_indexC oC (d_get rfl) (hy y rfl)) ?_)
        show DS K B _ [.val z, .val (some y), .val ((ORD.idxOf z : Nat) : Int), .val ((ORD.idxOf y : Nat) : Int)] _
        refine ds_retE q (d_orV (d_gt (d_var rfl) (d_var rfl)) fun _ => d_andV (d_eq (d_var rfl) (d_var rfl) inferInstance inferInstance) fun _ => d_inS (d_var rfl) (d_Uq (d_tupU (dl_cons d_str (dl_cons d_str dl_nil)) (show 2 ≤ BIG by decide)))) ?_
        have e1 : decide (((ORD.idxOf y : Nat) : Int) < ((ORD.idxOf z : Nat) : Int)) = decide (ORD.idxOf y < ORD.idxOf z) := decide_eq_decide.mpr (by omega)
        have e2 : decide (((ORD.idxOf z : Nat) : Int) = ((ORD.idxOf y : Nat) : Int)) = decide (ORD.idxOf z = ORD.idxOf y) := decide_eq_decide.mpr (by omega)
        rw [e1, e2]
end
end WW
set_option Elab.async false
set_option linter.all false
set_option maxRecDepth 100000
set_option maxHeartbeats 4000000
namespace WW
open PySem PySem.Spec PyProof.Rows L2
section
variable {K : PySem.W.Frag} {B : Addr → Prop} {ρ : List Slot} {tk tv te : TE} {tz : TS} {Φ : Post} {α : Type} {e_α : Enc α} {a : α} {z : Str} {n : Nat}
def repD {α : Type} (xs : List (Str × α)) (z : Str) (a : α) : List (Str × α) := xs.map fun p => if p.1 = z then (p.1, a) else p
theorem kv_rep {S : Hp} {v : V} (hv : Enc.rep K S v a) : ∀ {kvs : List (Key × V)} {xs : List (Str × α)}, Paired (KvR K S) kvs xs → Paired (KvR K S) (kvs.map fun kv => if kv.1 = Sum.inr z then (kv.1, v) else kv) (repD xs z a)
  | _, _, .nil => .nil
  | p :: r, x :: t, .cons h1 h2 => by
    refine .cons ?_ (kv_rep hv h2)
    dsimp only
    by_cases c : x.1 = z
    · rw [if_pos (by rw [h1.1, c]), if_pos c]
      exact ⟨h1.1, hv⟩
    · rw [if_neg (by rw [h1.1]; exact fun e => c (by injection e)), if_neg c]
      exact h1
end
end WW
set_option Elab.async false
set_option linter.all false
set_option maxRecDepth 100000
set_option maxHeartbeats 4000000
namespace WW
open PySem PySem.Spec PyProof.Rows L2
section
variable {α : Type} [Enc α] {K : PySem.W.Frag} {B : Addr → Prop} {S0 H0 S H S' H' S1 H1 : Hp} {pd : Addr}
def dkv : List (Str × List α) → List Addr → List (Key × V)
  | x :: xs, p :: ps => (Sum.inr x.1, V.ref p) :: dkv xs ps
  | _, _ => []
def RgR (K : PySem.W.Frag) (S H : Hp) : List Addr → List (Str × List α) → Prop
  | [], [] => True
  | p :: ps, x :: xs => (∃ vs, H p = some (.lst vs) ∧ Paired (Enc.rep K S) vs x.2 ∧ x.2.length ≤ BIG) ∧ RgR K S H ps xs
  | _, _ => False
theorem RgR.to : ∀ {ps : List Addr} {xs : List (Str × List α)}, RgR K S H ps xs → Same S S' → (∀ p ∈ ps, H' p = H p) → RgR K S' H' ps xs
  | [], [], _, _, _ => trivial
  | p :: ps, x :: xs, ⟨⟨vs, h1, h2, h3⟩, r⟩, s, e => ⟨⟨vs, by rw [e p List.mem_cons_self]; exact h1, Paired.mono (fun _ _ => Enc.mono s) h2, h3⟩, r.to s fun q hq => e q (List.mem_cons_of_mem _ hq)⟩
  | [], _ :: _, h, _, _ => h.elim
  | _ :: _, [], h, _, _ => h.elim
theorem RgR.some' : ∀ {ps : List Addr} {xs : List (Str × List α)}, RgR K S H ps xs → ∀ p ∈ ps, ∃ o, H p = some o
  | [], [], _, p, h => nomatch h
  | q :: ps, x :: xs, ⟨⟨vs, h1, _⟩, r⟩, p, h => by
    rcases List.mem_cons.mp h with rfl | h
    · exact ⟨_, h1⟩
    · exact r.some' p h
  | [], _ :: _, h, _, _ => h.elim
  | _ :: _, [], h, _, _ => h.elim
theorem RgR.frz : ∀ {ps : List Addr} {xs : List (Str × List α)}, RgR K S H ps xs → Same S S' → (∀ p ∈ ps, S' p = H p) → Paired (KvR (α := L α) K S') (dkv xs ps) xs
  | [], [], _, _, _ => .nil
  | p :: ps, x :: xs, ⟨⟨vs, h1, h2, h3⟩, r⟩, s, e => .cons ⟨rfl, h3, p, vs, rfl, by rw [e p List.mem_cons_self]; exact h1, Paired.mono (fun _ _ => Enc.mono s) h2⟩ (r.frz s fun q hq => e q (List.mem_cons_of_mem _ hq))
  | [], _ :: _, h, _, _ => h.elim
  | _ :: _, [], h, _, _ => h.elim
def appD (xs : List (Str × List α)) (z : Str) (a : α) : List (Str × List α) := xs.map fun p => if p.1 = z then (p.1, p.2 ++ [a]) else p
theorem appD_keys {xs : List (Str × List α)} {z : Str} {a : α} : (appD xs z a).map (·.1) = xs.map (·.1) := by
  unfold appD
  rw [List.map_map]
  exact List.map_congr_left fun p _ => by
    show (if p.1 = z then (p.1, p.2 ++ [a]) else p).1 = p.1
    split <;> rfl
theorem appD_not {xs : List (Str × List α)} {z : Str} {a : α} (h : z ∉ xs.map (·.1)) : appD xs z a = xs := by
  unfold appD
  conv => rhs; rw [← List.map_id xs]
  refine List.map_congr_left fun p hp => ?_
  rw [if_neg]
  · rfl
  · intro e
    exact h (List.mem_map.mpr ⟨p, hp, e⟩)
theorem appD_len {xs : List (Str × List α)} {z : Str} {a : α} : (appD xs z a).length = xs.length := List.length_map ..
theorem dkv_app : ∀ {xs : List (Str × List α)} {ps : List Addr} {z : Str} {a : α}, dkv (appD xs z a) ps = dkv xs ps
  | [], ps, z, a => rfl
  | x :: xs, [], z, a => rfl
  | x :: xs, p :: ps, z, a => by
    show dkv ((if x.1 = z then (x.1, x.2 ++ [a]) else x) :: appD xs z a) (p :: ps) = _
    show (Sum.inr (if x.1 = z then (x.1, x.2 ++ [a]) else x).1, V.ref p) :: dkv (appD xs z a) ps = (Sum.inr x.1, V.ref p) :: dkv xs ps
    rw [dkv_app]
    split <;> rfl
theorem dget_cons {β : Type} {x : Str × β} {xs : List (Str × β)} {z : Str} : (Dct.mk (x :: xs)).get z = if x.1 = z then some x.2 else (Dct.mk xs).get z := by
  unfold Dct.get
  dsimp only
  rw [List.find?_cons]
  by_cases c : x.1 = z
  · rw [decide_eq_true c, if_pos c]; rfl
  · rw [decide_eq_false c, if_neg c]
theorem RgR.app : ∀ {ps : List Addr} {xs : List (Str × List α)} {z : Str} {ys : List α}, RgR K S H ps xs → ps.Nodup → (xs.map (·.1)).Nodup → (Dct.mk xs).get z = some ys →
    ∃ p vs, p ∈ ps ∧ valV (dkv xs ps) (Sum.inr z) = some (.ref p) ∧ H p = some (.lst vs) ∧ Paired (Enc.rep K S) vs ys ∧ ys.length ≤ BIG ∧ ∀ w a, Enc.rep K S w a → ys.length < BIG → RgR K S (upd H p (.lst (vs ++ [w]))) ps (appD xs z a)
  | [], [], z, ys, _, _, _, h => by cases h
  | p :: ps, x :: xs, z, ys, ⟨⟨vs, h1, h2, h3⟩, r⟩, nd, kn, h => by
    rw [List.nodup_cons] at nd
    rw [List.map_cons, List.nodup_cons] at kn
    rw [dget_cons] at h
    by_cases c : x.1 = z
    · rw [if_pos c] at h
      cases h
      refine ⟨p, vs, List.mem_cons_self, valV_pos (by rw [← c]), h1, h2, h3, fun w a ra hl => ?_⟩
      show RgR K S _ (p :: ps) ((if x.1 = z then (x.1, x.2 ++ [a]) else x) :: appD xs z a)
      rw [if_pos c, appD_not (by rw [← c]; exact kn.1)]
      refine ⟨⟨_, upd_same, Paired.app h2 (.cons ra .nil), by rw [List.length_append]; exact hl⟩, r.to (Same.refl S) fun q hq => upd_ne fun e => nd.1 (by rw [← e]; exact hq)⟩
    · rw [if_neg c] at h
      obtain ⟨q, us, g1, g2, g3, g4, g5, g6⟩ := r.app nd.2 kn.2 h
      refine ⟨q, us, List.mem_cons_of_mem _ g1, by rw [dkv, valV_neg (by intro e; exact c (by injection e))]; exact g2, g3, g4, g5, fun w a ra hl => ?_⟩
      show RgR K S _ (p :: ps) ((if x.1 = z then (x.1, x.2 ++ [a]) else x) :: appD xs z a)
      rw [if_neg c]
      exact ⟨⟨vs, by rw [upd_ne (fun e => nd.1 (by rw [e]; exact g1))]; exact h1, h2, h3⟩, g6 w a ra hl⟩
  | [], _ :: _, _, _, h, _, _, _ => h.elim
  | _ :: _, [], _, _, h, _, _, _ => h.elim
structure RgL (K : PySem.W.Frag) (H0 S H : Hp) (pd : Addr) (xs : List (Str × List α)) : Prop where
  ex : ∃ ps : List Addr, (pd :: ps).Nodup ∧ (∀ q ∈ pd :: ps, S q = none ∧ H0 q = none) ∧ H pd = some (.dK (dkv xs ps)) ∧ RgR K S H ps xs
  len : xs.length ≤ 1000
  nd : (xs.map (·.1)).Nodup
theorem RgL.ext {xs : List (Str × List α)} (h : RgL K H0 S H pd xs) (e : Ext B S H S1 H1) (hb : ∀ q, B q → H0 q ≠ none) : RgL K H0 S1 H1 pd xs := by
  obtain ⟨⟨ps, h1, h2, h3, h4⟩, h5, h6⟩ := h
  have st : ∀ q ∈ pd :: ps, S1 q = none ∧ H1 q = H q := fun q hq => by
    have hn : H q ≠ none := by
      rcases List.mem_cons.mp hq with rfl | hq
      · rw [h3]
        exact fun z => nomatch z
      · obtain ⟨o, ho⟩ := h4.some' q hq
        rw [ho]
        exact fun z => nomatch z
    obtain ⟨q1, q2⟩ := e.p q (h2 q hq).1 hn
    refine ⟨q1, ?_⟩
    rcases q2 with q2 | ⟨q2, _⟩
    · exact q2
    · exact absurd (h2 q hq).2 (hb q q2)
  exact ⟨⟨ps, h1, fun q hq => ⟨(st q hq).1, (h2 q hq).2⟩, by rw [(st pd List.mem_cons_self).2]; exact h3, h4.to e.s fun q hq => (st q (List.mem_cons_of_mem _ hq)).2⟩, h5, h6⟩
end
end WW
set_option Elab.async false
set_option linter.all false
set_option maxRecDepth 100000
set_option maxHeartbeats 4000000
namespace WW
open PySem PySem.Spec PyProof.Rows L2
section
variable {α : Type} [Enc α] {K : PySem.W.Frag} {B : Addr → Prop} {S0 H0 S H S' H' S1 H1 : Hp} {pd : Addr} {σ : L2.St} {ρ ρ' : List Slot} {xs : List (Str × List α)} {t : Nat}
abbrev dctL (xs : List (Str × List α)) : Dct (L α) := ⟨xs⟩
def NoOwn (ρ : List Slot) : Prop := ∀ s ∈ ρ, s.isOwn = false
theorem RgL.frz (h : RgL K H0 S H pd xs) (E : En K B S0 H0 S H σ ρ) (no : NoOwn ρ) (ht : ρ[t]? = some .no) (hσ : σ[t]? = some (some (.ref pd))) :
    ∃ S1, Same S S1 ∧ En K B S0 H0 S1 H σ (ρ.set t (.val (dctL xs))) ∧ (∀ S2 H2, Ext B S1 H S2 H2 → ∃ S3, Ext B S H S3 H2 ∧ RgL K H0 S3 H2 pd xs) := by
  obtain ⟨⟨ps, h1, h2, h3, h4⟩, h5, h6⟩ := h
  let S1 : Hp := fun a => if a ∈ pd :: ps then H a else S a
  have hb : ∀ q, B q → H0 q ≠ none := fun q hq => (E.bx q hq).2.2
  have inR : ∀ a, a ∈ pd :: ps → S1 a = H a := fun a ha => if_pos ha
  have outR : ∀ a, a ∉ pd :: ps → S1 a = S a := fun a ha => if_neg ha
  have s1 : Same S S1 := fun a o e => by
    by_cases c : a ∈ pd :: ps
    · rw [(h2 a c).1] at e
      cases e
    · rw [outR a c]
      exact e
  have i1 : Same S1 H := fun a o e => by
    by_cases c : a ∈ pd :: ps
    · rw [inR a c] at e
      exact e
    · rw [outR a c] at e
      exact E.i _ _ e
  have old : ∀ a, H0 a ≠ none → S1 a = S a := fun a ha => outR a fun c => ha (h2 a c).2
  have rep : Enc.rep K S1 (.ref pd) (dctL xs) := ⟨h5, pd, _, rfl, by rw [inR pd List.mem_cons_self]; exact h3, h4.frz s1 fun q hq => inR q (List.mem_cons_of_mem _ hq)⟩
  refine ⟨S1, s1, ⟨E.i0, fun p hp => ?_, ⟨E.ext.s.trans s1, i1, fun a q1 q2 => ?_⟩, by rw [List.length_set]; exact E.len, fun i s hs => ?_, fun i j s u n hi hj o1 o2 => ?_⟩, fun S2 H2 e => ?_⟩
  · obtain ⟨q1, q2, q3⟩ := E.bx p hp
    exact ⟨by rw [old p q3]; exact q1, q2, q3⟩
  · rw [old a q2]
    exact E.ext.p a q1 q2
  · rw [List.getElem?_set] at hs
    by_cases c : t = i
    · subst c
      rw [if_pos rfl] at hs
      split at hs
      · cases hs
        exact ⟨_, hσ, rep⟩
      · cases hs
    · rw [if_neg c] at hs
      obtain ⟨o, q1, q2⟩ := E.at' i s hs
      refine ⟨o, q1, ?_⟩
      have sm := List.mem_of_getElem? hs
      cases s with
      | no => cases o <;> trivial
      | box =>
        cases o with
        | none => cases q2
        | some v => exact q2
      | val a =>
        cases o with
        | none => cases q2
        | some v => exact Enc.mono s1 q2
      | obj P => exact nomatch (no _ sm)
      | out P =>
        cases o with
        | none => cases q2
        | some v =>
          obtain ⟨p, u, r, nb, g0, gs, gh, gp⟩ := q2
          exact ⟨p, u, r, nb, g0, by rw [old p g0]; exact gs, gh, P.mono s1 gp⟩
  · have nn : ∀ (k : Nat) (s : Slot), (ρ.set t (.val (dctL xs)))[k]? = some s → s.isOwn = false := fun k s hs => by
      rw [List.getElem?_set] at hs
      by_cases c : t = k
      · rw [if_pos c] at hs
        split at hs
        · cases hs
          rfl
        · cases hs
      · rw [if_neg c] at hs
        exact no s (List.mem_of_getElem? hs)
    rw [nn i s hi] at o1
    cases o1
  · let S3 : Hp := fun a => if a ∈ pd :: ps then none else S2 a
    have in3 : ∀ a, a ∈ pd :: ps → S3 a = none := fun a ha => if_pos ha
    have out3 : ∀ a, a ∉ pd :: ps → S3 a = S2 a := fun a ha => if_neg ha
    have live : ∀ a, a ∈ pd :: ps → ∃ o, H a = some o := fun a ha => by
      rcases List.mem_cons.mp ha with rfl | ha
      · exact ⟨_, h3⟩
      · exact h4.some' a ha
    have ext : Ext B S H S3 H2 := by
      refine ⟨fun a o q => ?_, fun a o q => ?_, fun a q1 q2 => ?_⟩
      · have c : a ∉ pd :: ps := fun c => by
          rw [(h2 a c).1] at q
          cases q
        rw [out3 a c]
        exact e.s _ _ (s1 _ _ q)
      · have c : a ∉ pd :: ps := fun c => by
          rw [in3 a c] at q
          cases q
        rw [out3 a c] at q
        exact e.i _ _ q
      · by_cases c : a ∈ pd :: ps
        · refine ⟨in3 a c, .inl ?_⟩
          obtain ⟨o, ho⟩ := live a c
          rw [ho]
          exact e.i _ _ (e.s _ _ (by rw [inR a c]; exact ho))
        · rw [out3 a c]
          exact e.p a (by rw [outR a c]; exact q1) q2
    exact ⟨S3, ext, RgL.ext ⟨⟨ps, h1, h2, h3, h4⟩, h5, h6⟩ ext hb⟩
theorem RgL.app {z : Str} {ys : List α} (h : RgL K H0 S H pd xs) (E : En K B S0 H0 S H σ ρ) (no : NoOwn ρ) (hz : (Dct.mk xs).get z = some ys) :
    ∃ kvs p vs, H pd = some (.dK kvs) ∧ valV kvs (Sum.inr z) = some (.ref p) ∧ H p = some (.lst vs) ∧ vs.length = ys.length ∧ ys.length ≤ BIG ∧ ∀ w a, Enc.rep K S w a → ys.length < BIG →
      En K B S0 H0 S (upd H p (.lst (vs ++ [w]))) σ ρ ∧ RgL K H0 S (upd H p (.lst (vs ++ [w]))) pd (appD xs z a) := by
  obtain ⟨⟨ps, h1, h2, h3, h4⟩, h5, h6⟩ := h
  obtain ⟨p, vs, g1, g2, g3, g4, g5, g6⟩ := h4.app (List.nodup_cons.mp h1).2 h6 hz
  obtain ⟨sp, hp0⟩ := h2 p (List.mem_cons_of_mem _ g1)
  have nep : pd ≠ p := fun e => (List.nodup_cons.mp h1).1 (by rw [e]; exact g1)
  refine ⟨_, p, vs, h3, g2, g3, g4.length, g5, fun w a ra hl => ⟨⟨E.i0, fun q hq => ?_, ⟨E.ext.s, fun a u q => ?_, fun a q1 q2 => ?_⟩, E.len, fun i s hs => ?_, E.ne⟩, ⟨⟨ps, h1, h2, by rw [upd_ne nep, dkv_app]; exact h3, g6 w a ra hl⟩, by rw [appD_len]; exact h5, by rw [appD_keys]; exact h6⟩⟩⟩
  · rw [upd_ne (fun z => (E.bx q hq).2.2 (by rw [z]; exact hp0))]
    exact E.bx q hq
  · rw [upd_ne (fun z => by rw [z, sp] at q; cases q)]
    exact E.i _ _ q
  · rw [upd_ne (fun z => q2 (by rw [z]; exact hp0))]
    exact E.ext.p a q1 q2
  · obtain ⟨o, q1, q2⟩ := E.at' i s hs
    refine ⟨o, q1, ?_⟩
    have sm := List.mem_of_getElem? hs
    cases s with
    | no => cases o <;> trivial
    | box =>
      cases o with
      | none => cases q2
      | some v => exact q2
    | val a =>
      cases o with
      | none => cases q2
      | some v => exact q2
    | obj P => exact nomatch (no _ sm)
    | out P =>
      cases o with
      | none => cases q2
      | some v =>
        obtain ⟨p', u, r, nb, g0, gs, gh, gp⟩ := q2
        exact ⟨p', u, r, nb, g0, gs, by rw [upd_ne (fun z => g0 (by rw [z]; exact hp0))]; exact gh, gp⟩
end
section
variable {α : Type} [Enc α] {K : PySem.W.Frag} {B : Addr → Prop} {ρ ρ' : List Slot} {xs : List (Str × List α)} {t n : Nat} {ta tb te tk : TE} {tt : TT} {ts tu tz : TS} {β : Type} {e_β : Enc β} {b : β} {i : Int}
structure PostR (α : Type) where
  nx : List Slot → List (Str × List α) → Prop
  rt : Slot → Prop := fun _ => False
def DOR (K : PySem.W.Frag) (B : Addr → Prop) (te : TE) (ρ : List Slot) (xs : List (Str × List α)) : Prop := ∀ S0 H0 S H σ, En K B S0 H0 S H σ ρ → ∀ Q : VK, (∀ pd S' H', Ext B S H S' H' → RgL K H S' H' pd xs → Q (.ref pd) H') → te σ H Q
theorem NoOwn.set {a : β} (no : NoOwn ρ) : NoOwn (ρ.set n (.val a)) := fun s hs => by
  rcases List.mem_or_eq_of_mem_set hs with h | h
  · exact no s h
  · rw [h]
    rfl
theorem RgL.old {H0 H0' S H : Hp} {pd : Addr} (h : RgL K H0' S H pd xs) (f : ∀ a, H0' a = none → H0 a = none) : RgL K H0 S H pd xs := by
  obtain ⟨⟨ps, h1, h2, h3, h4⟩, h5, h6⟩ := h
  exact ⟨⟨ps, h1, fun q hq => ⟨(h2 q hq).1, f q (h2 q hq).2⟩, h3, h4⟩, h5, h6⟩
theorem En.setNo {S0 H0 S H : Hp} {σ : L2.St} {v : V} (E : En K B S0 H0 S H σ ρ) (hn : ρ[t]? = some .no) : En K B S0 H0 S H (σ.set t (some v)) ρ := by
  have e : ρ.set t .no = ρ := by
    refine List.ext_getElem? fun i => ?_
    rw [List.getElem?_set]
    by_cases c : t = i
    · subst c
      rw [if_pos rfl, hn]
      have := (List.getElem?_eq_some_iff.mp hn).1
      rw [if_pos this]
    · rw [if_neg c]
  have E1 : En K B S0 H0 S H (σ.set t (some v)) (ρ.set t .no) := E.set (s := .no) trivial rfl
  rw [e] at E1
  exact E1
end
end WW
set_option Elab.async false
set_option linter.all false
set_option maxRecDepth 100000
set_option maxHeartbeats 4000000
namespace WW
open PySem PySem.Spec PyProof.Rows L2
class Reg (ω : Type) [Enc ω] where
  rep : PySem.W.Frag → Hp → Hp → Addr → List Addr → ω → Prop
  live : ∀ {K : PySem.W.Frag} {S H : Hp} {x : Addr} {as : List Addr} {w : ω}, rep K S H x as w → ∀ a ∈ as, ∃ o, H a = some o
  to : ∀ {K : PySem.W.Frag} {S S' H H' : Hp} {x : Addr} {as : List Addr} {w : ω}, rep K S H x as w → Same S S' → (∀ a ∈ as, H' a = H a) → rep K S' H' x as w
  frz : ∀ {K : PySem.W.Frag} {S S' H : Hp} {x : Addr} {as : List Addr} {w : ω}, rep K S H x as w → Same S S' → (∀ a ∈ as, S' a = H a) → Enc.rep K S' (.ref x) w
class RegO (ω : Type) [Enc ω] [Reg ω] where
  cn : Str
  fl : List Str
  obj : ∀ {K : PySem.W.Frag} {S H : Hp} {x : Addr} {as : List Addr} {w : ω}, Reg.rep K S H x as w → x ∈ as ∧ ∃ dx fs, H x = some (.ins (He.ga K cn) dx fs) ∧ fs.map Prod.fst = fl
class Atm (α : Type) [Enc α] : Prop where
  any : ∀ {K : PySem.W.Frag} {S S' : Hp} {v : V} {a : α}, Enc.rep K S v a → Enc.rep K S' v a
instance : Atm Int := ⟨fun h => h⟩
instance : Atm Bool := ⟨fun h => h⟩
instance : Atm Str := ⟨fun h => h⟩
instance : Atm Unit := ⟨fun h => h⟩
instance : Atm (Option Int) := ⟨fun {K S S' v a} h => by cases a <;> exact h⟩
section
variable {ω : Type} [Enc ω] [Reg ω] {K : PySem.W.Frag} {B : Addr → Prop} {S0 H0 S H S' H' S1 H1 : Hp} {x : Addr} {σ σ' : L2.St} {ρ ρ' : List Slot} {w : ω} {t : Nat}
def OwnOff (σ : L2.St) (ρ : List Slot) (as : List Addr) : Prop := ∀ (i : Nat) (s : Slot) (p : Addr), ρ[i]? = some s → s.isOwn = true → σ[i]? = some (some (.ref p)) → p ∉ as
theorem OwnOff.set {as : List Addr} {n : Nat} {o : Option V} {s : Slot} (h : OwnOff σ ρ as) (hs : s.isOwn = false) : OwnOff (σ.set n o) (ρ.set n s) as := fun i u p hi ho hp => by
  rw [List.getElem?_set] at hi hp
  by_cases c : n = i
  · rw [if_pos c] at hi
    split at hi
    · cases hi
      rw [hs] at ho
      cases ho
    · cases hi
  · rw [if_neg c] at hi hp
    exact h i u p hi ho hp
structure RgG (K : PySem.W.Frag) (H0 S H : Hp) (x : Addr) (w : ω) (σ : L2.St) (ρ : List Slot) : Prop where
  ex : ∃ as : List Addr, Reg.rep K S H x as w ∧ (∀ a ∈ as, S a = none ∧ H0 a = none) ∧ OwnOff σ ρ as
theorem RgG.set {n : Nat} {o : Option V} {s : Slot} (h : RgG K H0 S H x w σ ρ) (hs : s.isOwn = false) : RgG K H0 S H x w (σ.set n o) (ρ.set n s) := by
  obtain ⟨as, h1, h2, h3⟩ := h
  exact ⟨as, h1, h2, h3.set hs⟩
theorem RgG.no (h : RgG K H0 S H x w σ ρ) (no : NoOwn ρ') : RgG K H0 S H x w σ' ρ' := by
  obtain ⟨as, h1, h2, h3⟩ := h
  exact ⟨as, h1, h2, fun i s p hi ho _ => by rw [no s (List.mem_of_getElem? hi)] at ho; cases ho⟩
theorem RgG.ext (h : RgG K H0 S H x w σ ρ) (e : Ext B S H S1 H1) (hb : ∀ q, B q → H0 q ≠ none) : RgG K H0 S1 H1 x w σ ρ := by
  obtain ⟨as, h1, h2, h3⟩ := h
  have st : ∀ q ∈ as, S1 q = none ∧ H1 q = H q := fun q hq => by
    obtain ⟨o, ho⟩ := Reg.live h1 q hq
    obtain ⟨q1, q2⟩ := e.p q (h2 q hq).1 (by rw [ho]; exact fun z => nomatch z)
    refine ⟨q1, ?_⟩
    rcases q2 with q2 | ⟨q2, _⟩
    · exact q2
    · exact absurd (h2 q hq).2 (hb q q2)
  exact ⟨as, Reg.to h1 e.s fun q hq => (st q hq).2, fun q hq => ⟨(st q hq).1, (h2 q hq).2⟩, h3⟩
theorem RgG.old {H0' : Hp} (h : RgG K H0' S H x w σ ρ) (f : ∀ a, H0' a = none → H0 a = none) : RgG K H0 S H x w σ ρ := by
  obtain ⟨as, h1, h2, h3⟩ := h
  exact ⟨as, h1, fun q hq => ⟨(h2 q hq).1, f q (h2 q hq).2⟩, h3⟩
theorem RgG.frz (h : RgG K H0 S H x w σ ρ) (E : En K B S0 H0 S H σ ρ) (ht : ρ[t]? = some .no) (hσ : σ[t]? = some (some (.ref x))) :
    ∃ S1, Same S S1 ∧ En K B S0 H0 S1 H σ (ρ.set t (.val w)) ∧ (∀ S2 H2, Ext B S1 H S2 H2 → ∃ S3, Ext B S H S3 H2 ∧ RgG K H0 S3 H2 x w σ ρ) := by
  obtain ⟨as, h1, h2, h3⟩ := h
  let S1 : Hp := fun a => if a ∈ as then H a else S a
  have hb : ∀ q, B q → H0 q ≠ none := fun q hq => (E.bx q hq).2.2
  have inR : ∀ a, a ∈ as → S1 a = H a := fun a ha => if_pos ha
  have outR : ∀ a, a ∉ as → S1 a = S a := fun a ha => if_neg ha
  have s1 : Same S S1 := fun a o e => by
    by_cases c : a ∈ as
    · rw [(h2 a c).1] at e
      cases e
    · rw [outR a c]
      exact e
  have i1 : Same S1 H := fun a o e => by
    by_cases c : a ∈ as
    · rw [inR a c] at e
      exact e
    · rw [outR a c] at e
      exact E.i _ _ e
  have old : ∀ a, H0 a ≠ none → S1 a = S a := fun a ha => outR a fun c => ha (h2 a c).2
  have rep : Enc.rep K S1 (.ref x) w := Reg.frz h1 s1 inR
  refine ⟨S1, s1, ⟨E.i0, fun p hp => ?_, ⟨E.ext.s.trans s1, i1, fun a q1 q2 => ?_⟩, by rw [List.length_set]; exact E.len, fun i s hs => ?_, fun i j s u n hi hj o1 o2 => ?_⟩, fun S2 H2 e => ?_⟩
  · obtain ⟨q1, q2, q3⟩ := E.bx p hp
    exact ⟨by rw [old p q3]; exact q1, q2, q3⟩
  · rw [old a q2]
    exact E.ext.p a q1 q2
  · rw [List.getElem?_set] at hs
    by_cases c : t = i
    · subst c
      rw [if_pos rfl] at hs
      split at hs
      · cases hs
        exact ⟨_, hσ, rep⟩
      · cases hs
    · rw [if_neg c] at hs
      obtain ⟨o, q1, q2⟩ := E.at' i s hs
      refine ⟨o, q1, ?_⟩
      have sm := List.mem_of_getElem? hs
      cases s with
      | no => cases o <;> trivial
      | box =>
        cases o with
        | none => cases q2
        | some v => exact q2
      | val a =>
        cases o with
        | none => cases q2
        | some v => exact Enc.mono s1 q2
      | obj P =>
        cases o with
        | none => cases q2
        | some v =>
          obtain ⟨p, u, r, g0, gs, gh, gp⟩ := q2
          subst r
          exact ⟨p, u, rfl, g0, by rw [outR p (h3 i _ p hs rfl q1)]; exact gs, gh, P.mono s1 gp⟩
      | out P =>
        cases o with
        | none => cases q2
        | some v =>
          obtain ⟨p, u, r, nb, g0, gs, gh, gp⟩ := q2
          exact ⟨p, u, r, nb, g0, by rw [old p g0]; exact gs, gh, P.mono s1 gp⟩
  · have old' : ∀ (k : Nat) (s : Slot), (ρ.set t (.val w))[k]? = some s → s.isOwn = true → ρ[k]? = some s := fun k s hs ho => by
      rw [List.getElem?_set] at hs
      by_cases c : t = k
      · rw [if_pos c] at hs
        split at hs
        · cases hs
          cases ho
        · cases hs
      · rw [if_neg c] at hs
        exact hs
    exact E.ne i j s u n (old' i s hi o1) (old' j u hj o2) o1 o2
  · let S3 : Hp := fun a => if a ∈ as then none else S2 a
    have in3 : ∀ a, a ∈ as → S3 a = none := fun a ha => if_pos ha
    have out3 : ∀ a, a ∉ as → S3 a = S2 a := fun a ha => if_neg ha
    have ext : Ext B S H S3 H2 := by
      refine ⟨fun a o q => ?_, fun a o q => ?_, fun a q1 q2 => ?_⟩
      · have c : a ∉ as := fun c => by
          rw [(h2 a c).1] at q
          cases q
        rw [out3 a c]
        exact e.s _ _ (s1 _ _ q)
      · have c : a ∉ as := fun c => by
          rw [in3 a c] at q
          cases q
        rw [out3 a c] at q
        exact e.i _ _ q
      · by_cases c : a ∈ as
        · refine ⟨in3 a c, .inl ?_⟩
          obtain ⟨o, ho⟩ := Reg.live h1 a c
          rw [ho]
          exact e.i _ _ (e.s _ _ (by rw [inR a c]; exact ho))
        · rw [out3 a c]
          exact e.p a (by rw [outR a c]; exact q1) q2
    exact ⟨S3, ext, RgG.ext ⟨as, h1, h2, h3⟩ ext hb⟩
theorem En.updP {p : Addr} {o : HO} (E : En K B S0 H0 S H σ ρ) (ap : ∀ (i : Nat) (s : Slot), ρ[i]? = some s → s.isOwn = true → σ[i]? ≠ some (some (.ref p))) (sp : S p = none) (hp0 : H0 p = none) : En K B S0 H0 S (upd H p o) σ ρ := by
  refine ⟨E.i0, fun q hq => ?_, ⟨E.ext.s, fun a u q => ?_, fun a q1 q2 => ?_⟩, E.len, fun i s hs => ?_, E.ne⟩
  · rw [upd_ne (fun z => (E.bx q hq).2.2 (by rw [z]; exact hp0))]
    exact E.bx q hq
  · rw [upd_ne (fun z => by rw [z, sp] at q; cases q)]
    exact E.i _ _ q
  · rw [upd_ne (fun z => q2 (by rw [z]; exact hp0))]
    exact E.ext.p a q1 q2
  · obtain ⟨o, q1, q2⟩ := E.at' i s hs
    refine ⟨o, q1, ?_⟩
    have sm := List.mem_of_getElem? hs
    cases s with
    | no => cases o <;> trivial
    | box =>
      cases o with
      | none => cases q2
      | some v => exact q2
    | val a =>
      cases o with
      | none => cases q2
      | some v => exact q2
    | obj P =>
      cases o with
      | none => cases q2
      | some v =>
        obtain ⟨p', u, r, g0, gs, gh, gp⟩ := q2
        subst r
        exact ⟨p', u, rfl, g0, gs, by rw [upd_ne (fun z => ap i _ hs rfl (by rw [q1, z]))]; exact gh, gp⟩
    | out P =>
      cases o with
      | none => cases q2
      | some v =>
        obtain ⟨p', u, r, nb, g0, gs, gh, gp⟩ := q2
        exact ⟨p', u, r, nb, g0, gs, by rw [upd_ne (fun z => g0 (by rw [z]; exact hp0))]; exact gh, gp⟩
structure Mut (B : Addr → Prop) (as : List Addr) (S H S' H' : Hp) : Prop where
  s : Same S S'
  i : Same S' H'
  p : ∀ a, S a = none → H a ≠ none → a ∈ as ∨ (S' a = none ∧ (H' a = H a ∨ (B a ∧ IsBx (H' a))))
theorem En.mut {as : List Addr} (E : En K B S0 H0 S H σ ρ) (ap : OwnOff σ ρ as) (m : Mut B as S H S' H') (h0 : ∀ a ∈ as, H0 a = none) : En K B S0 H0 S' H' σ ρ := by
  refine ⟨E.i0, fun q hq => ?_, ⟨E.ext.s.trans m.s, m.i, fun a q1 q2 => ?_⟩, E.len, fun i s hs => ?_, E.ne⟩
  · obtain ⟨b1, b2, b3⟩ := E.bx q hq
    rcases m.p q b1 b2.ne with z | ⟨q1, q2⟩
    · exact absurd (h0 q z) b3
    · refine ⟨q1, ?_, b3⟩
      rcases q2 with z | ⟨_, z⟩
      · rw [z]
        exact b2
      · exact z
  · obtain ⟨e1, e2⟩ := E.ext.p a q1 q2
    have hn : H a ≠ none := by
      rcases e2 with z | ⟨_, z⟩
      · rw [z]
        exact q2
      · exact z.ne
    rcases m.p a e1 hn with z | ⟨g1, g2⟩
    · exact absurd (h0 a z) q2
    · refine ⟨g1, ?_⟩
      rcases g2 with z | z
      · rcases e2 with y | ⟨y1, y2⟩
        · exact .inl (z.trans y)
        · exact .inr ⟨y1, by rw [z]; exact y2⟩
      · exact .inr z
  · obtain ⟨o, q1, q2⟩ := E.at' i s hs
    refine ⟨o, q1, ?_⟩
    have sm := List.mem_of_getElem? hs
    cases s with
    | no => cases o <;> trivial
    | box =>
      cases o with
      | none => cases q2
      | some v => exact q2
    | val a =>
      cases o with
      | none => cases q2
      | some v => exact Enc.mono m.s q2
    | obj P =>
      cases o with
      | none => cases q2
      | some v =>
        obtain ⟨p', u, r, g0, gs, gh, gp⟩ := q2
        subst r
        rcases m.p p' gs (by rw [gh]; exact fun z => nomatch z) with z | ⟨k1, k2⟩
        · exact absurd z (ap i _ p' hs rfl q1)
        · refine ⟨p', u, rfl, g0, k1, ?_, P.mono m.s gp⟩
          rcases k2 with z | ⟨z, _⟩
          · rw [z]
            exact gh
          · exact absurd g0 (E.bx p' z).2.2
    | out P =>
      cases o with
      | none => cases q2
      | some v =>
        obtain ⟨p', u, r, nb, g0, gs, gh, gp⟩ := q2
        rcases m.p p' gs (by rw [gh]; exact fun z => nomatch z) with z | ⟨k1, k2⟩
        · exact absurd (h0 p' z) g0
        · refine ⟨p', u, r, nb, g0, k1, ?_, P.mono m.s gp⟩
          rcases k2 with z | ⟨z, _⟩
          · rw [z]
            exact gh
          · exact absurd z nb
theorem OwnOff.mut {as as' : List Addr} (E : En K B S0 H0 S H σ ρ) (ap : OwnOff σ ρ as) (h : ∀ a ∈ as', a ∈ as ∨ H a = none) : OwnOff σ ρ as' := fun i s p hi ho hp hm => by
  obtain ⟨o, q1, q2⟩ := E.at' i s hi
  rcases h p hm with z | z
  · exact ap i s p hi ho hp z
  · rw [hp] at q1
    cases q1
    cases s with
    | obj P =>
      obtain ⟨p', u, r, g0, gs, gh, gp⟩ := q2
      cases r
      rw [z] at gh
      cases gh
    | _ => cases ho
end
section
variable {ω : Type} [Enc ω] [Reg ω] {K : PySem.W.Frag} {B : Addr → Prop} {ρ ρ' : List Slot} {w : ω} {t n : Nat} {ta tb te tk : TE} {tt : TT} {tr : TA} {ts tu tz : TS} {β : Type} {e_β : Enc β} {b : β} {i : Int} {ss : List Slot}
def OwnSub (ρ1 ρ2 : List Slot) (js : List Nat) : Prop := ∀ (i : Nat) (s : Slot), ρ2[i]? = some s → s.isOwn = true → ρ1[i]? = some s ∧ i ∉ js
theorem OwnSub.set {a : β} : OwnSub ρ (ρ.set n (.val a)) [n] := fun i s hi ho => by
  rw [List.getElem?_set] at hi
  by_cases c : n = i
  · rw [if_pos c] at hi
    split at hi
    · cases hi
      cases ho
    · cases hi
  · rw [if_neg c] at hi
    exact ⟨hi, fun h => c (List.mem_singleton.mp h).symm⟩
theorem OwnSub.trans {ρ1 ρ2 ρ3 : List Slot} {js js' : List Nat} (h : OwnSub ρ1 ρ2 js) (g : OwnSub ρ2 ρ3 js') : OwnSub ρ1 ρ3 (js ++ js') := fun i s hi ho => by
  obtain ⟨a, b⟩ := g i s hi ho
  obtain ⟨c, d⟩ := h i s a ho
  exact ⟨c, fun z => (List.mem_append.mp z).elim d b⟩
theorem RgG.sub {H0 S H : Hp} {x : Addr} {σ σ2 : L2.St} {ρ2 : List Slot} {js : List Nat} (r : RgG K H0 S H x w σ ρ) (ow : OwnSub ρ ρ2 js) (f : ∀ i, i ∉ js → σ2[i]? = σ[i]?) : RgG K H0 S H x w σ2 ρ2 := by
  obtain ⟨as, h1, h2, h3⟩ := r
  refine ⟨as, h1, h2, fun i s p hi ho hp => ?_⟩
  obtain ⟨a, b⟩ := ow i s hi ho
  rw [f i b] at hp
  exact h3 i s p a ho hp
structure PostM (ω : Type) where
  nx : List Slot → ω → Prop
  rt : Slot → Option ω → Prop := fun _ _ => False
def DSM (K : PySem.W.Frag) (B : Addr → Prop) (t : Nat) (ts : TS) (ρ : List Slot) (w : ω) (Φ : PostM ω) : Prop := ∀ S0 H0 S H σ (D : Ends) x, En K B S0 H0 S H σ ρ → ρ[t]? = some .no → σ[t]? = some (some (.ref x)) → RgG K H0 S H x w σ ρ →
  (∀ ρ' w' σ' S' H', Φ.nx ρ' w' → Same S S' → En K B S0 H0 S' H' σ' ρ' → ρ'[t]? = some .no → σ'[t]? = some (some (.ref x)) → RgG K H0 S' H' x w' σ' ρ' → D.nx σ' H') →
  (∀ s o v S' H', Φ.rt s o → Ext B S0 H0 S' H' → SlotOk K B H0 S' H' (some v) s → (∀ w', o = some w' → RgG K H0 S' H' x w' [] []) → D.rt v H') → ts D σ H
def DEM {β : Type} [Enc β] (K : PySem.W.Frag) (B : Addr → Prop) (t : Nat) (te : TE) (ρ : List Slot) (w : ω) (b : β) : Prop := ∀ S0 H0 S H σ x, En K B S0 H0 S H σ ρ → ρ[t]? = some .no → σ[t]? = some (some (.ref x)) → RgG K H0 S H x w σ ρ → ∀ Q : VK, (∀ v S' H', Ext B S H S' H' → RgG K H0 S' H' x w σ ρ → Enc.rep K S' v b → Q v H') → te σ H Q
theorem dem_of (h : DE K B te ρ b) : DEM K B t te ρ w b := fun S0 H0 S H σ x E ht hσ r Q q => h S0 H0 S H σ E Q fun v S' H' e rv => q v S' H' e (r.ext e fun q hq => (E.bx q hq).2.2) rv
theorem dsm_seq {Φ : PostM ω} (h : DSM K B t tu ρ w ⟨fun ρ' w' => DSM K B t tz ρ' w' Φ, Φ.rt⟩) : DSM K B t (tSeq tu tz) ρ w Φ := fun S0 H0 S H σ D x E ht hσ r nx rt =>
  h S0 H0 S H σ { D with nx := tz D } x E ht hσ r (fun ρ' w' σ' S' H' k sm E' ht' hσ' r' => k S0 H0 S' H' σ' D x E' ht' hσ' r' (fun ρ2 w2 σ2 S2 H2 q s => nx ρ2 w2 σ2 S2 H2 q (sm.trans s)) rt) rt
theorem dsm_asg {Φ : PostM ω} (h : DEM K B t te ρ w b) (hn : n ≠ t) (k : Φ.nx (ρ.set n (.val b)) w) : DSM K B t (tAsg te (gName n)) ρ w Φ := fun S0 H0 S H σ D x E ht hσ r nx rt =>
  h S0 H0 S H σ x E ht hσ r _ fun v S1 H1 e1 R1 r1 => nx _ _ _ S1 H1 k e1.s ((E.go e1).setV r1) (by rw [List.getElem?_set_ne hn]; exact ht) (by rw [List.getElem?_set_ne hn]; exact hσ) (R1.set rfl)
theorem dqm_asg {Φ : PostM ω} (h : DEM K B t te ρ w b) (hn : n ≠ t) (k : DSM K B t tz (ρ.set n (.val b)) w Φ) : DSM K B t (tSeq (tAsg te (gName n)) tz) ρ w Φ := dsm_seq (dsm_asg h hn k)
theorem dsm_if {Φ : PostM ω} {c : Bool} (h : DT K B tt (ρ.set t (.val w)) c) (h1 : c = true → DSM K B t tu ρ w Φ) (h2 : c = false → DSM K B t tz ρ w Φ) : DSM K B t (tIfS tt tu tz) ρ w Φ := fun S0 H0 S H σ D x E ht hσ r nx rt => by
  obtain ⟨S1, s1, E1, un⟩ := r.frz E ht hσ
  refine h S0 H0 S1 H σ E1 _ fun S2 H2 e2 => ?_
  obtain ⟨S3, e, r1⟩ := un S2 H2 e2
  have n' : ∀ ρ' w' σ' S' H', Φ.nx ρ' w' → Same S3 S' → En K B S0 H0 S' H' σ' ρ' → ρ'[t]? = some .no → σ'[t]? = some (some (.ref x)) → RgG K H0 S' H' x w' σ' ρ' → D.nx σ' H' := fun ρ' w' σ' S' H' q sm => nx ρ' w' σ' S' H' q (e.s.trans sm)
  cases c with
  | true => exact h1 rfl S0 H0 S3 H2 σ D x (E.go e) ht hσ r1 n' rt
  | false => exact h2 rfl S0 H0 S3 H2 σ D x (E.go e) ht hσ r1 n' rt
theorem dqm_when {Φ : PostM ω} {c : Bool} (h : DT K B tt (ρ.set t (.val w)) c) (h1 : c = true → DSM K B t tu ρ w ⟨fun ρ' w' => DSM K B t tz ρ' w' Φ, Φ.rt⟩) (h2 : c = false → DSM K B t tz ρ w Φ) : DSM K B t (tSeq (tIfS tt tu tNext) tz) ρ w Φ :=
  dsm_seq (dsm_if h h1 fun z => fun S0 H0 S H σ D x E ht hσ r nx rt => nx _ _ _ S H (h2 z) (Same.refl S) E ht hσ r)
theorem dsm_frz {Φ : PostM ω} (h : DS K B ts (ρ.set t (.val w)) ⟨fun _ => False, fun s => Φ.rt s none, fun _ => False, fun _ => False, fun _ _ => True⟩) : DSM K B t ts ρ w Φ := fun S0 H0 S H σ D x E ht hσ r nx rt => by
  obtain ⟨S1, s1, E1, un⟩ := r.frz E ht hσ
  exact h S0 H0 S1 H σ D E1 trivial (fun _ _ _ _ f => f.elim) (fun s v S' H' k e ok => rt s none v S' H' k e ok fun _ z => nomatch z) (fun _ _ _ _ f => f.elim) (fun _ _ _ _ f => f.elim)
def spMut (K : PySem.W.Frag) (dp : ω → List Slot → (Slot → ω → Prop) → Prop) : Sp := fun vs H Q _ => ∃ (B : Addr → Prop) (S : Hp) (x : Addr) (as : List Addr) (w : ω) (vr : List V) (ss : List Slot) (R : Slot → ω → Prop), vs = .ref x :: vr ∧ Same S H ∧ (∀ p, B p → S p = none ∧ IsBx (H p)) ∧ Reg.rep K S H x as w ∧ (∀ a ∈ as, S a = none ∧ ¬ B a) ∧ ArgsOk K B H S H vr ss ∧ (∀ s ∈ ss, s.plain = true) ∧ dp w ss R ∧
  ∀ s v w' as' S' H', R s w' → Mut B as S H S' H' → Reg.rep K S' H' x as' w' → (∀ a ∈ as', S' a = none ∧ (a ∈ as ∨ H a = none)) → SlotOk K B H S' H' (some v) s → Q v H'
end
end WW
set_option Elab.async false
set_option linter.all false
set_option maxRecDepth 100000
set_option maxHeartbeats 4000000
namespace WW
open PySem PySem.Spec PyProof.Rows L2
section
variable {ω : Type} [Enc ω] [Reg ω] {K : PySem.W.Frag} {B : Addr → Prop} {ρ ρ' : List Slot} {w : ω} {t n : Nat} {ta tb te tk : TE} {tt : TT} {tr : TA} {ts tu tz : TS} {β : Type} {e_β : Enc β} {b : β} {i : Int} {ss : List Slot}
theorem En.cutH {S H : Hp} {σ : L2.St} {as : List Addr} (E : En K B S H S H σ ρ) (h : ∀ a ∈ as, S a = none ∧ ¬ B a) (hv : ∀ s ∈ ρ, s.plain = true) : En K B S (fun a => if a ∈ as then none else H a) S H σ ρ := by
  refine ⟨fun a o e => ?_, fun q hq => ?_, ⟨Same.refl S, E.i, fun a q1 q2 => ⟨q1, .inl ?_⟩⟩, E.len, fun i s hs => ?_, fun i j s u n hi hj o1 o2 => ?_⟩
  · show (if a ∈ as then none else H a) = some o
    by_cases c : a ∈ as
    · rw [(h a c).1] at e
      cases e
    · rw [if_neg c]
      exact E.i _ _ e
  · obtain ⟨q1, q2, q3⟩ := E.bx q hq
    refine ⟨q1, q2, ?_⟩
    show (if q ∈ as then none else H q) ≠ none
    rw [if_neg fun c => (h q c).2 hq]
    exact q3
  · have q2 : (if a ∈ as then none else H a) ≠ none := q2
    show H a = (if a ∈ as then none else H a)
    by_cases c : a ∈ as
    · rw [if_pos c] at q2
      exact absurd rfl q2
    · rw [if_neg c]
  · obtain ⟨o, q1, q2⟩ := E.at' i s hs
    refine ⟨o, q1, ?_⟩
    have sm := hv s (List.mem_of_getElem? hs)
    cases s with
    | no => cases o <;> trivial
    | val a =>
      cases o with
      | none => cases q2
      | some v => exact q2
    | _ => cases sm
  · have sm := hv s (List.mem_of_getElem? hi)
    cases s with
    | obj P => cases sm
    | _ => cases o1
theorem plain_noOwn (hv : ∀ s ∈ ρ, s.plain = true) : NoOwn ρ := fun s hs => by
  have := hv s hs
  cases s with
  | obj P => cases this
  | _ => rfl
theorem startS_plain {N : List Str} (hv : ∀ s ∈ ss, s.plain = true) : ∀ s ∈ startS N ss, s.plain = true := fun s hs => by
  unfold startS at hs
  rcases List.mem_append.mp hs with h | h
  · exact hv s h
  · rw [List.eq_of_mem_replicate h]
    rfl
theorem okM {P : Program} {wd : World} {mg : Str → Option Value} {base : Heap} {x qual : Str} {params : Arguments} {body : List Stmt} {scope : Scope} {dvs : List V} {kws : List (Str × V)} {f : Addr} {fd : FuncData} {N ps : List Str} {k : Nat} {dp : ω → List Slot → (Slot → ω → Prop) → Prop}
    (F : FunD K x qual params body scope dvs kws f fd) (S : FnScope N ps scope) (len : ∀ w ss R, dp w ss R → ss.length + 1 = ps.length)
    (hbody : ∀ (cdv : Value) (A : Around) (outer : List PySem.Env) (s : Shared) (H : Hp) (E : XK), Room k (A.deeper (envOfC qual scope s.heap.objs.size f cdv)) →
      ∃ t, PSs (cxOf CX0 P wd K mg base N qual scope f cdv A outer s H E).nox body t ∧ ∀ (B : Addr → Prop) w ss R, dp w ss R → DSM K B 0 t (startS N (.no :: ss)) w ⟨fun _ w' => R (.val ()) w', fun s o => s.isOwn = false ∧ ∃ w', o = some w' ∧ R s w'⟩) : FnOk P wd K mg base CX0 (k + 1) f fd ps (spMut K dp) := by
  refine F.ok S (fun vs H Q E h => ?_) (fun cdv A outer s H vs Q E hr h => ?_)
  · obtain ⟨B, S, x, as, w, vr, ss, R, rfl, _, _, _, _, ha, _, hd, _⟩ := h
    rw [List.length_cons, ha.length, len w ss R hd]
  · obtain ⟨B, S, x, as, w, vr, ss, R, rfl, hi, hb, hrep, has, ha, hp, hd, q⟩ := h
    obtain ⟨t, h1, h2⟩ := hbody cdv A outer s H E hr
    have pl : ∀ s ∈ startS N (.no :: ss), s.plain = true := startS_plain fun s hs => by
      rcases List.mem_cons.mp hs with rfl | hs
      · rfl
      · exact hp s hs
    have E0 := start_en (N := N) hi hb (ArgsOk.cons (v := .ref x) (s := .no) trivial rfl ha)
    have E1 := E0.cutH has pl
    have fin : ∀ (s : Slot) (v : V) (w' : ω) (S' H' : Hp) (σ' : L2.St) (ρ' : List Slot), R s w' → Ext B S (fun a => if a ∈ as then none else H a) S' H' → RgG K (fun a => if a ∈ as then none else H a) S' H' x w' σ' ρ' → SlotOk K B H S' H' (some v) s → Q v H' := fun s v w' S' H' σ' ρ' r e rg' ok => by
      obtain ⟨as', k1, k2, _⟩ := rg'
      refine q s v w' as' S' H' r ⟨e.s, e.i, fun a q1 q2 => ?_⟩ k1 (fun a ha' => ⟨(k2 a ha').1, ?_⟩) ok
      · by_cases c : a ∈ as
        · exact .inl c
        · have hne : (if a ∈ as then none else H a) = H a := if_neg c
          obtain ⟨g1, g2⟩ := e.p a q1 (by show (if a ∈ as then none else H a) ≠ none; rw [hne]; exact q2)
          refine .inr ⟨g1, ?_⟩
          have g2 : H' a = (if a ∈ as then none else H a) ∨ (B a ∧ IsBx (H' a)) := g2
          rw [hne] at g2
          exact g2
      · by_cases c : a ∈ as
        · exact .inl c
        · have := (k2 a ha').2
          have this : (if a ∈ as then none else H a) = none := this
          rw [if_neg c] at this
          exact .inr this
    have okH : ∀ (s : Slot) (v : V) (S' H' : Hp), SlotOk K B (fun a => if a ∈ as then none else H a) S' H' (some v) s → (∀ a ∈ as, H a ≠ none) → s.isOwn = false → SlotOk K B H S' H' (some v) s := fun s v S' H' ok hn ho => by
      cases s with
      | no => trivial
      | val a => exact ok
      | box => exact ok
      | obj P => cases ho
      | out P =>
        obtain ⟨p', u, r, nb, g0, gs, gh, gp⟩ := ok
        refine ⟨p', u, r, nb, ?_, gs, gh, gp⟩
        have g0 : (if p' ∈ as then none else H p') ≠ none := g0
        by_cases c : p' ∈ as
        · rw [if_pos c] at g0
          exact absurd rfl g0
        · rw [if_neg c] at g0
          exact g0
    have lv : ∀ a ∈ as, H a ≠ none := fun a ha => by
      obtain ⟨o, ho⟩ := Reg.live hrep a ha
      rw [ho]
      exact fun z => nomatch z
    refine ⟨t, PSs.nox h1, h2 B w ss R hd S _ S H _ _ x E1 rfl rfl (RgG.no (σ := []) (ρ := []) ⟨as, hrep, fun a ha => ⟨(has a ha).1, if_pos ha⟩, fun i s p hi _ _ => nomatch hi⟩ (plain_noOwn pl)) (fun ρ' w' σ' S' H' r _ E' _ _ rg' => fin (.val ()) .non w' S' H' _ _ r E'.ext rg' rfl) (fun s o v S' H' ⟨hs, w', ho, r⟩ e ok rg' => fin s v w' S' H' _ _ r e (rg' w' ho) (okH s v S' H' ok lv hs))⟩
def DOG (K : PySem.W.Frag) (B : Addr → Prop) (te : TE) (ρ : List Slot) (P : ω → Prop) : Prop := ∀ S0 H0 S H σ, En K B S0 H0 S H σ ρ → ∀ Q : VK, (∀ x w S' H', P w → Ext B S H S' H' → RgG K H S' H' x w [] [] → Q (.ref x) H') → te σ H Q
theorem RgG.new {S0 H0 S H S' H' : Hp} {x : Addr} {σ : L2.St} (r : RgG K H S' H' x w [] []) (E : En K B S0 H0 S H σ ρ) : RgG K H0 S' H' x w σ ρ := by
  obtain ⟨as, h1, h2, _⟩ := r
  refine ⟨as, h1, fun a ha => ⟨(h2 a ha).1, E.ext.free E.i0 (h2 a ha).2⟩, fun i s p hi ho hp hm => ?_⟩
  obtain ⟨o, q1, q2⟩ := E.at' i s hi
  rw [hp] at q1
  cases q1
  cases s with
  | obj P =>
    obtain ⟨p', u, r, g0, gs, gh, gp⟩ := q2
    cases r
    rw [(h2 p hm).2] at gh
    cases gh
  | _ => cases ho
theorem RgG.setNo {H0 S H : Hp} {x : Addr} {σ : L2.St} {o : Option V} (r : RgG K H0 S H x w σ ρ) (ht : ρ[t]? = some .no) : RgG K H0 S H x w (σ.set t o) ρ := by
  obtain ⟨as, h1, h2, h3⟩ := r
  refine ⟨as, h1, h2, fun i s p hi ho hp => ?_⟩
  rw [List.getElem?_set] at hp
  by_cases c : t = i
  · subst c
    rw [ht] at hi
    cases hi
    cases ho
  · rw [if_neg c] at hp
    exact h3 i s p hi ho hp
def spInitG (K : PySem.W.Frag) (C : Addr) (dp : List Slot → (ω → Prop) → Prop) : Sp := fun vs H Q _ => ∃ (S : Hp) (x dx : Addr) (ss : List Slot) (R : ω → Prop), Same S H ∧ S x = none ∧ H x = some (.ins C dx []) ∧ ArgsOk K noB H S H vs (.val (V.ref x) :: ss) ∧ (∀ s ∈ ss, s.plain = true) ∧ dp ss R ∧
  ∀ S' H' as w, Off x S H S' H' → Reg.rep K S' H' x as w → (∀ a ∈ as, S' a = none ∧ (a = x ∨ H a = none)) → R w → Q .non H'
theorem dog_make {C : Addr} {dp : List Slot → (ω → Prop) → Prop} {W : WX} {P : ω → Prop} {ta : TA} (h : DA K B ta ρ ss) (hs : ∀ s ∈ ss, s.plain = true) (hd : dp ss P) : DOG K B (tMakeS C (spInitG K C dp) [] (WE W) ta) ρ P := fun S0 H0 S H σ En Q q => by
  refine h S0 H0 S H σ En _ ?_
  intro vs S1 H1 e1 r1 x dx nx ndx hn
  have s1 : Same H1 (upd (upd H1 dx (.own x)) x (.ins C dx [])) := (same_new ndx).trans (same_new ((upd_ne (Ne.symm hn)).trans nx))
  have sx : S1 x = none := e1.i.free nx
  have toE : ∀ (S2 H2 : Hp), Off x S1 (upd (upd H1 dx (.own x)) x (.ins C dx [])) S2 H2 → Ext B S1 H1 S2 H2 := fun S2 H2 o => by
    refine ⟨o.s, o.i, fun a h1 h2 => ?_⟩
    have n1 : a ≠ x := fun z => h2 (by rw [z]; exact nx)
    have n2 : a ≠ dx := fun z => h2 (by rw [z]; exact ndx)
    have e : upd (upd H1 dx (.own x)) x (.ins C dx []) a = H1 a := by rw [upd_ne n1, upd_ne n2]
    obtain ⟨q1, q2⟩ := o.p a h1 (by rw [e]; exact h2) n1
    exact ⟨q1, .inl (by rw [q2, e])⟩
  have av : ∀ {vs : List V} {ss : List Slot}, ArgsOk K B H1 S1 H1 vs ss → (∀ s ∈ ss, s.plain = true) → ArgsOk K noB (upd (upd H1 dx (.own x)) x (.ins C dx [])) S1 (upd (upd H1 dx (.own x)) x (.ins C dx [])) vs ss := by
    intro vs ss h
    induction h with
    | nil => exact fun _ => .nil
    | cons h1 h2 _ ih =>
      intro hp
      refine .cons ?_ h2 (ih fun s hs => hp s (List.mem_cons_of_mem _ hs))
      have := hp _ List.mem_cons_self
      rename_i v s vs ss _
      cases s with
      | no => trivial
      | val a => exact h1
      | _ => cases this
  rw [List.append_nil]
  refine ⟨S1, x, dx, ss, P, e1.i.trans s1, sx, upd_same, .cons rfl rfl (av r1 hs), hs, hd, fun S2 H2 as w of rp ha hR => ?_⟩
  refine ⟨rfl, q x w S2 H2 hR (e1.trans (toE S2 H2 of)) ⟨as, rp, fun a hh => ⟨(ha a hh).1, ?_⟩, fun i s p hi _ _ => nomatch hi⟩⟩
  rcases (ha a hh).2 with z | z
  · rw [z]
    exact e1.free En.i nx
  · by_cases c : a = x
    · rw [c]
      exact e1.free En.i nx
    · by_cases c2 : a = dx
      · rw [c2]
        exact e1.free En.i ndx
      · rw [upd_ne c, upd_ne c2] at z
        exact e1.free En.i z
end
end WW
set_option Elab.async false
set_option linter.all false
set_option maxRecDepth 100000
set_option maxHeartbeats 4000000
namespace WW
open PySem PySem.Spec PyProof.Rows L2
section
variable {α : Type} [Enc α]
instance : Reg (Dct (L α)) where
  rep K S H x as d := ∃ ps, as = x :: ps ∧ (x :: ps).Nodup ∧ H x = some (.dK (dkv (show List (Str × List α) from d.kv) ps)) ∧ RgR K S H ps (show List (Str × List α) from d.kv) ∧ d.kv.length ≤ 1000 ∧ (d.kv.map (·.1)).Nodup
  live h := by
    obtain ⟨ps, rfl, nd, h1, h2, h3, h4⟩ := h
    intro a ha
    rcases List.mem_cons.mp ha with rfl | ha
    · exact ⟨_, h1⟩
    · exact h2.some' a ha
  to h s e := by
    obtain ⟨ps, rfl, nd, h1, h2, h3, h4⟩ := h
    exact ⟨ps, rfl, nd, by rw [e _ List.mem_cons_self]; exact h1, h2.to s fun q hq => e q (List.mem_cons_of_mem _ hq), h3, h4⟩
  frz h s e := by
    obtain ⟨ps, rfl, nd, h1, h2, h3, h4⟩ := h
    exact ⟨h3, _, _, rfl, by rw [e _ List.mem_cons_self]; exact h1, h2.frz s fun q hq => e q (List.mem_cons_of_mem _ hq)⟩
variable {K : PySem.W.Frag} {B : Addr → Prop} {ρ ρ' : List Slot} {xs : List (Str × List α)} {t n : Nat} {te tk : TE} {ts tz : TS}
theorem DOR.g (h : DOR K B te ρ xs) : DOG K B te ρ (fun d => d = dctL xs) := fun S0 H0 S H σ E Q q =>
  h S0 H0 S H σ E Q fun pd S' H' e r => by
    obtain ⟨⟨ps, h1, h2, h3, h4⟩, h5, h6⟩ := r
    exact q pd (dctL xs) S' H' rfl e ⟨pd :: ps, ⟨ps, rfl, h1, h3, h4, h5, h6⟩, h2, fun i s p hi _ _ => nomatch hi⟩
end
end WW
set_option Elab.async false
set_option linter.all false
set_option maxRecDepth 100000
set_option maxHeartbeats 4000000
namespace WW
open PySem PySem.Spec PyProof.Rows L2
def DEX {ω β : Type} [Enc ω] [Reg ω] [Enc β] (K : PySem.W.Frag) (B : Addr → Prop) (t : Nat) (te : TE) (ρ : List Slot) (w : ω) (P : β → ω → Prop) : Prop := ∀ S0 H0 S H σ x, En K B S0 H0 S H σ ρ → ρ[t]? = some .no → σ[t]? = some (some (.ref x)) → RgG K H0 S H x w σ ρ →
  ∀ Q : VK, (∀ v b w' S' H', P b w' → Same S S' → En K B S0 H0 S' H' σ ρ → RgG K H0 S' H' x w' σ ρ → Enc.rep K S' v b → Q v H') → te σ H Q
section
variable {ω : Type} [Enc ω] [Reg ω] {K : PySem.W.Frag} {B : Addr → Prop} {ρ ρ' : List Slot} {w : ω} {t n : Nat} {ta tb tc te tk : TE} {tt : TT} {tr : TA} {ts tu tz : TS} {α β γ : Type} {e_α : Enc α} {e_β : Enc β} {e_γ : Enc γ} {a : α} {b : β} {i : Int} {ss : List Slot}
theorem DEX.conv {P : β → ω → Prop} {P' : γ → ω → Prop} (h : DEX K B t te ρ w P) (k : ∀ b w', P b w' → ∃ c : γ, P' c w' ∧ ∀ S v, Enc.rep K S v b → Enc.rep K S v c) : DEX K B t te ρ w P' := fun S0 H0 S H σ x E ht hσ r Q q =>
  h S0 H0 S H σ x E ht hσ r Q fun v b w' S' H' pb sm E' R' r' => by
    obtain ⟨c, pc, f⟩ := k b w' pb
    exact q v c w' S' H' pc sm E' R' (f S' v r')
end
end WW
set_option Elab.async false
set_option linter.all false
set_option maxRecDepth 100000
set_option maxHeartbeats 4000000
namespace WW
open PySem PySem.Spec PyProof.Rows L2
structure TOb where
  m : DMd
def rowsD (m : DMd) : List (Str × U Str) := [("in", m.i), ("out", m.o), ("at", m.s)]
instance : Enc TOb where
  rep K S v o := ∃ x dx v1 v2 v3, v = .ref x ∧ S x = some (.ins (He.ga K "Told") dx [("title", .str o.m.n), ("rows", v1), ("calls", v2), ("links", v3)]) ∧
    Enc.rep K S v1 (Dct.mk (rowsD o.m)) ∧ Enc.rep K S v2 (show L (Str × Str) from o.m.c) ∧ Enc.rep K S v3 (show L Lk from o.m.l)
  mono e h := by
    obtain ⟨x, dx, v1, v2, v3, z, hx, h1, h2, h3⟩ := h
    exact ⟨x, dx, v1, v2, v3, z, e _ _ hx, Enc.mono e h1, Enc.mono e h2, Enc.mono e h3⟩
structure TRep (K : PySem.W.Frag) (S H : Hp) (x d c l : Addr) (m : DMd) : Prop where
  ob : ∃ dx, H x = some (.ins (He.ga K "Told") dx [("title", .str m.n), ("rows", .ref d), ("calls", .ref c), ("links", .ref l)])
  rw : ∃ kvs, H d = some (.dK kvs) ∧ Paired (KvR K S) kvs (rowsD m)
  cs : m.c.length ≤ BIG ∧ ∃ vs, H c = some (.lst vs) ∧ Paired (Enc.rep K S) vs m.c
  ls : m.l.length ≤ BIG ∧ ∃ vs, H l = some (.lst vs) ∧ Paired (Enc.rep K S) vs m.l
section
variable {K : PySem.W.Frag} {S H S' H' : Hp} {x d c l : Addr} {m : DMd}
theorem TRep.live (h : TRep K S H x d c l m) : ∀ a ∈ [x, d, c, l], ∃ o, H a = some o := by
  obtain ⟨⟨dx, h1⟩, ⟨kvs, h2, _⟩, ⟨_, vs, h3, _⟩, ⟨_, us, h4, _⟩⟩ := h
  intro a ha
  simp only [List.mem_cons, List.mem_nil_iff, or_false] at ha
  rcases ha with rfl | rfl | rfl | rfl
  · exact ⟨_, h1⟩
  · exact ⟨_, h2⟩
  · exact ⟨_, h3⟩
  · exact ⟨_, h4⟩
theorem TRep.to (h : TRep K S H x d c l m) (s : Same S S') (e : ∀ a ∈ [x, d, c, l], H' a = H a) : TRep K S' H' x d c l m := by
  obtain ⟨⟨dx, h1⟩, ⟨kvs, h2, g2⟩, ⟨l3, vs, h3, g3⟩, ⟨l4, us, h4, g4⟩⟩ := h
  exact ⟨⟨dx, by rw [e x (by simp)]; exact h1⟩, ⟨kvs, by rw [e d (by simp)]; exact h2, Paired.mono (fun _ _ => KvR.mono s) g2⟩, ⟨l3, vs, by rw [e c (by simp)]; exact h3, Paired.mono (fun _ _ => Enc.mono s) g3⟩, ⟨l4, us, by rw [e l (by simp)]; exact h4, Paired.mono (fun _ _ => Enc.mono s) g4⟩⟩
theorem TRep.frz (h : TRep K S H x d c l m) (s : Same S S') (e : ∀ a ∈ [x, d, c, l], S' a = H a) : Enc.rep K S' (.ref x) (TOb.mk m) := by
  obtain ⟨⟨dx, h1⟩, ⟨kvs, h2, g2⟩, ⟨l3, vs, h3, g3⟩, ⟨l4, us, h4, g4⟩⟩ := h
  exact ⟨x, dx, .ref d, .ref c, .ref l, rfl, by rw [e x (by simp)]; exact h1, ⟨by show 3 ≤ 1000; decide, d, kvs, rfl, by rw [e d (by simp)]; exact h2, Paired.mono (fun _ _ => KvR.mono s) g2⟩, ⟨l3, c, vs, rfl, by rw [e c (by simp)]; exact h3, Paired.mono (fun _ _ => Enc.mono s) g3⟩, ⟨l4, l, us, rfl, by rw [e l (by simp)]; exact h4, Paired.mono (fun _ _ => Enc.mono s) g4⟩⟩
end
instance : Reg TOb where
  rep K S H x as o := ∃ d c l, as = [x, d, c, l] ∧ [x, d, c, l].Nodup ∧ TRep K S H x d c l o.m
  live h := by
    obtain ⟨d, c, l, rfl, nd, r⟩ := h
    exact r.live
  to h s e := by
    obtain ⟨d, c, l, rfl, nd, r⟩ := h
    exact ⟨d, c, l, rfl, nd, r.to s e⟩
  frz h s e := by
    obtain ⟨d, c, l, rfl, nd, r⟩ := h
    exact r.frz s e
instance : RegO TOb where
  cn := "Told"
  fl := ["title", "rows", "calls", "links"]
  obj h := by
    obtain ⟨d, c, l, rfl, nd, r⟩ := h
    obtain ⟨dx, hx⟩ := r.ob
    exact ⟨List.mem_cons_self, dx, _, hx, rfl⟩
structure TolC (K : PySem.W.Frag) (C : Addr) : Prop where
  cls : Cls K C
  a1 : PySem.W.findIn K (.ref C) "title" = some none
  a2 : PySem.W.findIn K (.ref C) "rows" = some none
  a3 : PySem.W.findIn K (.ref C) "calls" = some none
  a4 : PySem.W.findIn K (.ref C) "links" = some none
section
variable {K : PySem.W.Frag} {B : Addr → Prop} {ρ : List Slot} {te tk tv : TE} {o : TOb} {t : Nat} {ts : TS}
theorem d_ttitle (GC : TolC K (He.ga K "Told")) (h : DE K B te ρ o) : DE K B (tFld K te "title") ρ o.m.n := fun S0 H0 S H σ E Q q =>
  h S0 H0 S H σ E _ fun v S1 H1 e1 ⟨x, dx, v1, v2, v3, z, hx, h1, h2, h3⟩ => by
    subst z
    exact ⟨x, _, dx, _, _, rfl, e1.i _ _ hx, GC.cls, GC.a1, rfl, q _ S1 H1 e1 rfl⟩
theorem d_trows (GC : TolC K (He.ga K "Told")) (h : DE K B te ρ o) : DE K B (tFld K te "rows") ρ (Dct.mk (rowsD o.m)) := fun S0 H0 S H σ E Q q =>
  h S0 H0 S H σ E _ fun v S1 H1 e1 ⟨x, dx, v1, v2, v3, z, hx, h1, h2, h3⟩ => by
    subst z
    exact ⟨x, _, dx, _, v1, rfl, e1.i _ _ hx, GC.cls, GC.a2, rfl, q _ S1 H1 e1 h1⟩
theorem d_tcalls (GC : TolC K (He.ga K "Told")) (h : DE K B te ρ o) : DE K B (tFld K te "calls") ρ (show L (Str × Str) from o.m.c) := fun S0 H0 S H σ E Q q =>
  h S0 H0 S H σ E _ fun v S1 H1 e1 ⟨x, dx, v1, v2, v3, z, hx, h1, h2, h3⟩ => by
    subst z
    exact ⟨x, _, dx, _, v2, rfl, e1.i _ _ hx, GC.cls, GC.a3, rfl, q _ S1 H1 e1 h2⟩
theorem d_tlinks (GC : TolC K (He.ga K "Told")) (h : DE K B te ρ o) : DE K B (tFld K te "links") ρ (show L Lk from o.m.l) := fun S0 H0 S H σ E Q q =>
  h S0 H0 S H σ E _ fun v S1 H1 e1 ⟨x, dx, v1, v2, v3, z, hx, h1, h2, h3⟩ => by
    subst z
    exact ⟨x, _, dx, _, v3, rfl, e1.i _ _ hx, GC.cls, GC.a4, rfl, q _ S1 H1 e1 h3⟩
theorem reg_keep {S0 H0 S H Sa Ha : Hp} {as : List Addr} {σ : L2.St} (E : En K B S0 H0 S H σ ρ) (e : Ext B S H Sa Ha) (p1 : ∀ a ∈ as, S a = none ∧ H0 a = none) (lv : ∀ a ∈ as, ∃ u, H a = some u) : ∀ q ∈ as, Sa q = none ∧ Ha q = H q := fun q hq => by
  obtain ⟨u, hu⟩ := lv q hq
  obtain ⟨q1, q2⟩ := e.p q (p1 q hq).1 (by rw [hu]; exact fun z => nomatch z)
  refine ⟨q1, ?_⟩
  rcases q2 with z | ⟨z, _⟩
  · exact z
  · exact absurd (p1 q hq).2 (E.bx q z).2.2
theorem dsm_appC {Φ : PostM TOb} {a : Str × Str} (GC : TolC K (He.ga K "Told")) (hv : DEM K B t te ρ o a) (hl : o.m.c.length < BIG) (k : Φ.nx ρ ⟨{ o.m with c := o.m.c ++ [a] }⟩) : DSM K B t (tDrop (tBM K "list" rAppend (tFld K (tVar t) "calls") (tCons te tNil))) ρ o Φ := fun S0 H0 S H σ D x E ht hσ r nx rt => by
  obtain ⟨as, ⟨d, c, l, rfl, nd, tr⟩, p1, p2⟩ := id r
  obtain ⟨dx, hx⟩ := tr.ob
  obtain ⟨_, vs0, hc0, _⟩ := tr.cs
  refine ⟨_, hσ, x, _, dx, _, .ref c, rfl, hx, GC.cls, GC.a3, rfl, .inl ⟨rfl, vs0, SqL.of hc0⟩, ?_⟩
  refine hv S0 H0 S H σ x E ht hσ r _ fun w S1 H1 e1 R1 r1 => ?_
  have k1 := reg_keep E e1 p1 tr.live
  have t1 := tr.to e1.s fun q hq => (k1 q hq).2
  obtain ⟨⟨dx1, hx1⟩, ⟨kvs, h2, g2⟩, ⟨l3, vs, h3, g3⟩, ⟨l4, us, h4, g4⟩⟩ := t1
  have cm : c ∈ [x, d, c, l] := by simp
  have ne : ∀ q, q ∈ [x, d, l] → q ≠ c := fun q hq e => by
    subst e
    simp only [List.nodup_cons, List.mem_cons, List.mem_nil_iff, or_false, not_or] at nd hq
    rcases hq with rfl | rfl | rfl
    · exact nd.1.2.1 rfl
    · exact nd.2.1.1 rfl
    · exact nd.2.2.1 rfl
  refine ⟨c, vs, w, rfl, rfl, h3, ?_, ?_⟩
  · rw [g3.length]
    exact Nat.lt_of_lt_of_le hl big_line
  · refine nx _ _ _ S1 _ k e1.s ((E.go e1).updP (fun i s hi ho hp => p2 i s c hi ho hp cm) (k1 c cm).1 (p1 c cm).2) ht hσ ⟨_, ⟨d, c, l, rfl, nd, ⟨dx1, by rw [upd_ne (ne x (by simp))]; exact hx1⟩, ⟨kvs, by rw [upd_ne (ne d (by simp))]; exact h2, g2⟩, ⟨by show (o.m.c ++ [a]).length ≤ BIG; rw [List.length_append]; exact hl, _, upd_same, Paired.app g3 (.cons r1 .nil)⟩, ⟨l4, us, by rw [upd_ne (ne l (by simp))]; exact h4, g4⟩⟩, fun q hq => ⟨(k1 q hq).1, (p1 q hq).2⟩, p2⟩
theorem dsm_appK {Φ : PostM TOb} {a : Lk} (GC : TolC K (He.ga K "Told")) (hv : DEM K B t te ρ o a) (hl : o.m.l.length < BIG) (k : Φ.nx ρ ⟨{ o.m with l := o.m.l ++ [a] }⟩) : DSM K B t (tDrop (tBM K "list" rAppend (tFld K (tVar t) "links") (tCons te tNil))) ρ o Φ := fun S0 H0 S H σ D x E ht hσ r nx rt => by
  obtain ⟨as, ⟨d, c, l, rfl, nd, tr⟩, p1, p2⟩ := id r
  obtain ⟨dx, hx⟩ := tr.ob
  obtain ⟨_, vs0, hc0, _⟩ := tr.ls
  refine ⟨_, hσ, x, _, dx, _, .ref l, rfl, hx, GC.cls, GC.a4, rfl, .inl ⟨rfl, vs0, SqL.of hc0⟩, ?_⟩
  refine hv S0 H0 S H σ x E ht hσ r _ fun w S1 H1 e1 R1 r1 => ?_
  have k1 := reg_keep E e1 p1 tr.live
  have t1 := tr.to e1.s fun q hq => (k1 q hq).2
  obtain ⟨⟨dx1, hx1⟩, ⟨kvs, h2, g2⟩, ⟨l3, vs, h3, g3⟩, ⟨l4, us, h4, g4⟩⟩ := t1
  have cm : l ∈ [x, d, c, l] := by simp
  have ne : ∀ q, q ∈ [x, d, c] → q ≠ l := fun q hq e => by
    subst e
    simp only [List.nodup_cons, List.mem_cons, List.mem_nil_iff, or_false, not_or] at nd hq
    rcases hq with rfl | rfl | rfl
    · exact nd.1.2.2 rfl
    · exact nd.2.1.2 rfl
    · exact nd.2.2.1 rfl
  refine ⟨l, us, w, rfl, rfl, h4, ?_, ?_⟩
  · rw [g4.length]
    exact Nat.lt_of_lt_of_le hl big_line
  · refine nx _ _ _ S1 _ k e1.s ((E.go e1).updP (fun i s hi ho hp => p2 i s l hi ho hp cm) (k1 l cm).1 (p1 l cm).2) ht hσ ⟨_, ⟨d, c, l, rfl, nd, ⟨dx1, by rw [upd_ne (ne x (by simp))]; exact hx1⟩, ⟨kvs, by rw [upd_ne (ne d (by simp))]; exact h2, g2⟩, ⟨l3, vs, by rw [upd_ne (ne c (by simp))]; exact h3, g3⟩, ⟨by show (o.m.l ++ [a]).length ≤ BIG; rw [List.length_append]; exact hl, _, upd_same, Paired.app g4 (.cons r1 .nil)⟩⟩, fun q hq => ⟨(k1 q hq).1, (p1 q hq).2⟩, p2⟩
theorem dsm_putR {Φ : PostM TOb} {z : Str} {ns : U Str} {m' : DMd} (GC : TolC K (He.ga K "Told")) (hv : DEM K B t te ρ o ns) (hk : DEM K B t tk ρ o z) (hz : z ∈ (rowsD o.m).map (·.1)) (em : rowsD m' = repD (rowsD o.m) z ns) (e1' : m'.n = o.m.n) (e2' : m'.c = o.m.c) (e3' : m'.l = o.m.l) (k : Φ.nx ρ ⟨m'⟩) : DSM K B t (sDPut (tFld K (tVar t) "rows") tk te) ρ o Φ := fun S0 H0 S H σ D x E ht hσ r nx rt => by
  obtain ⟨as, ⟨d, c, l, rfl, nd, tr⟩, p1, p2⟩ := id r
  refine hv S0 H0 S H σ x E ht hσ r _ fun w S1 H1 e1 R1 r1 => ?_
  have k1 := reg_keep E e1 p1 tr.live
  have t1 := tr.to e1.s fun q hq => (k1 q hq).2
  obtain ⟨dx, hx⟩ := t1.ob
  refine ⟨_, hσ, x, _, dx, _, .ref d, rfl, hx, GC.cls, GC.a2, rfl, ?_⟩
  refine hk S0 H0 S1 H1 σ x (E.go e1) ht hσ R1 _ fun y S2 H2 e2 R2 r2 => ?_
  cases r2
  have e12 := e1.trans e2
  have k2 := reg_keep E e12 p1 tr.live
  have t2 := tr.to e12.s fun q hq => (k2 q hq).2
  obtain ⟨⟨dx1, hx1⟩, ⟨kvs, h2, g2⟩, ⟨l3, vs, h3, g3⟩, ⟨l4, us, h4, g4⟩⟩ := t2
  have cm : d ∈ [x, d, c, l] := by simp
  have ne : ∀ q, q ∈ [x, c, l] → q ≠ d := fun q hq e => by
    subst e
    simp only [List.nodup_cons, List.mem_cons, List.mem_nil_iff, or_false, not_or] at nd hq
    rcases hq with rfl | rfl | rfl
    · exact nd.1.1 rfl
    · exact nd.2.1.1 rfl
    · exact nd.2.1.2 rfl
  refine ⟨d, _, rfl, DPut.k (k := Sum.inr z) h2 (by rw [g2.length]; show 3 < sizeLine; decide), ?_⟩
  have an : (kvs.any fun kv => decide (kv.1 = (Sum.inr z : Key))) = true := by
    rw [List.any_eq_true]
    obtain ⟨x, hx, ex⟩ := List.mem_map.mp hz
    have hk : (Sum.inr z : Key) ∈ kvs.map (·.1) := by
      rw [kv_keys g2, ← ex]
      exact List.mem_map.mpr ⟨x, hx, rfl⟩
    obtain ⟨kv, h1, h2⟩ := List.mem_map.mp hk
    exact ⟨kv, h1, decide_eq_true h2⟩
  have pe : putK kvs (Sum.inr z) w = kvs.map (fun kv => if kv.1 = Sum.inr z then (kv.1, w) else kv) := by
    unfold putK
    rw [if_pos an]
  rw [pe]
  refine nx _ _ _ S2 _ k e12.s ((E.go e12).updP (fun i s hi ho hp => p2 i s d hi ho hp cm) (k2 d cm).1 (p1 d cm).2) ht hσ ⟨_, ⟨d, c, l, rfl, nd, ⟨dx1, by show upd H2 d _ x = some (.ins _ dx1 [("title", .str m'.n), _, _, _]); rw [e1', upd_ne (ne x (by simp))]; exact hx1⟩, ⟨_, upd_same, ?_⟩, ?_, ?_⟩, fun q hq => ⟨(k2 q hq).1, (p1 q hq).2⟩, p2⟩
  · show Paired (KvR K S2) _ (rowsD m')
    rw [em]
    exact kv_rep (Enc.mono e2.s r1) g2
  · show m'.c.length ≤ BIG ∧ ∃ vs, upd H2 d _ c = some (.lst vs) ∧ Paired (Enc.rep K S2) vs m'.c
    rw [e2']
    exact ⟨l3, vs, by rw [upd_ne (ne c (by simp))]; exact h3, g3⟩
  · show m'.l.length ≤ BIG ∧ ∃ vs, upd H2 d _ l = some (.lst vs) ∧ Paired (Enc.rep K S2) vs m'.l
    rw [e3']
    exact ⟨l4, us, by rw [upd_ne (ne l (by simp))]; exact h4, g4⟩
end
theorem d_unsome {K : PySem.W.Frag} {B : Addr → Prop} {ρ : List Slot} {te : TE} {α : Type} [Enc α] {a : α} (h : DE K B te ρ (some a)) : DE K B te ρ a := h
def addL (m : DMd) (ws : List Str) : DMd := if wAt ws 0 = "use" then { m with c := m.c ++ [(wAt ws 1, wAt ws 2)] } else
  if wAt ws 0 = "link" then { m with l := m.l ++ (linkIn (ws.drop 1)).toList } else
  if wAt ws 0 = "in" then { m with i := ws.drop 1 } else if wAt ws 0 = "out" then { m with o := ws.drop 1 } else { m with s := ws.drop 1 }
structure AddOk (m : DMd) (ws : List Str) : Prop where
  wk : WsOk ws
  ln : lineB ws = true
  nm : wAt ws 0 ≠ "module"
  cl : m.c.length < BIG
  ll : m.l.length < BIG
theorem line_kinds {ws : List Str} (h : lineB ws = true) : (wAt ws 0 = "link" ∧ (linkIn (ws.drop 1)).isSome = true) ∨ (wAt ws 0 = "module" ∧ ws.length = 2) ∨ (wAt ws 0 = "use" ∧ ws.length = 3) ∨ (wAt ws 0 ∈ (["in", "out", "at"] : List Str) ∧ 2 ≤ ws.length) := by
  unfold lineB at h
  by_cases c1 : wAt ws 0 = "link"
  · rw [if_pos c1] at h
    exact .inl ⟨c1, h⟩
  · rw [if_neg c1] at h
    by_cases c2 : (decide (ws.length < 2) || (!decide (wAt ws 0 ∈ ORD) || !(ws.drop 1).all nameB)) = true
    · rw [if_pos c2] at h
      cases h
    · rw [if_neg c2] at h
      have c2 : (decide (ws.length < 2) || (!decide (wAt ws 0 ∈ ORD) || !(ws.drop 1).all nameB)) = false := by
        revert c2
        cases (decide (ws.length < 2) || (!decide (wAt ws 0 ∈ ORD) || !(ws.drop 1).all nameB)) <;> simp
      rw [Bool.or_eq_false_iff, Bool.or_eq_false_iff] at c2
      have l2 := of_decide_eq_false c2.1
      have om : wAt ws 0 ∈ ORD := of_decide_eq_true (by have := c2.2.1; revert this; cases decide (wAt ws 0 ∈ ORD) <;> simp)
      by_cases c3 : wAt ws 0 = "module"
      · rw [if_pos c3] at h
        exact .inr (.inl ⟨c3, of_decide_eq_true h⟩)
      · rw [if_neg c3] at h
        by_cases c4 : wAt ws 0 = "use"
        · rw [decide_eq_true c4] at h
          exact .inr (.inr (.inl ⟨c4, of_decide_eq_true h⟩))
        · refine .inr (.inr (.inr ⟨?_, by omega⟩))
          simp only [List.mem_cons, List.mem_nil_iff, or_false] at om ⊢
          rcases om with e | e | e | e | e | e
          · exact absurd e c3
          · exact .inl e
          · exact .inr (.inl e)
          · exact .inr (.inr e)
          · exact absurd e c4
          · exact absurd e c1
def dpAdd : TOb → List Slot → (Slot → TOb → Prop) → Prop := fun o ss R => ∃ ws : List Str, ss = [.val ws] ∧ AddOk o.m ws ∧ R (.val ()) ⟨addL o.m ws⟩
section
variable {P : Program} {w : World} {K : PySem.W.Frag} {mg : Str → Option Value} {base : Heap} {f : Addr} {fd : FuncData}
abbrev N_Told_add : List Str := ["self", "words"]
theorem sc_Told_add : FnScope N_Told_add ["self", "words"] (defScope s_Told_add) := ⟨rfl, rfl, rfl, by decide +kernel, rfl, by decide +kernel, by decide +kernel⟩
theorem ok_Told_add (F : FunD K "add" "Told.add" (defArgs s_Told_add) (defBody s_Told_add) (defScope s_Told_add) [] [] f fd) (GC : TolC K (He.ga K "Told")) (m_tuple : mg "tuple" = none) (g_link_in : FnAt P w K mg base CX0 3 "link_in" ["words"] (spT K dpLinkIn)) : FnOk P w K mg base CX0 5 f fd ["self", "words"] (spMut K dpAdd) := by
  refine okM F sc_Told_add (fun w0 ss R h => ?_) (fun cdv A outer s H E hr => ⟨_, (pss_one (ps_if (pt_cmpR op_eq (pe_ix (ix_sqK K) (pv 1) (pe_int) (fun _ _ => rfl)) (pe_str) (nomark _)) (pss_one (ps_expr (pe_bmK K PySem.F.plainAttrs_list PySem.F.slot_list_append PySem.F.type_list_append mt_append (pe_fldK K (pv 0) rfl) (pa_cons (pe_tup (pa_cons (pe_ix (ix_sqK K) (pv 1) (pe_int) (fun _ _ => rfl)) (pa_cons (pe_ix (ix_sqK K) (pv 1) (pe_int) (fun _ _ => rfl)) (pa_nil)))) (pa_nil))))) (pss_one (ps_if (pt_cmpR op_eq (pe_ix (ix_sqK K) (pv 1) (pe_int) (fun _ _ => rfl)) (pe_str) (nomark _)) (pss_one (ps_expr (pe_bmK K PySem.F.plainAttrs_list PySem.F.slot_list_append PySem.F.type_list_append mt_append (pe_fldK K (pv 0) rfl) (pa_cons (pe_fn g_link_in hr rfl (pa_cons (pe_slice (sl_sqK K) (pv 1) (po_some (pe_int)) (po_none)) (pa_nil))) (pa_nil))))) (pss_one (ps_dput (hu_of hr) (pe_fldK K (pv 0) rfl) (pe_ix (ix_sqK K) (pv 1) (pe_int) (fun _ _ => rfl)) (pe_callTy (call_tupleK K) rfl m_tuple (by decide +kernel) (pa_cons (pe_slice (sl_sqK K) (pv 1) (po_some (pe_int)) (po_none)) (pa_nil))) rfl)))))), fun B w0 ss R h => ?_⟩)
  · obtain ⟨z, rfl, _⟩ := h
    rfl
  · obtain ⟨ws, rfl, hw, q⟩ := h
    obtain ⟨m⟩ := w0
    show DSM K B 0 _ [.no, .val ws] (TOb.mk m) _
    have wk := hw.wk
    have cl : m.c.length < BIG := hw.cl
    have ll : m.l.length < BIG := hw.ll
    have atE : ∀ {i : Nat} {ρ : List Slot}, i < ws.length → ρ[1]? = some (.val ws) → DE K B (tOp (rIxQ K) (tVar 1) (tC (.int ((i : Nat) : Int)))) ρ (wAt ws i) := fun hi h => d_ix (d_var h) d_int (wAt_at hi)
    have dl : ∀ {ρ : List Slot}, ρ[1]? = some (.val ws) → DE K B (tSl (rSlQ K) (tVar 1) (tPart (tC (.int 1))) tNoPart) ρ (ws.drop 1) := fun h => DE.is (d_slice (d_var h) (dp_some d_int) dp_none) (cutA_drop (t := 1))
    have t0 : ∀ y : Str, DT K B (tTest (tOp rEq (tOp (rIxQ K) (tVar 1) (tC (.int 0))) (tC (.str y)))) (([.no, .val ws] : List Slot).set 0 (.val (TOb.mk m))) (decide (wAt ws 0 = y)) := fun y => dt_test (d_eq (atE (i := 0) wk.ne rfl) d_str inferInstance inferInstance)
    refine dsm_if (t0 "use") (fun h => ?_) (fun h => ?_)
    · have h := of_decide_eq_true h
      have l3 : ws.length = 3 := by
        rcases line_kinds hw.ln with ⟨e, _⟩ | ⟨e, _⟩ | ⟨_, e⟩ | ⟨e, _⟩
        · rw [h] at e; exact absurd e (by decide)
        · exact absurd e hw.nm
        · exact e
        · rw [h] at e; exact absurd e (by decide)
      refine dsm_appC GC (dem_of (d_pair (atE (i := 1) (by omega) rfl) (atE (i := 2) (by omega) rfl))) cl ?_
      have e : addL m ws = { m with c := m.c ++ [(wAt ws 1, wAt ws 2)] } := if_pos h
      have q : R (.val ()) ⟨addL m ws⟩ := q
      rw [e] at q
      exact q
    · have h := of_decide_eq_false h
      refine dsm_if (t0 "link") (fun h2 => ?_) (fun h2 => ?_)
      · have h2 := of_decide_eq_true h2
        have so : (linkIn (ws.drop 1)).isSome = true := by
          rcases line_kinds hw.ln with ⟨_, e⟩ | ⟨e, _⟩ | ⟨e, _⟩ | ⟨e, _⟩
          · exact e
          · exact absurd e hw.nm
          · exact absurd e h
          · rw [h2] at e; exact absurd e (by decide)
        obtain ⟨kk, hk⟩ := Option.isSome_iff_exists.mp so
        have e : addL m ws = { m with l := m.l ++ (linkIn (ws.drop 1)).toList } := by
          unfold addL
          rw [if_neg h, if_pos h2]
        have q : R (.val ()) ⟨addL m ws⟩ := q
        rw [e, hk] at q
        refine dsm_appK (a := kk) GC (dem_of (d_unsome (DE.is (d_call1 (γ := Option Lk) (dl rfl) ⟨by rw [List.length_drop]; have := wk.len; omega, fun x hx => wk.wl x (List.mem_of_mem_drop hx)⟩) hk))) ll q
      · have h2 := of_decide_eq_false h2
        have dn : ∀ {ρ : List Slot}, ρ[1]? = some (.val ws) → DE K B (tCB (rTupQ K) (tCons (tSl (rSlQ K) (tVar 1) (tPart (tC (.int 1))) tNoPart) tNil)) ρ (show U Str from ws.drop 1) := fun h => d_tuple (dl h)
        have kind : wAt ws 0 ∈ (["in", "out", "at"] : List Str) := by
          rcases line_kinds hw.ln with ⟨e, _⟩ | ⟨e, _⟩ | ⟨e, _⟩ | ⟨e, _⟩
          · exact absurd e h2
          · exact absurd e hw.nm
          · exact absurd e h
          · exact e
        have q : R (.val ()) ⟨addL m ws⟩ := q
        simp only [List.mem_cons, List.mem_nil_iff, or_false] at kind
        refine dsm_putR (m' := addL m ws) GC (dem_of (dn rfl)) (dem_of (atE (i := 0) wk.ne rfl)) ?_ ?_ ?_ ?_ ?_ q
        · show wAt ws 0 ∈ (["in", "out", "at"] : List Str)
          simp only [List.mem_cons, List.mem_nil_iff, or_false]
          exact kind
        · unfold addL
          rw [if_neg h, if_neg h2]
          rcases kind with e | e | e
          · rw [e]; rfl
          · rw [e]; rfl
          · rw [e]; rfl
        · unfold addL
          rw [if_neg h, if_neg h2]
          split <;> first | rfl | (split <;> rfl)
        · unfold addL
          rw [if_neg h, if_neg h2]
          split <;> first | rfl | (split <;> rfl)
        · unfold addL
          rw [if_neg h, if_neg h2]
          split <;> first | rfl | (split <;> rfl)
end
end WW
set_option Elab.async false
set_option linter.all false
set_option maxRecDepth 100000
set_option maxHeartbeats 4000000
namespace WW
open PySem PySem.Spec PyProof.Rows L2
section
variable {α β : Type} [Enc α] {e_β : Enc β} {K : PySem.W.Frag} {B : Addr → Prop} {S H S' H' S1 H1 : Hp} {pd : Addr} {ρ : List Slot} {tk : TE}
theorem RgR.snoc : ∀ {ps : List Addr} {xs : List (Str × List α)} {p : Addr} {z : Str}, RgR K S H ps xs → H p = some (.lst []) → RgR K S H (ps ++ [p]) (xs ++ [(z, [])])
  | [], [], p, z, _, h => ⟨⟨[], h, .nil, Nat.zero_le _⟩, trivial⟩
  | q :: ps, x :: xs, p, z, ⟨h1, h2⟩, h => ⟨h1, h2.snoc h⟩
  | [], _ :: _, _, _, h, _ => h.elim
  | _ :: _, [], _, _, h, _ => h.elim
theorem RgR.len : ∀ {ps : List Addr} {xs : List (Str × List α)}, RgR K S H ps xs → ps.length = xs.length
  | [], [], _ => rfl
  | q :: ps, x :: xs, ⟨_, h2⟩ => by rw [List.length_cons, List.length_cons, h2.len]
  | [], _ :: _, h => h.elim
  | _ :: _, [], h => h.elim
end
end WW
set_option Elab.async false
set_option linter.all false
set_option maxRecDepth 100000
set_option maxHeartbeats 4000000
namespace WW
open PySem PySem.Spec PyProof.Rows L2
structure LDct (α : Type) where
  kv : List (Str × α)
instance {α : Type} [Enc α] : Enc (LDct α) where
  rep K S v d := ∃ p o kvs, v = .ref p ∧ S p = some (.frz o (.dK kvs)) ∧ Paired (KvR K S) kvs d.kv
  mono e h := by
    obtain ⟨p, o, kvs, r, hq, hp⟩ := h
    exact ⟨p, o, kvs, r, e _ _ hq, Paired.mono (fun _ _ => KvR.mono e) hp⟩
def IsDk (o : HO) : Prop := (∃ kvs, o = .dK kvs) ∨ ∃ od kvs, o = .frz od (.dK kvs)
class NoD (α : Type) [Enc α] : Prop where
  upd : ∀ {K : PySem.W.Frag} {S : Hp} {d : Addr} {o o' : HO} {v : V} {a : α}, S d = some o → IsDk o → IsDk o' → Enc.rep K S v a → Enc.rep K (upd S d o') v a
theorem IsDk.ne {S : Hp} {d p : Addr} {o u : HO} (h : S d = some o) (k : IsDk o) (hp : S p = some u) (n : ∀ kvs, u ≠ .dK kvs) (n2 : ∀ od kvs, u ≠ .frz od (.dK kvs)) : p ≠ d := fun e => by
  rw [e, h] at hp
  cases hp
  rcases k with ⟨kvs, e⟩ | ⟨od, kvs, e⟩
  · exact n _ e
  · exact n2 _ _ e
theorem sqT_noD {K : PySem.W.Frag} {S : Hp} {d q : Addr} {o o' : HO} {vs : List V} (h : S d = some o) (k : IsDk o) (hq : SqT K S q vs) : SqT K (upd S d o') q vs := by
  rcases hq with (hq | ⟨u, hq⟩) | hq
  · exact .inl (.inl (by rw [upd_ne (IsDk.ne h k hq (fun _ z => nomatch z) (fun _ _ z => nomatch z))]; exact hq))
  · exact .inl (.inr ⟨u, by rw [upd_ne (IsDk.ne h k hq (fun _ z => nomatch z) (fun _ _ z => nomatch z))]; exact hq⟩)
  · exact .inr hq
theorem paired_noD {α : Type} [Enc α] [i : NoD α] {K : PySem.W.Frag} {S : Hp} {d : Addr} {o o' : HO} (h : S d = some o) (k : IsDk o) (k' : IsDk o') {vs : List V} {xs : List α} (r : Paired (Enc.rep K S) vs xs) : Paired (Enc.rep K (upd S d o')) vs xs :=
  Paired.mono (fun _ _ hr => i.upd h k k' hr) r
instance : NoD Int := ⟨fun _ _ _ r => r⟩
instance : NoD Str := ⟨fun _ _ _ r => r⟩
instance : NoD Bool := ⟨fun _ _ _ r => r⟩
instance {α : Type} [Enc α] [NoD α] : NoD (L α) := ⟨fun h k k' ⟨hl, p, vs, e, hq, r⟩ => ⟨hl, p, vs, e, by rw [upd_ne (IsDk.ne h k hq (fun _ z => nomatch z) (fun _ _ z => nomatch z))]; exact hq, paired_noD h k k' r⟩⟩
instance {α : Type} [Enc α] [NoD α] : NoD (U α) := ⟨fun h k k' ⟨hl, p, vs, e, hq, r⟩ => ⟨hl, p, vs, e, sqT_noD h k hq, paired_noD h k k' r⟩⟩
end WW
set_option Elab.async false
set_option linter.all false
set_option maxRecDepth 100000
set_option maxHeartbeats 4000000
namespace WW
open PySem PySem.Spec PyProof.Rows L2
def putD {α : Type} (xs : List (Str × α)) (z : Str) (a : α) : List (Str × α) := if z ∈ xs.map (·.1) then repD xs z a else xs ++ [(z, a)]
section
variable {K : PySem.W.Frag} {B : Addr → Prop} {S0 H0 S H : Hp} {σ : L2.St} {ρ : List Slot} {te tk tk1 tk2 ta tb tc : TE} {ts : TS} {Φ : Post} {α β γ δ : Type} {e_α : Enc α} {e_β : Enc β} {e_γ : Enc γ} {e_δ : Enc δ} {a : α} {b : β} {c : γ} {z z1 z2 : Str} {n : Nat}
theorem En.put {xs : List (Str × α)} {v : V} (E : En K B S0 H0 S H σ ρ) (hn : ρ[n]? = some (.obj (ownD xs))) (rv : Enc.rep K S v a) (hl : xs.length < 1000) :
    ∃ p H', σ[n]? = some (some (.ref p)) ∧ DPut H p (.str z) v H' ∧ En K B S0 H0 S H' σ (ρ.set n (.obj (ownD (putD xs z a)))) := by
  obtain ⟨p, o, g1, h0, hs, hh, hl', kvs, rfl, rr⟩ := E.obj hn
  refine ⟨p, _, g1, DPut.k (k := Sum.inr z) hh (by rw [rr.length]; exact Nat.lt_trans hl (by decide)), ?_⟩
  by_cases hz : z ∈ xs.map (·.1)
  · have an : (kvs.any fun kv => decide (kv.1 = (Sum.inr z : Key))) = true := by
      rw [List.any_eq_true]
      obtain ⟨x, hx, ex⟩ := List.mem_map.mp hz
      have hk : (Sum.inr z : Key) ∈ kvs.map (·.1) := by
        rw [kv_keys rr, ← ex]
        exact List.mem_map.mpr ⟨x, hx, rfl⟩
      obtain ⟨kv, h1, h2⟩ := List.mem_map.mp hk
      exact ⟨kv, h1, decide_eq_true h2⟩
    have pe : putK kvs (Sum.inr z) v = kvs.map (fun kv => if kv.1 = Sum.inr z then (kv.1, v) else kv) := by
      unfold putK
      rw [if_pos an]
    rw [pe]
    refine E.chgOb hn g1 ⟨?_, _, rfl, ?_⟩
    · unfold putD
      rw [if_pos hz]
      unfold repD
      rw [List.length_map]
      exact hl'
    · unfold putD
      rw [if_pos hz]
      exact kv_rep rv rr
  · rw [putK_new _ (valV_none rr hz)]
    refine E.chgOb hn g1 ⟨?_, _, rfl, ?_⟩
    · unfold putD
      rw [if_neg hz, List.length_append]
      exact hl
    · unfold putD
      rw [if_neg hz]
      exact Paired.app rr (.cons ⟨rfl, rv⟩ .nil)
end
end WW
set_option Elab.async false
set_option linter.all false
set_option maxRecDepth 100000
set_option maxHeartbeats 4000000
namespace WW
open PySem PySem.Spec PyProof.Rows L2
section
variable {α : Type} {e_α : Enc α} {K : PySem.W.Frag} {B : Addr → Prop} {ρ : List Slot} {te : TE} {Φ : Post}
theorem DOb.de {xs : List (Str × α)} (h : DOb K B te ρ (ownD xs)) : DE K B te ρ (Dct.mk xs) := fun S0 H0 S H σ E Q q =>
  h S0 H0 S H σ E Q fun p o S1 H1 e1 hp hs hh r => by
    obtain ⟨hl, kvs, rfl, rr⟩ := r
    exact q _ _ H1 (e1.frz hp E.i hh hs) ⟨hl, p, kvs, rfl, upd_same, Paired.mono (fun _ _ => KvR.mono (same_new hs)) rr⟩
end
end WW
set_option Elab.async false
set_option linter.all false
set_option maxRecDepth 100000
set_option maxHeartbeats 4000000
namespace WW
open PySem PySem.Spec PyProof.Rows L2
section
variable {X : Cx}
theorem pe_revS {e : Expr} {te : TE} {k k2 : Nat} {p1 p2 p3 p4 pos : Pos} (K : PySem.W.Frag) (he : PE X e te) (hK : X.K = K := by rfl) : PE X (.Subscript e (.Slice none none (some (.BinOp (.Constant (.int 0) k p1) .Sub (.Constant (.int 1) k2 p4) p2)) p3) pos) (tRevL K te) := by
  subst hK
  refine ⟨fun pins s σ H Q I h => ?_⟩
  refine Subscript_ (thn (he.run pins s σ H _ I h) fun v s1 ⟨x, H1, I1, r1, q1⟩ => ?_)
  obtain ⟨a, xs, ex, hx, q⟩ := q1
  subst ex
  cases r1
  have hst : PO X (some (.BinOp (.Constant (.int 0) k p1) .Sub (.Constant (.int 1) k2 p4) p2)) (tPart (tOp (rI0 fun i j => .int (i - j)) (tC (.int 0)) (tC (.int 1)))) := po_some (pe_op op_sub pe_int pe_int)
  refine wpAny_Slice (thn (po_none.run pins s1 σ H1 (fun o H2 => o = none ∧ H2 = H1) I1 ⟨rfl, rfl⟩) fun vl s2 ⟨l, H2, I2, pl, el, e2⟩ => ?_)
  subst el e2
  refine thn (po_none.run pins s2 σ H2 (fun o H3 => o = none ∧ H3 = H2) I2 ⟨rfl, rfl⟩) fun vu s3 ⟨u, H3, I3, pu, eu, e3⟩ => ?_
  subst eu e3
  refine thn (hst.run pins s3 σ H3 (fun o H4 => o = some (-1) ∧ H4 = H3) I3 ⟨0, 1, rfl, rfl, -1, rfl, rfl, rfl⟩) fun vs s4 ⟨o, H4, I4, ps, eo, e4⟩ => ?_
  subst eo e4
  have I5 : Inv X pins σ H4 { s4 with heap := s4.heap.push { cls := .type "slice", data := .fields #[vl, vu, vs] } } := I4.kept (t' := s4.toks) fun b ob q => Heap.get?_push_of_some _ q
  obtain ⟨its, r, ht, hz⟩ := I5.list hx
  have hlen := r.length
  show wpAny (model X.prog X.w) X.A (subscriptTail e (.Slice none none (some (.BinOp (.Constant (.int 0) k p1) .Sub (.Constant (.int 1) k2 p4) p2)) p3) (.ref a) (.ref s4.heap.objs.size)) (EP X pins σ Q) X.xe { s4 with heap := s4.heap.push { cls := .type "slice", data := .fields #[vl, vu, vs] } }
  refine tail_any (ops := [.ref a, .ref s4.heap.objs.size]) ht.isList.typeIs (PySem.slot_list_getitem.lookup) ?_ (by with_unfolding_all rfl)
  refine wpAny_getItem_list_slice ht.isList (Heap.IsSliceOf.new _ vl vu vs) pl pu ps (by decide) ?_ (by rw [List.size_toArray]; omega)
  rw [PySem.W.krv_pick]
  refine ⟨.ref _, _, I5.laid (t' := s4.toks) (o := .lst xs.reverse) (fun b ob q => Heap.get?_push_of_some _ q) (Nat.le_refl _) ?_, rfl, q _ (I5.hok.fresh (Nat.le_refl _))⟩
  exact ⟨by rw [List.length_reverse]; exact hz, _, 0, r.reverse, Heap.get?_push_size _ rfl⟩
end
end WW
set_option Elab.async false
set_option linter.all false
set_option maxRecDepth 100000
set_option maxHeartbeats 4000000
namespace WW
open PySem PySem.Spec PyProof.Rows L2
instance {α β : Type} [Enc α] [Enc β] [i : NoD α] [j : NoD β] : NoD (α × β) := ⟨fun h k k' ⟨p, v1, v2, e, hq, r1, r2⟩ => ⟨p, v1, v2, e, sqT_noD h k hq, i.upd h k k' r1, j.upd h k k' r2⟩⟩
instance {α : Type} [Enc α] [i : NoD α] : NoD (Option α) := ⟨fun {K S d o o' v a} h k k' r => by
  cases a with
  | none => exact r
  | some a => exact i.upd h k k' r⟩
section
variable {K : PySem.W.Frag} {B : Addr → Prop} {ρ : List Slot} {te tk tv : TE} {tr : TA} {ts : TS} {Φ : Post} {α β : Type} {e_α : Enc α} {e_β : Enc β} {a : α} {z : Str} {n : Nat} {ss : List Slot} {P : OwnP}
theorem DE.weak {ρ' : List Slot} (h : DE K B te ρ' a) (w : Wk ρ ρ') : DE K B te ρ a := fun S0 H0 S H σ E => h S0 H0 S H σ (E.weak w)
end
end WW
set_option Elab.async false
set_option linter.all false
set_option maxRecDepth 100000
set_option maxHeartbeats 4000000
namespace WW
open PySem PySem.Spec PyProof.Rows L2
section
variable {α : Type} [Enc α] {K : PySem.W.Frag} {B : Addr → Prop} {S0 H0 S H S' H' S1 H1 : Hp} {pd : Addr}
def setD (xs : List (Str × List α)) (z : Str) (i : Nat) (a : α) : List (Str × List α) := xs.map fun p => if p.1 = z then (p.1, p.2.set i a) else p
theorem setD_not {xs : List (Str × List α)} {z : Str} {i : Nat} {a : α} (h : z ∉ xs.map (·.1)) : setD xs z i a = xs := by
  unfold setD
  conv => rhs; rw [← List.map_id xs]
  refine List.map_congr_left fun p hp => ?_
  rw [if_neg]
  · rfl
  · intro e
    exact h (List.mem_map.mpr ⟨p, hp, e⟩)
theorem RgR.set : ∀ {ps : List Addr} {xs : List (Str × List α)} {z : Str} {ys : List α}, RgR K S H ps xs → ps.Nodup → (xs.map (·.1)).Nodup → (Dct.mk xs).get z = some ys →
    ∃ p vs, p ∈ ps ∧ valV (dkv xs ps) (Sum.inr z) = some (.ref p) ∧ H p = some (.lst vs) ∧ Paired (Enc.rep K S) vs ys ∧ ys.length ≤ BIG ∧ ∀ i w a, Enc.rep K S w a → RgR K S (upd H p (.lst (vs.set i w))) ps (setD xs z i a)
  | [], [], z, ys, _, _, _, h => by cases h
  | p :: ps, x :: xs, z, ys, ⟨⟨vs, h1, h2, h3⟩, r⟩, nd, kn, h => by
    rw [List.nodup_cons] at nd
    rw [List.map_cons, List.nodup_cons] at kn
    rw [dget_cons] at h
    by_cases c : x.1 = z
    · rw [if_pos c] at h
      cases h
      refine ⟨p, vs, List.mem_cons_self, valV_pos (by rw [← c]), h1, h2, h3, fun i w a ra => ?_⟩
      show RgR K S _ (p :: ps) ((if x.1 = z then (x.1, x.2.set i a) else x) :: setD xs z i a)
      rw [if_pos c, setD_not (by rw [← c]; exact kn.1)]
      refine ⟨⟨_, upd_same, Paired.set ra i h2, by rw [List.length_set]; exact h3⟩, r.to (Same.refl S) fun q hq => upd_ne fun e => nd.1 (by rw [← e]; exact hq)⟩
    · rw [if_neg c] at h
      obtain ⟨q, us, g1, g2, g3, g4, g5, g6⟩ := r.set nd.2 kn.2 h
      refine ⟨q, us, List.mem_cons_of_mem _ g1, by rw [dkv, valV_neg (by intro e; exact c (by injection e))]; exact g2, g3, g4, g5, fun i w a ra => ?_⟩
      show RgR K S _ (p :: ps) ((if x.1 = z then (x.1, x.2.set i a) else x) :: setD xs z i a)
      rw [if_neg c]
      exact ⟨⟨vs, by rw [upd_ne (fun e => nd.1 (by rw [e]; exact g1))]; exact h1, h2, h3⟩, g6 i w a ra⟩
  | [], _ :: _, _, _, h, _, _, _ => h.elim
  | _ :: _, [], _, _, h, _, _, _ => h.elim
theorem RgR.put : ∀ {ps : List Addr} {xs : List (Str × List α)} {p : Addr} {z : Str} {vs : List V} {ys : List α}, RgR K S H ps xs → H p = some (.lst vs) → Paired (Enc.rep K S) vs ys → ys.length ≤ BIG → RgR K S H (ps ++ [p]) (xs ++ [(z, ys)])
  | [], [], p, z, vs, ys, _, h, r, l => ⟨⟨vs, h, r, l⟩, trivial⟩
  | q :: ps, x :: xs, p, z, vs, ys, ⟨h1, h2⟩, h, r, l => ⟨h1, h2.put h r l⟩
  | [], _ :: _, _, _, _, _, h, _, _, _ => h.elim
  | _ :: _, [], _, _, _, _, h, _, _, _ => h.elim
end
section
variable {ω : Type} [Enc ω] [Reg ω] {K : PySem.W.Frag} {B : Addr → Prop} {ρ ρ' : List Slot} {w : ω} {t n : Nat} {ta tb te tk ti : TE} {tt : TT} {tr : TA} {ts tu tz : TS} {β : Type} {e_β : Enc β} {b : β} {i : Int} {ss : List Slot}
def DSB (K : PySem.W.Frag) (B : Addr → Prop) (t : Nat) (ts : TS) (ρ : List Slot) (w : ω) (Φ : PostM ω) (bk : List Slot → ω → Prop) : Prop := ∀ S0 H0 S H σ (D : Ends) x, En K B S0 H0 S H σ ρ → ρ[t]? = some .no → σ[t]? = some (some (.ref x)) → RgG K H0 S H x w σ ρ →
  (∀ ρ' w' σ' S' H', Φ.nx ρ' w' → Same S S' → En K B S0 H0 S' H' σ' ρ' → ρ'[t]? = some .no → σ'[t]? = some (some (.ref x)) → RgG K H0 S' H' x w' σ' ρ' → D.nx σ' H') →
  (∀ ρ' w' σ' S' H', bk ρ' w' → Same S S' → En K B S0 H0 S' H' σ' ρ' → ρ'[t]? = some .no → σ'[t]? = some (some (.ref x)) → RgG K H0 S' H' x w' σ' ρ' → D.bk σ' H') →
  (∀ s o v S' H', Φ.rt s o → Ext B S0 H0 S' H' → SlotOk K B H0 S' H' (some v) s → (∀ w', o = some w' → RgG K H0 S' H' x w' [] []) → D.rt v H') → ts D σ H
theorem DSM.brk {Φ : PostM ω} {bk : List Slot → ω → Prop} (h : DSM K B t ts ρ w Φ) : DSB K B t ts ρ w Φ bk := fun S0 H0 S H σ D x E ht hσ r nx _ rt => h S0 H0 S H σ D x E ht hσ r nx rt
theorem dsm_forB {Φ : PostM ω} {wi : TI} {g : TG} {xs : List β} (hi : DI K B wi ρ xs) (I : Nat → List Slot → ω → Prop) (h0 : I 0 ρ w)
    (hs : ∀ i x ρ1 w1, xs[i]? = some x → I i ρ1 w1 → ∃ ρ2 js, DG K B g x ρ1 ρ2 js ∧ OwnSub ρ1 ρ2 js ∧ t ∉ js ∧ ρ2[t]? = ρ1[t]? ∧ DSB K B t ts ρ2 w1 ⟨I (i + 1), Φ.rt⟩ Φ.nx) (hd : ∀ ρ1 w1, I xs.length ρ1 w1 → Φ.nx ρ1 w1) : DSM K B t (tFor wi g ts) ρ w Φ := fun S0 H0 S H σ D x E ht hσ r n rt => by
  have hb : ∀ q, B q → H0 q ≠ none := fun q hq => (E.bx q hq).2.2
  refine hi S0 H0 S H σ E _ fun J S1 H1 e1 y => ?_
  have E1 := E.go e1
  have R1 := r.ext e1 hb
  refine ⟨fun i m σ' Hc => m = xs.length - i ∧ i ≤ xs.length ∧ ∃ ρ' w' Sc, I i ρ' w' ∧ Same S1 Sc ∧ En K B S0 H0 Sc Hc σ' ρ' ∧ ρ'[t]? = some .no ∧ σ'[t]? = some (some (.ref x)) ∧ RgG K H0 Sc Hc x w' σ' ρ', ⟨xs.length, by simp, Nat.zero_le _, ρ, w, S1, h0, Same.refl _, E1, ht, hσ, R1⟩, ?_⟩
  rintro i m σ' Hc ⟨rfl, hle, ρ', w', Sc, hI, sm, E', ht', hσ', r'⟩
  have yy := y Sc Hc sm E'.ext
  by_cases hlt : i < xs.length
  · refine .inr ?_
    obtain ⟨z, hx⟩ : ∃ z, xs[i]? = some z := ⟨_, List.getElem?_eq_getElem hlt⟩
    obtain ⟨hgo, hy⟩ := yy.1 i z hx
    refine ⟨hgo, fun σ2 H2 => ∃ ρ2 w2 S3, I (i + 1) ρ2 w2 ∧ Same S1 S3 ∧ En K B S0 H0 S3 H2 σ2 ρ2 ∧ ρ2[t]? = some .no ∧ σ2[t]? = some (some (.ref x)) ∧ RgG K H0 S3 H2 x w2 σ2 ρ2, fun σ2 H2 hp => ⟨xs.length - (i + 1), by omega, rfl, hlt, hp⟩, fun v H' hyl => ?_⟩
    obtain ⟨S3, e3, r3⟩ := hy v H' hyl
    obtain ⟨ρ2, js, hg, ow, hj, ht2, hbb⟩ := hs i z ρ' w' hx hI
    refine hg S0 H0 S3 H' σ' v (E'.go e3) r3 _ fun σ2 E2 l2 f2 => ?_
    refine hbb S0 H0 S3 H' σ2 _ x E2 (ht2.trans ht') ((f2 t hj).trans hσ') ((r'.ext e3 hb).sub ow f2) (fun ρ3 w3 σ3 S4 H3 q s E3 ht3 hσ3 r3 => ⟨ρ3, w3, S4, q, (sm.trans e3.s).trans s, E3, ht3, hσ3, r3⟩) (fun ρ3 w3 σ3 S4 H3 q s E3 ht3 hσ3 r3 => n ρ3 w3 σ3 S4 H3 q (((e1.s.trans sm).trans e3.s).trans s) E3 ht3 hσ3 r3) rt
  · refine .inl ⟨?_, ?_⟩
    · rw [show i = xs.length by omega]
      exact yy.2
    · rw [show i = xs.length by omega] at hI
      exact n ρ' w' σ' Sc Hc (hd ρ' w' hI) (e1.s.trans sm) E' ht' hσ' r'
theorem dsm_forI {Φ : PostM ω} {wi : TI} {g : TG} {xs : List β} (hi : DI K B wi ρ xs) (I : Nat → List Slot → ω → Prop) (h0 : I 0 ρ w)
    (hs : ∀ i x ρ1 w1, xs[i]? = some x → I i ρ1 w1 → ∃ ρ2 js, DG K B g x ρ1 ρ2 js ∧ OwnSub ρ1 ρ2 js ∧ t ∉ js ∧ ρ2[t]? = ρ1[t]? ∧ DSM K B t ts ρ2 w1 ⟨I (i + 1), Φ.rt⟩) (hd : ∀ ρ1 w1, I xs.length ρ1 w1 → Φ.nx ρ1 w1) : DSM K B t (tFor wi g ts) ρ w Φ :=
  dsm_forB hi I h0 (fun i x ρ1 w1 hx hI => by
    obtain ⟨ρ2, js, h1, h2, h3, h4, h5⟩ := hs i x ρ1 w1 hx hI
    exact ⟨ρ2, js, h1, h2, h3, h4, h5.brk⟩) hd
end
end WW
set_option Elab.async false
set_option linter.all false
set_option maxRecDepth 100000
set_option maxHeartbeats 4000000
namespace WW
open PySem PySem.Spec PyProof.Rows L2
instance : OfCls TOb where
  cn := "Told"
  fl := ["title", "rows", "calls", "links"]
  is h := by
    obtain ⟨x, dx, _, _, _, rfl, hx, _⟩ := h
    exact ⟨x, dx, _, rfl, hx, rfl⟩
structure A6 where
  m : DMd
instance : Enc A6 where
  rep K S v o := ∃ p v1 v2 v3 v4 v5 v6, v = .ref p ∧ SqT K S p [v1, v2, v3, v4, v5, v6] ∧ Enc.rep K S v1 o.m.n ∧ Enc.rep K S v2 (show U Str from o.m.i) ∧ Enc.rep K S v3 (show U Str from o.m.o) ∧ Enc.rep K S v4 (show U Str from o.m.s) ∧ Enc.rep K S v5 (show U Lk from o.m.l) ∧ Enc.rep K S v6 (show U (Str × Str) from o.m.c)
  mono e h := by
    obtain ⟨p, v1, v2, v3, v4, v5, v6, r, hq, h1, h2, h3, h4, h5, h6⟩ := h
    exact ⟨p, v1, v2, v3, v4, v5, v6, r, Evl.ex_t e hq, Enc.mono e h1, Enc.mono e h2, Enc.mono e h3, Enc.mono e h4, Enc.mono e h5, Enc.mono e h6⟩
section
variable {K : PySem.W.Frag} {B : Addr → Prop} {ρ : List Slot} {ta tb tc td te tf : TE} {m : DMd}
theorem d_six (h1 : DE K B ta ρ m.n) (h2 : DE K B tb ρ (show U Str from m.i)) (h3 : DE K B tc ρ (show U Str from m.o)) (h4 : DE K B td ρ (show U Str from m.s)) (h5 : DE K B te ρ (show U Lk from m.l)) (h6 : DE K B tf ρ (show U (Str × Str) from m.c)) :
    DE K B (tTup (tCons ta (tCons tb (tCons tc (tCons td (tCons te (tCons tf tNil))))))) ρ (A6.mk m) := fun S0 H0 S H σ E Q q =>
  h1 S0 H0 S H σ E _ fun x1 S1 H1 e1 r1 => h2 S0 H0 S1 H1 σ (E.go e1) _ fun x2 S2 H2 e2 r2 => h3 S0 H0 S2 H2 σ (E.go (e1.trans e2)) _ fun x3 S3 H3 e3 r3 => h4 S0 H0 S3 H3 σ (E.go ((e1.trans e2).trans e3)) _ fun x4 S4 H4 e4 r4 =>
  h5 S0 H0 S4 H4 σ (E.go (((e1.trans e2).trans e3).trans e4)) _ fun x5 S5 H5 e5 r5 => h6 S0 H0 S5 H5 σ (E.go ((((e1.trans e2).trans e3).trans e4).trans e5)) _ fun x6 S6 H6 e6 r6 => by
    refine ⟨by show 6 ≤ sizeLine; decide, fun p hp => ?_⟩
    have i6 := ((((((E.go e1).go e2).go e3).go e4).go e5).go e6).i
    have e7 : Ext B S6 H6 (upd S6 p (.tup [x1, x2, x3, x4, x5, x6])) (upd H6 p (.tup [x1, x2, x3, x4, x5, x6])) := Ext.new i6 hp
    exact q (.ref p) _ _ ((((((e1.trans e2).trans e3).trans e4).trans e5).trans e6).trans e7) ⟨p, x1, x2, x3, x4, x5, x6, rfl, SqT.of upd_same, Enc.mono (((((e2.s.trans e3.s).trans e4.s).trans e5.s).trans e6.s).trans e7.s) r1, Enc.mono ((((e3.s.trans e4.s).trans e5.s).trans e6.s).trans e7.s) r2, Enc.mono (((e4.s.trans e5.s).trans e6.s).trans e7.s) r3, Enc.mono ((e5.s.trans e6.s).trans e7.s) r4, Enc.mono (e6.s.trans e7.s) r5, Enc.mono e7.s r6⟩
end
section
variable {P : Program} {w : World} {K : PySem.W.Frag} {mg : Str → Option Value} {base : Heap} {f : Addr} {fd : FuncData}
def noTold (z : Str) : DMd := ⟨z, [], [], [], [], []⟩
def dpTolI : List Slot → (TOb → Prop) → Prop := fun ss R => ∃ z : Str, ss = [.val z] ∧ R ⟨noTold z⟩
abbrev N_Told___init__ : List Str := ["self", "name"]
theorem sc_Told___init__ : FnScope N_Told___init__ ["self", "name"] (defScope s_Told___init__) := ⟨rfl, rfl, rfl, by decide +kernel, rfl, by decide +kernel, by decide +kernel⟩
theorem ok_Told_init {dvs : List V} (F : FunD K "__init__" "Told.__init__" (defArgs s_Told___init__) (defBody s_Told___init__) (defScope s_Told___init__) dvs [] f fd) (GC : TolC K (He.ga K "Told")) :
    FnOk P w K mg base (L2.CX P w) 2 f fd ["self", "name"] (spInitG K (He.ga K "Told") dpTolI) := by
  refine F.ok sc_Told___init__ (fun vs H Q E h => ?_) (fun cdv A outer s H vs Q E hr h => ?_)
  · obtain ⟨S, x, dx, ss, R, _, _, _, ha, _, ⟨z, rfl, _⟩, _⟩ := h
    rw [ha.length]
    rfl
  · obtain ⟨S, x, dx, ss, R, si, sx, hx, ha, hp, ⟨z, rfl, hR⟩, q⟩ := h
    refine ⟨_, (pss_cons (ps_fld (pv 0) (pv 1) rfl)
 (pss_cons (ps_fld (pv 0) (pe_disp (pps_cons (pe_str) (pe_tup (pa_nil)) (pps_cons (pe_str) (pe_tup (pa_nil)) (pps_cons (pe_str) (pe_tup (pa_nil)) (pps_nil)))) (by rfl) (by rfl) (fun z => by cases z) (by decide)) rfl)
 (pss_cons (ps_fld (pv 0) (pe_lst (pa_nil)) rfl)
 (pss_one (ps_fld (pv 0) (pe_lst (pa_nil)) rfl))))), ?_⟩
    have E0 := start_en (N := N_Told___init__) si (fun p hp => hp.elim) ha
    have E0 : En K noB S H S H _ [.val (V.ref x), .val z] := E0
    generalize L2.start _ vs = σ0 at E0 ⊢
    have hv : ∀ s ∈ ([.val (V.ref x), .val z] : List Slot), s.plain = true := by simp [Slot.plain]
    have st0 : Self K (He.ga K "Told") x dx S H [] [.val (V.ref x), .val z] S H σ0 := ⟨Off.refl si sx, hx, E0⟩
    have gx : σ0[0]? = some (some (V.ref x)) := by
      obtain ⟨vx, gx, wx⟩ := st0.en.val (i := 0) rfl
      cases wx
      exact gx
    obtain ⟨vz, gz, wz⟩ := st0.en.val (i := 1) rfl
    cases (show vz = V.str z from wz)
    obtain ⟨_, st1⟩ := st0.put (fs' := putF "title" (.str z) []) hv (Ext.refl st0.en.i)
    refine ⟨_, gz, _, gx, x, He.ga K "Told", dx, _, rfl, st0.hx, GC.cls, GC.a1, by decide, ?_⟩
    generalize hH1 : upd H x (.ins (He.ga K "Told") dx (putF "title" (.str z) [])) = H1 at st1 ⊢
    have tuE : DE K noB (tTup tNil) [.val (V.ref x), .val z] (show U Str from []) := d_tupU (e_α := inferInstance) (xs := ([] : List Str)) (dl_nil (e_α := inferInstance)) (Nat.zero_le _)
    try unfold tSeq
    try dsimp only
    show sFld K (tVar 0) _ "rows" _ σ0 H1
    refine (do_disp (K := K) (B := noB) (ρ := [.val (V.ref x), .val z]) (xs := rowsD (noTold z)) (dps_cons d_str tuE (dps_cons d_str tuE (dps_cons d_str tuE dps_nil))) (by show (["in", "out", "at"] : List Str).Nodup; decide +kernel) (by show 3 ≤ 15; decide)) S H1 S H1 σ0 st1.en _ fun d o S2 H2 e2 hd sd hd2 ro => ?_
    obtain ⟨_, kvs, rfl, rk⟩ := ro
    obtain ⟨hx2, st2⟩ := st1.put (fs' := putF "rows" (.ref d) (putF "title" (.str z) [])) hv e2
    refine ⟨_, gx, x, He.ga K "Told", dx, _, rfl, hx2, GC.cls, GC.a2, by show 1 < 1000; decide, ?_⟩
    have ndx : d ≠ x := fun e => by rw [e, st1.hx] at hd; cases hd
    have hd3 : upd H2 x (.ins (He.ga K "Told") dx (putF "rows" (.ref d) (putF "title" (.str z) []))) d = some (.dK kvs) := by rw [upd_ne ndx]; exact hd2
    generalize hH2 : upd H2 x (.ins (He.ga K "Told") dx (putF "rows" (.ref d) (putF "title" (.str z) []))) = H3 at st2 hd3 ⊢
    try unfold tSeq
    try dsimp only
    show sFld K (tVar 0) _ "calls" _ σ0 H3
    refine (do_nil (K := K) (B := noB) (ρ := [.val (V.ref x), .val z]) (Str × Str)) S2 H3 S2 H3 σ0 st2.en _ fun c vs1 S4 H4 e4 hc sc hc4 rc _ => ?_
    cases rc
    obtain ⟨hx4, st4⟩ := st2.put (fs' := putF "calls" (.ref c) (putF "rows" (.ref d) (putF "title" (.str z) []))) hv e4
    refine ⟨_, gx, x, He.ga K "Told", dx, _, rfl, hx4, GC.cls, GC.a3, by show 2 < 1000; decide, ?_⟩
    have ncx : c ≠ x := fun e => by rw [e, st2.hx] at hc; cases hc
    have ncd : c ≠ d := fun e => by rw [e, hd3] at hc; cases hc
    have kp : ∀ {Sa Ha Sb Hb : Hp} {q : Addr} {u : HO}, Ext noB Sa Ha Sb Hb → Sa q = none → Ha q = some u → Sb q = none ∧ Hb q = some u := fun e h1 h2 => by
      obtain ⟨g1, g2⟩ := e.p _ h1 (by rw [h2]; exact fun z => nomatch z)
      refine ⟨g1, ?_⟩
      rcases g2 with z | ⟨z, _⟩
      · rw [z]; exact h2
      · exact z.elim
    obtain ⟨sd4, hd4⟩ := kp e4 sd hd3
    have hd5 : upd H4 x (.ins (He.ga K "Told") dx (putF "calls" (.ref c) (putF "rows" (.ref d) (putF "title" (.str z) [])))) d = some (.dK kvs) := by rw [upd_ne ndx]; exact hd4
    have hc5 : upd H4 x (.ins (He.ga K "Told") dx (putF "calls" (.ref c) (putF "rows" (.ref d) (putF "title" (.str z) [])))) c = some (.lst []) := by rw [upd_ne ncx]; exact hc4
    generalize hH4 : upd H4 x (.ins (He.ga K "Told") dx (putF "calls" (.ref c) (putF "rows" (.ref d) (putF "title" (.str z) [])))) = H5 at st4 hd5 hc5 ⊢
    try unfold tSeq
    try dsimp only
    show sFld K (tVar 0) _ "links" _ σ0 H5
    refine (do_nil (K := K) (B := noB) (ρ := [.val (V.ref x), .val z]) Lk) S4 H5 S4 H5 σ0 st4.en _ fun l vs2 S6 H6 e6 hl sl hl6 rl _ => ?_
    cases rl
    obtain ⟨hx6, st6⟩ := st4.put (fs' := putF "links" (.ref l) (putF "calls" (.ref c) (putF "rows" (.ref d) (putF "title" (.str z) [])))) hv e6
    refine ⟨_, gx, x, He.ga K "Told", dx, _, rfl, hx6, GC.cls, GC.a4, by show 3 < 1000; decide, ?_⟩
    have nlx : l ≠ x := fun e => by rw [e, st4.hx] at hl; cases hl
    have nld : l ≠ d := fun e => by rw [e, hd5] at hl; cases hl
    have nlc : l ≠ c := fun e => by rw [e, hc5] at hl; cases hl
    obtain ⟨sd6, hd6⟩ := kp e6 sd4 hd5
    obtain ⟨sc6, hc6⟩ := kp e6 sc hc5
    have fr : ∀ {Sa Ha : Hp} {q : Addr}, Self K (He.ga K "Told") x dx S H (putF "title" (.str z) []) [.val (V.ref x), .val z] Sa Ha σ0 → Ha q = none → H q = none := fun st h => st.off.free si (by rw [st.hx]; exact fun z => nomatch z) h
    have hnx : ∀ {Sa Ha : Hp}, Off x S H Sa Ha → Ha x ≠ none → ∀ q, Ha q = none → H q = none := fun o n q h => o.free si n h
    have n1 : H1 x ≠ none := by rw [st1.hx]; exact fun z => nomatch z
    have n2 : H3 x ≠ none := by rw [st2.hx]; exact fun z => nomatch z
    have n4 : H5 x ≠ none := by rw [st4.hx]; exact fun z => nomatch z
    refine q S6 _ [x, d, c, l] ⟨noTold z⟩ st6.off ⟨d, c, l, rfl, ?_, ⟨⟨dx, upd_same⟩, ⟨kvs, by rw [upd_ne ndx]; exact hd6, Paired.mono (fun _ _ => KvR.mono (e4.s.trans e6.s)) rk⟩, ⟨Nat.zero_le _, [], by rw [upd_ne ncx]; exact hc6, .nil⟩, ⟨Nat.zero_le _, [], by rw [upd_ne nlx]; exact hl6, .nil⟩⟩⟩ (fun a ha => ?_) hR
    · simp only [List.nodup_cons, List.mem_cons, List.mem_nil_iff, or_false, not_or]
      exact ⟨⟨Ne.symm ndx, Ne.symm ncx, Ne.symm nlx⟩, ⟨Ne.symm ncd, Ne.symm nld⟩, Ne.symm nlc, fun z => z, List.nodup_nil⟩
    · simp only [List.mem_cons, List.mem_nil_iff, or_false] at ha
      rcases ha with rfl | rfl | rfl | rfl
      · exact ⟨st6.off.x0, .inl rfl⟩
      · exact ⟨sd6, .inr (hnx st1.off n1 _ hd)⟩
      · exact ⟨sc6, .inr (hnx st2.off n2 _ hc)⟩
      · exact ⟨sl, .inr (hnx st4.off n4 _ hl)⟩
abbrev dpArgs := dp1 (fun _ : TOb => True) fun o => A6.mk o.m
abbrev N_Told_arguments : List Str := ["self"]
theorem sc_Told_arguments : FnScope N_Told_arguments ["self"] (defScope s_Told_arguments) := ⟨rfl, rfl, rfl, by decide +kernel, rfl, by decide +kernel, by decide +kernel⟩
theorem ok_Told_arguments (F : FunD K "arguments" "Told.arguments" (defArgs s_Told_arguments) (defBody s_Told_arguments) (defScope s_Told_arguments) [] [] f fd) (GC : TolC K (He.ga K "Told")) (m_tuple : mg "tuple" = none) : FnOk P w K mg base CX0 1 f fd ["self"] (spT K dpArgs) := by
  refine okT F sc_Told_arguments (fun ss R h => ?_) (fun cdv A outer s H E hr => ⟨_, (pss_one (ps_ret (pe_tup (pa_cons (pe_fldK K (pv 0) rfl) (pa_cons (pe_dget (hu_of hr) (pe_fldK K (pv 0) rfl) (pe_str) (fun _ _ => rfl)) (pa_cons (pe_dget (hu_of hr) (pe_fldK K (pv 0) rfl) (pe_str) (fun _ _ => rfl)) (pa_cons (pe_dget (hu_of hr) (pe_fldK K (pv 0) rfl) (pe_str) (fun _ _ => rfl)) (pa_cons (pe_callTy (call_tupleK K) rfl m_tuple (by decide +kernel) (pa_cons (pe_fldK K (pv 0) rfl) (pa_nil))) (pa_cons (pe_callTy (call_tupleK K) rfl m_tuple (by decide +kernel) (pa_cons (pe_fldK K (pv 0) rfl) (pa_nil))) (pa_nil)))))))))), fun B ss R h => ?_⟩)
  · obtain ⟨x, rfl, _⟩ := h
    rfl
  · obtain ⟨o, rfl, _, q⟩ := h
    show DS K B _ [.val o] _
    exact ds_ret (d_six (m := o.m) (d_ttitle GC (d_var (a := o) rfl)) (d_getD (α := U Str) (a := (show U Str from o.m.i)) (d_trows GC (d_var (a := o) rfl)) d_str rfl) (d_getD (α := U Str) (a := (show U Str from o.m.o)) (d_trows GC (d_var (a := o) rfl)) d_str rfl) (d_getD (α := U Str) (a := (show U Str from o.m.s)) (d_trows GC (d_var (a := o) rfl)) d_str rfl) (d_tuple (d_Lq (d_tlinks GC (d_var (a := o) rfl)))) (d_tuple (d_Lq (d_tcalls GC (d_var (a := o) rfl))))) q
end
end WW
set_option Elab.async false
set_option linter.all false
set_option maxRecDepth 100000
set_option maxHeartbeats 4000000
namespace WW
open PySem PySem.Spec PyProof.Rows L2
abbrev A4 := Addr × Addr × Addr × Addr
def four (b : A4) : List Addr := [b.1, b.2.1, b.2.2.1, b.2.2.2]
def RgT (K : PySem.W.Frag) (S H : Hp) : List A4 → List DMd → Prop
  | [], [] => True
  | b :: bs, m :: ms => TRep K S H b.1 b.2.1 b.2.2.1 b.2.2.2 m ∧ RgT K S H bs ms
  | _, _ => False
section
variable {K : PySem.W.Frag} {S H S' H' : Hp}
theorem RgT.to : ∀ {bs : List A4} {ms : List DMd}, RgT K S H bs ms → Same S S' → (∀ a ∈ bs.flatMap four, H' a = H a) → RgT K S' H' bs ms
  | [], [], _, _, _ => trivial
  | b :: bs, m :: ms, ⟨h, r⟩, s, e => ⟨h.to s fun q hq => e q (List.mem_append_left _ hq), r.to s fun q hq => e q (List.mem_append_right _ hq)⟩
  | [], _ :: _, h, _, _ => h.elim
  | _ :: _, [], h, _, _ => h.elim
theorem RgT.live : ∀ {bs : List A4} {ms : List DMd}, RgT K S H bs ms → ∀ a ∈ bs.flatMap four, ∃ o, H a = some o
  | [], [], _, a, h => nomatch h
  | b :: bs, m :: ms, ⟨h, r⟩, a, ha => by
    rcases List.mem_append.mp (show a ∈ four b ++ bs.flatMap four from ha) with z | z
    · exact h.live a z
    · exact r.live a z
  | [], _ :: _, h, _, _ => h.elim
  | _ :: _, [], h, _, _ => h.elim
theorem RgT.frz : ∀ {bs : List A4} {ms : List DMd}, RgT K S H bs ms → Same S S' → (∀ a ∈ bs.flatMap four, S' a = H a) → Paired (fun v (o : TOb) => Enc.rep K S' v o) (bs.map fun b => V.ref b.1) (ms.map TOb.mk)
  | [], [], _, _, _ => .nil
  | b :: bs, m :: ms, ⟨h, r⟩, s, e => .cons (h.frz s fun q hq => e q (List.mem_append_left _ hq)) (r.frz s fun q hq => e q (List.mem_append_right _ hq))
  | [], _ :: _, h, _, _ => h.elim
  | _ :: _, [], h, _, _ => h.elim
theorem RgT.len : ∀ {bs : List A4} {ms : List DMd}, RgT K S H bs ms → bs.length = ms.length
  | [], [], _ => rfl
  | b :: bs, m :: ms, ⟨_, r⟩ => by rw [List.length_cons, List.length_cons, r.len]
  | [], _ :: _, h => h.elim
  | _ :: _, [], h => h.elim
theorem RgT.snoc : ∀ {bs : List A4} {ms : List DMd} {b : A4} {m : DMd}, RgT K S H bs ms → TRep K S H b.1 b.2.1 b.2.2.1 b.2.2.2 m → RgT K S H (bs ++ [b]) (ms ++ [m])
  | [], [], b, m, _, h => ⟨h, trivial⟩
  | b :: bs, m :: ms, _, _, ⟨h, r⟩, g => ⟨h, r.snoc g⟩
  | [], _ :: _, _, _, h, _ => h.elim
  | _ :: _, [], _, _, h, _ => h.elim
theorem RgT.last : ∀ {bs : List A4} {ms : List DMd} {m : DMd}, RgT K S H bs (ms ++ [m]) → ∃ bs' b, bs = bs' ++ [b] ∧ RgT K S H bs' ms ∧ TRep K S H b.1 b.2.1 b.2.2.1 b.2.2.2 m
  | [], [], m, h => h.elim
  | [], _ :: _, m, h => h.elim
  | [b], [], m, ⟨h, r⟩ => ⟨[], b, rfl, trivial, h⟩
  | b :: c :: bs, [], m, ⟨h, r⟩ => r.elim
  | b :: bs, n :: ms, m, ⟨h, r⟩ => by
    obtain ⟨bs', b', e, h1, h2⟩ := RgT.last (bs := bs) (ms := ms) r
    exact ⟨b :: bs', b', by rw [e]; rfl, ⟨h, h1⟩, h2⟩
end
theorem at_negT {δ : Type} {xs : List δ} {k : Nat} (k0 : 0 < k) (h : k ≤ xs.length) : atI xs (-(k : Int)) = xs[xs.length - k]? := by
  unfold atI ixN
  rw [if_neg (by omega), if_pos (by omega)]
  show xs[(-(k : Int) + (xs.length : Int)).toNat]? = _
  congr 1
  omega
structure TLs where
  ms : List DMd
instance : Enc TLs where
  rep K S v t := Enc.rep K S v (show L TOb from t.ms.map TOb.mk)
  mono e h := Enc.mono (α := L TOb) e h
instance : Reg TLs where
  rep K S H x as t := ∃ bs : List A4, as = x :: bs.flatMap four ∧ (x :: bs.flatMap four).Nodup ∧ H x = some (.lst (bs.map fun b => V.ref b.1)) ∧ RgT K S H bs t.ms ∧ t.ms.length ≤ BIG
  live h := by
    obtain ⟨bs, rfl, nd, hx, r, l⟩ := h
    intro a ha
    rcases List.mem_cons.mp ha with rfl | ha
    · exact ⟨_, hx⟩
    · exact r.live a ha
  to h s e := by
    obtain ⟨bs, rfl, nd, hx, r, l⟩ := h
    exact ⟨bs, rfl, nd, by rw [e _ List.mem_cons_self]; exact hx, r.to s fun q hq => e q (.tail _ hq), l⟩
  frz h s e := by
    obtain ⟨bs, rfl, nd, hx, r, l⟩ := h
    exact ⟨by show (List.map TOb.mk _).length ≤ BIG; rw [List.length_map]; exact l, _, _, rfl, by rw [e _ List.mem_cons_self]; exact hx, r.frz s fun q hq => e q (.tail _ hq)⟩
section
variable {K : PySem.W.Frag} {B : Addr → Prop} {ρ : List Slot} {ta tb te tk : TE} {o : TLs} {t n : Nat} {ts tz : TS} {β : Type} {e_β : Enc β} {b : β}
theorem d_tls (h : DE K B te ρ o) : DE K B te ρ (show L TOb from o.ms.map TOb.mk) := h
theorem dog_nilT : DOG K B (tLst tNil) ρ (fun o : TLs => o = ⟨[]⟩) := fun S0 H0 S H σ E Q q =>
  do_nil (K := K) (B := B) (ρ := ρ) TOb S0 H0 S H σ E _ fun p vs S1 H1 e1 hp hs hh r _ => by
    cases r
    exact q p ⟨[]⟩ S1 H1 rfl e1 ⟨[p], ⟨[], rfl, List.pairwise_singleton _ _, hh, trivial, Nat.zero_le _⟩, fun a ha => by
      rw [List.mem_singleton.mp ha]
      exact ⟨hs, hp⟩, fun i s p hi _ _ => nomatch hi⟩
theorem ds_parG1 {Φ : Post} {P : TLs → Prop} (h1 : DOG K B ta ρ P) (h2 : DE K B tb ρ b) (ht : ρ[t]? = some .no) (hn : n ≠ t) (k : ∀ w, P w → DSM K B t tz (ρ.set n (.val b)) w ⟨fun _ _ => False, fun s o => o = none ∧ Φ.rt s⟩) : DS K B (tSeq (tPar t n (tCons ta (tCons tb tNil))) tz) ρ Φ := fun S0 H0 S H σ D E px nx rt bk ct =>
  h1 S0 H0 S H σ E _ fun x w S1 H1 pw e1 R1 => h2 S0 H0 S1 H1 σ (E.go e1) _ fun v S2 H2 e2 r2 => ⟨_, v, rfl, by
    have hb : ∀ q, B q → H0 q ≠ none := fun q hq => (E.bx q hq).2.2
    have R2 : RgG K H0 S2 H2 x w σ ρ := (R1.new E).ext e2 hb
    have E2 := (E.go e1).go e2
    have E3 := E2.setNo (v := .ref x) ht
    have hl : t < σ.length := by rw [E.len]; exact (List.getElem?_eq_some_iff.mp ht).1
    have E4 : En K B S0 H0 S2 H2 ((σ.set t (some (.ref x))).set n (some v)) (ρ.set n (.val b)) := E3.setV r2
    exact k w pw S0 H0 S2 H2 _ D x E4 (by rw [List.getElem?_set_ne hn]; exact ht) (by rw [List.getElem?_set_ne hn]; exact List.getElem?_set_self hl) ((R2.setNo ht).set rfl) (fun _ _ _ _ _ f => f.elim) fun s o v' S' H' hr ex ok _ => rt s v' S' H' hr.2 ex ok⟩
theorem dsm_appT {Φ : PostM TLs} {P : TOb → Prop} (h : DOG K B te ρ P) (hl : o.ms.length < BIG) (k : ∀ w, P w → Φ.nx ρ ⟨o.ms ++ [w.m]⟩) : DSM K B t (tDrop (tBM K "list" rAppend (tVar t) (tCons te tNil))) ρ o Φ := fun S0 H0 S H σ D x E ht hσ r nx rt => by
  have hb : ∀ q, B q → H0 q ≠ none := fun q hq => (E.bx q hq).2.2
  obtain ⟨as, ⟨bs, rfl, nd, hx, rr, ll⟩, p1, p2⟩ := id r
  have lv : ∀ a ∈ x :: bs.flatMap four, ∃ u, H a = some u := fun a ha => by
    rcases List.mem_cons.mp ha with rfl | ha
    · exact ⟨_, hx⟩
    · exact rr.live a ha
  refine ⟨_, hσ, .inl ⟨rfl, _, SqL.of hx⟩, ?_⟩
  refine h S0 H0 S H σ E _ fun y w S1 H1 pw e1 R1 => ?_
  obtain ⟨as', ⟨d, c, l, rfl, nd', tr⟩, f1, _⟩ := R1
  have k1 := reg_keep E e1 p1 lv
  have xm : x ∈ x :: bs.flatMap four := List.mem_cons_self
  have hx1 : H1 x = some (.lst (bs.map fun b => V.ref b.1)) := by rw [(k1 x xm).2]; exact hx
  have fresh : ∀ a ∈ [y, d, c, l], a ∉ x :: bs.flatMap four := fun a ha hm => by
    obtain ⟨u, hu⟩ := lv a hm
    rw [(f1 a ha).2] at hu
    cases hu
  have nx0 : ∀ a ∈ bs.flatMap four, a ≠ x := fun a ha e => (List.nodup_cons.mp nd).1 (by rw [← e]; exact ha)
  refine ⟨x, _, .ref y, rfl, rfl, hx1, ?_, ?_⟩
  · rw [List.length_map, rr.len]
    exact Nat.lt_of_lt_of_le hl big_line
  · refine nx _ _ _ S1 _ (k w pw) e1.s ((E.go e1).updP (fun i s hi ho hp => p2 i s x hi ho hp xm) (k1 x xm).1 (p1 x xm).2) ht hσ ⟨x :: (bs ++ [((y, d, c, l) : A4)]).flatMap four, ⟨bs ++ [(y, d, c, l)], rfl, ?_, ?_, ?_, ?_⟩, fun q hq => ?_, fun i s p hi ho hp hm => ?_⟩
    · rw [List.flatMap_append, ← List.cons_append, List.nodup_append]
      refine ⟨nd, ?_, fun a ha b hb2 e => ?_⟩
      · show (four (y, d, c, l) ++ []).Nodup
        rw [List.append_nil]
        exact nd'
      · have hb3 : b ∈ [y, d, c, l] := by
          have : b ∈ four (y, d, c, l) ++ [] := hb2
          rw [List.append_nil] at this
          exact this
        exact fresh b hb3 (by rw [← e]; exact ha)
    · rw [List.map_append]
      exact upd_same
    · refine RgT.snoc (rr.to e1.s fun q hq => ?_) (tr.to (Same.refl S1) fun q hq => upd_ne fun e => fresh q hq (by rw [e]; exact xm))
      rw [upd_ne (nx0 q hq), (k1 q (.tail _ hq)).2]
    · show (o.ms ++ [w.m]).length ≤ BIG
      rw [List.length_append]
      exact hl
    · rw [List.flatMap_append] at hq
      rcases List.mem_cons.mp hq with rfl | hq
      · exact ⟨(k1 _ xm).1, (p1 _ xm).2⟩
      · rcases List.mem_append.mp hq with hq | hq
        · exact ⟨(k1 q (.tail _ hq)).1, (p1 q (.tail _ hq)).2⟩
        · have hq : q ∈ [y, d, c, l] := by
            have : q ∈ four (y, d, c, l) ++ [] := hq
            rw [List.append_nil] at this
            exact this
          exact ⟨(f1 q hq).1, E.ext.free E.i0 (f1 q hq).2⟩
    · rw [List.flatMap_append] at hm
      have old : p ∈ x :: bs.flatMap four → False := fun z => p2 i s p hi ho hp z
      rcases List.mem_cons.mp hm with e | hm
      · exact old (by rw [e]; exact xm)
      · rcases List.mem_append.mp hm with hm | hm
        · exact old (.tail _ hm)
        · have hm : p ∈ [y, d, c, l] := by
            have : p ∈ four (y, d, c, l) ++ [] := hm
            rw [List.append_nil] at this
            exact this
          obtain ⟨u, q1, q2⟩ := E.at' i s hi
          rw [hp] at q1
          cases q1
          cases s with
          | obj P =>
            obtain ⟨p', u, r, g0, gs, gh, gp⟩ := q2
            cases r
            rw [(f1 p hm).2] at gh
            cases gh
          | _ => cases ho
theorem dsm_addT {Φ : PostM TLs} {ms : List DMd} {m : DMd} {ws : List Str} (hk : DE K B tk ρ (-1 : Int)) (hv : DE K B te ρ ws) (ho : o.ms = ms ++ [m]) (ha : AddOk m ws) (k : Φ.nx ρ ⟨ms ++ [addL m ws]⟩) : DSM K B t (tDrop (tMeth (He.ga K "Told") "add" (spMut K dpAdd) [] E0 (tOp (rIxQ K) (tVar t) tk) (tCons te tNil))) ρ o Φ := fun S0 H0 S H σ D x E ht hσ r nx rt => by
  have hb : ∀ q, B q → H0 q ≠ none := fun q hq => (E.bx q hq).2.2
  refine ⟨_, hσ, ?_⟩
  refine hk S0 H0 S H σ E _ fun v1 S1 H1 e1 r1 => ?_
  cases r1
  obtain ⟨as, ⟨bs, rfl, nd, hx, rr, ll⟩, p1, p2⟩ := r.ext e1 hb
  rw [ho] at rr ll
  obtain ⟨bs', b, rfl, rr', tr⟩ := rr.last
  refine ⟨x, _, (-1 : Int), .ref b.1, rfl, rfl, .l hx, ?_, ?_⟩
  · have l1 : ((bs' ++ [b]).map fun b => V.ref b.1).length = bs'.length + 1 := by rw [List.length_map, List.length_append]; rfl
    have e := at_negT (xs := (bs' ++ [b]).map fun b => V.ref b.1) (k := 1) (by decide) (by omega)
    rw [show (-(1 : Int)) = -((1 : Nat) : Int) by rfl, e, l1, Nat.add_sub_cancel, List.map_append, List.getElem?_append_right (by rw [List.length_map]; exact Nat.le_refl _), List.length_map, Nat.sub_self]
    rfl
  obtain ⟨dx, hbx⟩ := tr.ob
  refine ⟨b.1, dx, _, rfl, hbx, look_none (show ("add" : Str) ∉ (["title", "rows", "calls", "links"] : List Str) by decide), ?_⟩
  refine hv S0 H0 S1 H1 σ (E.go e1) _ fun w S2 H2 e2 r2 => ?_
  have E2 := (E.go e1).go e2
  have lv1 : ∀ a ∈ x :: (bs' ++ [b]).flatMap four, ∃ u, H1 a = some u := fun a ha => by
    rcases List.mem_cons.mp ha with rfl | ha
    · exact ⟨_, hx⟩
    · exact (rr'.snoc tr).live a ha
  have k2 := reg_keep (E.go e1) e2 p1 lv1
  have hx2 : H2 x = some (.lst ((bs' ++ [b]).map fun b => V.ref b.1)) := by rw [(k2 x List.mem_cons_self).2]; exact hx
  have inb : ∀ a ∈ four b, a ∈ x :: (bs' ++ [b]).flatMap four := fun a ha => by
    rw [List.flatMap_append]
    refine .tail _ (List.mem_append_right _ ?_)
    show a ∈ four b ++ []
    rw [List.append_nil]
    exact ha
  have inb' : ∀ a ∈ bs'.flatMap four, a ∈ x :: (bs' ++ [b]).flatMap four := fun a ha => by
    rw [List.flatMap_append]
    exact .tail _ (List.mem_append_left _ ha)
  have tr2 := tr.to e2.s fun q hq => (k2 q (inb q hq)).2
  have rr2 := rr'.to e2.s fun q hq => (k2 q (inb' q hq)).2
  have nd2 := nd
  rw [List.flatMap_append, ← List.cons_append, List.nodup_append] at nd2
  obtain ⟨nda, ndb, dis⟩ := nd2
  have ndb : (four b).Nodup := by
    have : (four b ++ []).Nodup := ndb
    rw [List.append_nil] at this
    exact this
  have off : ∀ a ∈ x :: bs'.flatMap four, a ∉ four b := fun a ha hm => dis a ha a (by show a ∈ four b ++ []; rw [List.append_nil]; exact hm) rfl
  show spMut K dpAdd ((.ref b.1 :: [w]) ++ []) H2 _ L2.E0
  rw [List.append_nil]
  refine ⟨B, S2, b.1, four b, ⟨m⟩, [w], [.val ws], fun s o' => s = .val () ∧ o' = ⟨addL m ws⟩, rfl, E2.i, fun p hp => ⟨(E2.bx p hp).1, (E2.bx p hp).2.1⟩, ⟨b.2.1, b.2.2.1, b.2.2.2, rfl, ndb, tr2⟩, fun a ha => ⟨(k2 a (inb a ha)).1, fun hB => hb a hB (p1 a (inb a ha)).2⟩, .cons r2 rfl .nil, fun s hs => by rw [List.mem_singleton.mp hs]; rfl, ⟨ws, rfl, ha, rfl, rfl⟩, fun s v w' as' S' H' hr mt rep' has' ok => ?_⟩
  obtain ⟨rfl, rfl⟩ := hr
  obtain ⟨d, c, l, rfl, nd', tr'⟩ := rep'
  have wh : Mut B (x :: (bs' ++ [b]).flatMap four) S2 H2 S' H' := ⟨mt.s, mt.i, fun a q1 q2 => (mt.p a q1 q2).imp (inb a) id⟩
  have keep : ∀ a ∈ x :: bs'.flatMap four, S' a = none ∧ H' a = H2 a := fun a ha => by
    have hin : a ∈ x :: (bs' ++ [b]).flatMap four := by
      rcases List.mem_cons.mp ha with rfl | ha
      · exact List.mem_cons_self
      · exact inb' a ha
    obtain ⟨u, hu⟩ := lv1 a hin
    rcases mt.p a (k2 a hin).1 (by rw [(k2 a hin).2, hu]; exact fun z => nomatch z) with z | ⟨z1, z2⟩
    · exact absurd z (off a ha)
    · refine ⟨z1, ?_⟩
      rcases z2 with z | ⟨z, _⟩
      · exact z
      · exact absurd (p1 a hin).2 (hb a z)
  have dis' : ∀ a ∈ [b.1, d, c, l], a ∉ x :: bs'.flatMap four := fun a ha hm => by
    rcases (has' a ha).2 with z | z
    · exact off a hm z
    · have hin : a ∈ x :: (bs' ++ [b]).flatMap four := by
        rcases List.mem_cons.mp hm with rfl | hm
        · exact List.mem_cons_self
        · exact inb' a hm
      obtain ⟨u, hu⟩ := lv1 a hin
      rw [(k2 a hin).2, hu] at z
      cases z
  have p22 : OwnOff σ ρ (x :: (bs' ++ [b]).flatMap four) := p2
  have mem' : ∀ q ∈ x :: (bs' ++ [((b.1, d, c, l) : A4)]).flatMap four, q ∈ x :: bs'.flatMap four ∨ q ∈ [b.1, d, c, l] := fun q hq => by
    rw [List.flatMap_append, ← List.cons_append] at hq
    rcases List.mem_append.mp hq with hq | hq
    · exact .inl hq
    · refine .inr ?_
      have : q ∈ four (b.1, d, c, l) ++ [] := hq
      rw [List.append_nil] at this
      exact this
  have back : ∀ q ∈ x :: (bs' ++ [((b.1, d, c, l) : A4)]).flatMap four, q ∈ x :: (bs' ++ [b]).flatMap four ∨ H2 q = none := fun q hq => by
    rcases mem' q hq with z | z
    · left
      rcases List.mem_cons.mp z with rfl | z
      · exact List.mem_cons_self
      · exact inb' q z
    · rcases (has' q z).2 with y | y
      · exact .inl (inb q y)
      · exact .inr y
  refine nx _ _ _ S' H' k ((e1.s.trans e2.s).trans mt.s) (E2.mut p22 wh fun a ha => (p1 a ha).2) ht hσ ⟨x :: (bs' ++ [((b.1, d, c, l) : A4)]).flatMap four, ⟨bs' ++ [(b.1, d, c, l)], rfl, ?_, ?_, ?_, ?_⟩, fun q hq => ?_, OwnOff.mut E2 p22 back⟩
  · rw [List.flatMap_append, ← List.cons_append, List.nodup_append]
    refine ⟨nda, ?_, fun a ha b2 hb2 e => ?_⟩
    · show (four (b.1, d, c, l) ++ []).Nodup
      rw [List.append_nil]
      exact nd'
    · have hb3 : b2 ∈ [b.1, d, c, l] := by
        have : b2 ∈ four (b.1, d, c, l) ++ [] := hb2
        rw [List.append_nil] at this
        exact this
      exact dis' b2 hb3 (by rw [← e]; exact ha)
  · rw [(keep x List.mem_cons_self).2, hx2, List.map_append, List.map_append]
    rfl
  · exact RgT.snoc (rr2.to mt.s fun q hq => (keep q (.tail _ hq)).2) tr'
  · show (ms ++ [addL m ws]).length ≤ BIG
    rw [List.length_append] at ll ⊢
    exact ll
  · refine ⟨?_, ?_⟩
    · rcases mem' q hq with z | z
      · exact (keep q z).1
      · exact (has' q z).1
    · rcases back q hq with z | z
      · exact (p1 q z).2
      · exact E2.ext.free E2.i0 z
end
end WW
set_option Elab.async false
set_option linter.all false
set_option maxRecDepth 100000
set_option maxHeartbeats 4000000
namespace WW
open PySem PySem.Spec PyProof.Rows L2
def modLast (f : DMd → DMd) (ms : List DMd) : List DMd := match ms.getLast? with
  | none => ms
  | some m => ms.dropLast ++ [f m]
theorem modLast_snoc {f : DMd → DMd} {ms : List DMd} {m : DMd} : modLast f (ms ++ [m]) = ms ++ [f m] := by
  have e : (ms ++ [m]).getLast? = some m := by simp
  unfold modLast
  rw [e]
  show (ms ++ [m]).dropLast ++ [f m] = _
  rw [List.dropLast_concat]
def stepT (ms : List DMd) (ws : List Str) : List DMd := if wAt ws 0 = "module" then ms ++ [noTold (wAt ws 1)] else modLast (fun m => addL m ws) ms
def badT (sg : Bool) (at_ : Nat) (last : Option Str) (ws : List Str) : Bool := !lineB ws || (!followB (wAt ws 0) last || (sg && (decide (wAt ws 0 = "module") && decide (0 < at_))))
def toldGo (sg : Bool) : List (List Str) → Nat → Option Str → List DMd → Option (List DMd)
  | [], _, _, ms => some ms
  | ws :: r, at_, last, ms => if badT sg at_ last ws = true then none else toldGo sg r (at_ + 1) (some (wAt ws 0)) (stepT ms ws)
def lnsT (z : Str) : List (List Str) := (Txt.split z "\n").map fun l => Txt.split l " "
def readT (sg : Bool) (z : Str) : Option (List DMd) := toldGo sg (lnsT z) 0 none []
structure TxtIn (z : Str) : Prop where
  len : z.length ≤ 900000
  n : (Txt.split z "\n").length ≤ 100000
  ll : ∀ l ∈ Txt.split z "\n", l.length ≤ 900000 ∧ WsOk (Txt.split l " ")
theorem line_ord {ws : List Str} (h : lineB ws = true) : wAt ws 0 ∈ ORD := by
  rcases line_kinds h with ⟨e, _⟩ | ⟨e, _⟩ | ⟨e, _⟩ | ⟨e, _⟩
  · rw [e]; decide
  · rw [e]; decide
  · rw [e]; decide
  · revert e
    generalize wAt ws 0 = w
    intro e
    simp only [List.mem_cons, List.mem_nil_iff, or_false] at e ⊢
    rcases e with e | e | e
    · exact .inr (.inl e)
    · exact .inr (.inr (.inl e))
    · exact .inr (.inr (.inr (.inl e)))
theorem addL_len {m : DMd} {ws : List Str} : (addL m ws).c.length ≤ m.c.length + 1 ∧ (addL m ws).l.length ≤ m.l.length + 1 := by
  unfold addL
  split
  · exact ⟨by show (m.c ++ [_]).length ≤ _; rw [List.length_append]; exact Nat.le_refl _, Nat.le_succ _⟩
  · split
    · refine ⟨Nat.le_succ _, ?_⟩
      show (m.l ++ (linkIn (ws.drop 1)).toList).length ≤ _
      rw [List.length_append]
      cases linkIn (ws.drop 1) with
      | none => exact Nat.le_succ _
      | some a => exact Nat.le_refl _
    · split
      · exact ⟨Nat.le_succ _, Nat.le_succ _⟩
      · split <;> exact ⟨Nat.le_succ _, Nat.le_succ _⟩
structure TolI (i : Nat) (last : Option Str) (ms : List DMd) : Prop where
  o : ∀ y, last = some y → y ∈ ORD ∧ ms ≠ []
  n : ms.length ≤ i
  sz : ∀ m ∈ ms, m.c.length ≤ i ∧ m.l.length ≤ i
theorem TolI.step {i : Nat} {last : Option Str} {ms : List DMd} {ws : List Str} {sg : Bool} (h : TolI i last ms) (b : badT sg i last ws = false) : TolI (i + 1) (some (wAt ws 0)) (stepT ms ws) := by
  unfold badT at b
  rw [Bool.or_eq_false_iff, Bool.or_eq_false_iff] at b
  have ln : lineB ws = true := by have := b.1; revert this; cases lineB ws <;> simp
  unfold stepT
  by_cases c : wAt ws 0 = "module"
  · rw [if_pos c]
    refine ⟨fun y hy => ⟨by cases hy; exact line_ord ln, by simp⟩, by rw [List.length_append]; exact Nat.succ_le_succ h.n, fun m hm => ?_⟩
    rcases List.mem_append.mp hm with hm | hm
    · exact ⟨Nat.le_succ_of_le (h.sz m hm).1, Nat.le_succ_of_le (h.sz m hm).2⟩
    · rw [List.mem_singleton.mp hm]
      exact ⟨Nat.zero_le _, Nat.zero_le _⟩
  · rw [if_neg c]
    have fo : followB (wAt ws 0) last = true := by have := b.2.1; revert this; cases followB (wAt ws 0) last <;> simp
    have ne : ms ≠ [] := by
      unfold followB at fo
      rw [if_neg c] at fo
      cases last with
      | none => cases fo
      | some y => exact (h.o y rfl).2
    obtain ⟨pre, m, rfl⟩ : ∃ pre m, ms = pre ++ [m] := ⟨ms.dropLast, ms.getLast ne, (List.dropLast_concat_getLast ne).symm⟩
    rw [modLast_snoc]
    refine ⟨fun y hy => ⟨by cases hy; exact line_ord ln, by simp⟩, ?_, fun k hk => ?_⟩
    · have := h.n
      rw [List.length_append] at this ⊢
      exact Nat.le_succ_of_le this
    · rcases List.mem_append.mp hk with hk | hk
      · have := h.sz k (List.mem_append_left _ hk)
        exact ⟨Nat.le_succ_of_le this.1, Nat.le_succ_of_le this.2⟩
      · rw [List.mem_singleton.mp hk]
        have := h.sz m (List.mem_append_right _ (List.mem_singleton.mpr rfl))
        have := addL_len (m := m) (ws := ws)
        omega
def dpTold : List Slot → (Slot → Prop) → Prop := fun ss R => ∃ (z : Str) (sg : Bool) (ms : List DMd), ss = [.val z, .val sg] ∧ TxtIn z ∧ readT sg z = some ms ∧ R (.val (show L A6 from ms.map A6.mk))
section
variable {P : Program} {w : World} {K : PySem.W.Frag} {mg : Str → Option Value} {base : Heap} {f : Addr} {fd : FuncData}
abbrev N_told_modules : List Str := ["text", "is_single", "found", "last", "at", "line", "words", "told"]
theorem sc_told_modules : FnScope N_told_modules ["text", "is_single"] (defScope s_told_modules) := ⟨rfl, rfl, rfl, by decide +kernel, rfl, by decide +kernel, by decide +kernel⟩
theorem ok_told_modules (F : FnP K "told_modules" s_told_modules f fd) (m_enumerate : mg "enumerate" = none) (c_Told : Cls K (He.ga K "Told")) (gX_Told : MkAtX P w K mg base 2 "Told" ["self", "name"] (spInitG K (He.ga K "Told") dpTolI) [])
    (g_is_line : FnAt P w K mg base CX0 4 "is_line" ["words"] (spT K (dp1 (fun ws : List Str => WsOk ws) lineB)))
    (g_may_follow : FnAt P w K mg base CX0 1 "may_follow" ["word", "last"] (spT K (dp2 (fun (z : Str) (y : Option Str) => z ∈ ORD ∧ ∀ x, y = some x → x ∈ ORD) followB)))
    (g_Told_add : MthAt P w K mg base CX0 5 (He.ga K "Told") "add" ["self", "words"] (spMut K dpAdd)) (g_Told_arguments : MthAt P w K mg base CX0 1 (He.ga K "Told") "arguments" ["self"] (spT K dpArgs)) : FnOk P w K mg base CX0 6 f fd ["text", "is_single"] (spT K dpTold) := by
  refine okT F sc_told_modules (fun ss R h => ?_) (fun cdv A outer s H E hr => ⟨_, (pss_cons (ps_par (i := 2) (j := 3) rfl sc_told_modules.nd rfl rfl (by decide) rfl rfl (pa_cons (pe_lst (pa_nil)) (pa_cons (pe_non) (pa_nil))) rfl)
 (pss_cons (ps_for PassesOwn.never rfl (pi_enum rfl m_enumerate (pa_cons (pe_split (pv 0) (pe_str)) (pa_nil))) (pg_tupK (n := 2) K rfl (pgs_cons (pg_name (i := 4) sc_told_modules.nd rfl (.inl rfl)) (pgs_cons (pg_name (i := 5) sc_told_modules.nd rfl (.inl rfl)) (pgs_nil)))) (pss_cons (ps_set (i := 6) sc_told_modules.nd rfl (.inl rfl) (pe_split (pv 5) (pe_str)))
 (pss_cons (ps_if (PW.pt (pw_or (pt_not (pt_val (pe_fn g_is_line hr rfl (pa_cons (pv 6) (pa_nil))))) (pw_or (pt_not (pt_val (pe_fn g_may_follow hr rfl (pa_cons (pe_ix (ix_sqK K) (pv 6) (pe_int) (fun _ _ => rfl)) (pa_cons (pv 3) (pa_nil)))))) (pw_or1 (PW.pt (pw_and (pt_val (pv 1)) (pw_and (pt_cmpR op_eq (pe_ix (ix_sqK K) (pv 6) (pe_int) (fun _ _ => rfl)) (pe_str) (nomark _)) (pw_and1 (pt_cmpR op_gt (pv 4) (pe_int) (nomark _)))))))))) (pss_one (ps_never)) (pss_nil))
 (pss_cons (ps_set (i := 3) sc_told_modules.nd rfl (.inl rfl) (pe_ix (ix_sqK K) (pv 6) (pe_int) (fun _ _ => rfl)))
 (pss_one (ps_if (pt_cmpR op_eq (pv 3) (pe_str) (nomark _)) (pss_one (ps_expr (pe_bmK K PySem.F.plainAttrs_list PySem.F.slot_list_append PySem.F.type_list_append mt_append (pv 2) (pa_cons (pe_mkrX (x := "Told") K gX_Told takes_no hr rfl (pa_cons (pe_ix (ix_sqK K) (pv 6) (pe_int) (fun _ _ => rfl)) (pa_nil))) (pa_nil))))) (pss_one (ps_expr (pe_mth c_Told g_Told_add hr (pe_ix (ix_sqK K) (pv 2) (pe_un un_neg (pe_int)) (fun _ _ => rfl)) (pa_cons (pv 6) (pa_nil)))))))))))
 (pss_one (ps_ret (pe_lc (own := [("told", 7)]) rfl sc_told_modules.nd (pi_seqK K (pv 2)) (blkOk_by (N := N_told_modules) (sc := defScope s_told_modules) (by decide +kernel)) (fun _ _ _ _ _ => pg_name (i := 7) sc_told_modules.nd rfl (.inl rfl)) (fun _ _ _ _ _ => pts_nil) (fun _ _ _ _ _ => pe_mth0 c_Told g_Told_arguments hr (pv 7))))))), fun B ss R h => ?_⟩)
  · obtain ⟨z, sg, ms, rfl, _⟩ := h
    rfl
  · obtain ⟨z, sg, msF, rfl, hz, hread, q⟩ := h
    have b18 : ∀ {n : Nat}, n ≤ 999000 → n ≤ BIG := fun h => Nat.le_trans h (by decide)
    have zl := hz.len
    have nl := hz.n
    show DS K B _ [.val z, .val sg, .no, .no, .no, .no, .no, .no] _
    refine ds_parG1 (e_β := inferInstance) (P := fun o : TLs => o = ⟨[]⟩) (b := (none : Option Str)) dog_nilT (d_none (e_α := inferInstance)) rfl (by decide) fun o ho => ?_
    subst ho
    show DSM K B 2 _ [.val z, .val sg, .no, .val (none : Option Str), .no, .no, .no, .no] _ _
    generalize hls : Txt.split z "\n" = ls at nl
    have hll : ∀ l ∈ ls, l.length ≤ 900000 ∧ WsOk (Txt.split l " ") := fun l hl => hz.ll l (by rw [hls]; exact hl)
    have hread : toldGo sg (ls.map fun l => Txt.split l " ") 0 none [] = some msF := by
      have := hread
      unfold readT lnsT at this
      rw [hls] at this
      exact this
    have hsp : DE K B (tM1 (fun x xs H Q => ∃ a b, x = .str a ∧ xs = [.str b] ∧ (b.length == 0) = false ∧ a.length + 2 ≤ sizeLine ∧ rNewStrs (Txt.split a b) H Q) (tVar 0) (tC (.str "\n"))) [.val z, .val sg, .no, .val (none : Option Str), .no, .no, .no, .no] (show L Str from ls) := by
      have h := DO.l (do_split (K := K) (B := B) (ρ := [.val z, .val sg, .no, .val (none : Option Str), .no, .no, .no, .no]) (d_var (n := 0) (a := z) rfl) (d_str (z := "\n")) (by decide) (b18 (by omega)) (by rw [hls]; exact b18 (by omega)))
      rw [hls] at h
      exact h
    refine dsm_seq (dsm_forI (di_enum hsp) (fun i r w => ∃ (last : Option Str) (s4 s5 s6 : Slot), r = [.val z, .val sg, .no, .val last, s4, s5, s6, .no] ∧ s4.isOwn = false ∧ s5.isOwn = false ∧ s6.isOwn = false ∧ TolI i last w.ms ∧ toldGo sg ((ls.map fun l => Txt.split l " ").drop i) i last w.ms = some msF) ⟨none, .no, .no, .no, rfl, rfl, rfl, rfl, ⟨(fun y h => nomatch h), Nat.le_refl _, (fun m h => nomatch h)⟩, hread⟩ (fun i x r w hx hI => ?_) fun r w hI => ?_)
    · obtain ⟨last, s4, s5, s6, rfl, o4, o5, o6, ti, hg⟩ := hI
      obtain ⟨l, hl, rfl⟩ := enumL_at.mp hx
      have lm := List.mem_of_getElem? hl
      obtain ⟨l9, wk⟩ := hll l lm
      have il : i < ls.length := (List.getElem?_eq_some_iff.mp hl).1
      generalize hws : Txt.split l " " = ws at wk
      have ed : (ls.map fun l => Txt.split l " ").drop i = ws :: (ls.map fun l => Txt.split l " ").drop (i + 1) := by
        rw [List.drop_eq_getElem_cons (by rw [List.length_map]; exact il), List.getElem_map, (List.getElem?_eq_some_iff.mp hl).2, hws]
      rw [ed, toldGo] at hg
      by_cases bad : badT sg i last ws = true
      · rw [if_pos bad] at hg
        cases hg
      rw [if_neg bad] at hg
      have bad : badT sg i last ws = false := by revert bad; cases badT sg i last ws <;> simp
      have ts := ti.step bad
      have badE := bad
      unfold badT at badE
      rw [Bool.or_eq_false_iff, Bool.or_eq_false_iff] at badE
      have ln : lineB ws = true := by have := badE.1; revert this; cases lineB ws <;> simp
      have fo : followB (wAt ws 0) last = true := by have := badE.2.1; revert this; cases followB (wAt ws 0) last <;> simp
      refine ⟨[.val z, .val sg, .no, .val last, .val (i : Int), .val l, s6, .no], _, DG.pair (e_α := inferInstance) (e_β := inferInstance) dg_name dg_name, ?_, by decide, rfl, ?_⟩
      · intro k s hk ho
        match k, hk with
        | 0, hk => cases hk; cases ho
        | 1, hk => cases hk; cases ho
        | 2, hk => cases hk; cases ho
        | 3, hk => cases hk; cases ho
        | 4, hk => cases hk; cases ho
        | 5, hk => cases hk; cases ho
        | 6, hk => cases hk; rw [o6] at ho; cases ho
        | 7, hk => cases hk; cases ho
      have d6 : DO K B (tM1 (fun x xs H Q => ∃ a b, x = .str a ∧ xs = [.str b] ∧ (b.length == 0) = false ∧ a.length + 2 ≤ sizeLine ∧ rNewStrs (Txt.split a b) H Q) (tVar 5) (tC (.str " "))) [.val z, .val sg, .no, .val last, .val (i : Int), .val l, s6, .no] ws := by
        have h := do_split (K := K) (B := B) (ρ := [.val z, .val sg, .no, .val last, .val (i : Int), .val l, s6, .no]) (d_var (n := 5) (a := l) rfl) (d_str (z := " ")) (by decide) (b18 (by omega)) (by rw [hws]; exact b18 (by have := wk.len; omega))
        rw [hws] at h
        exact h
      refine dqm_asg (b := (show L Str from ws)) (dem_of (DO.l d6)) (by decide) ?_
      show DSM K B 2 _ [.val z, .val sg, .no, .val last, .val (i : Int), .val l, .val (show L Str from ws), .no] w _
      have dws : ∀ {ρ : List Slot}, ρ[6]? = some (.val (show L Str from ws)) → DE K B (tVar 6) ρ ws := fun h => d_Lq (d_var h)
      have d0 : ∀ {ρ : List Slot}, ρ[6]? = some (.val (show L Str from ws)) → DE K B (tOp (rIxQ K) (tVar 6) (tC (.int 0))) ρ (wAt ws 0) := fun h => d_ix (dws h) d_int (wAt_at (i := 0) wk.ne)
      refine dqm_when (c := false) (DT.is (dt_or (dt_not (dt_B (d_call1 (dws rfl) wk))) fun _ => dt_or (dt_not (dt_B (d_call2 (d0 rfl) (d_var (a := last) rfl) ⟨line_ord ln, fun y hy => (ti.o y hy).1⟩))) fun _ => dt_and (dt_B (d_var (a := sg) rfl)) fun _ => dt_and (dt_test (d_eq (d0 rfl) d_str inferInstance inferInstance)) fun _ => dt_test (d_gt (d_var (a := (i : Int)) rfl) d_int)) ?_) (fun h => nomatch h) (fun _ => ?_)
      · have e : decide ((0 : Int) < (i : Int)) = decide (0 < i) := decide_eq_decide.mpr (by omega)
        rw [e]
        exact bad
      refine dqm_asg (b := some (wAt ws 0)) (dem_of (d_some (d0 rfl))) (by decide) ?_
      show DSM K B 2 _ [.val z, .val sg, .no, .val (some (wAt ws 0)), .val (i : Int), .val l, .val (show L Str from ws), .no] w _
      refine dsm_if (dt_test (d_eq (d_get (a := wAt ws 0) rfl) d_str inferInstance inferInstance)) (fun h => ?_) (fun h => ?_)
      · have h := of_decide_eq_true h
        have l2 : ws.length = 2 := by
          rcases line_kinds ln with ⟨e, _⟩ | ⟨_, e⟩ | ⟨e, _⟩ | ⟨e, _⟩
          · rw [h] at e; exact absurd e (by decide)
          · exact e
          · rw [h] at e; exact absurd e (by decide)
          · rw [h] at e; exact absurd e (by decide)
        refine dsm_appT (P := fun o : TOb => o = ⟨noTold (wAt ws 1)⟩) (dog_make (da_cons (a := wAt ws 1) (d_ix (dws rfl) d_int (wAt_at (i := 1) (by omega))) da_nil) (fun s hs => by rw [List.mem_singleton.mp hs]; rfl) ⟨wAt ws 1, rfl, rfl⟩) (Nat.lt_of_le_of_lt ti.n (Nat.lt_of_lt_of_le il (b18 (by omega)))) fun o ho => ?_
        subst ho
        refine ⟨some (wAt ws 0), _, _, _, rfl, rfl, rfl, rfl, ?_, ?_⟩
        · have e : stepT w.ms ws = w.ms ++ [noTold (wAt ws 1)] := if_pos h
          rw [← e]
          exact ts
        · have e : stepT w.ms ws = w.ms ++ [noTold (wAt ws 1)] := if_pos h
          show toldGo sg _ _ _ (w.ms ++ [noTold (wAt ws 1)]) = _
          rw [← e]
          exact hg
      · have h := of_decide_eq_false h
        have ne : w.ms ≠ [] := by
          unfold followB at fo
          rw [if_neg h] at fo
          cases last with
          | none => cases fo
          | some y => exact (ti.o y rfl).2
        obtain ⟨pre, m, hpm⟩ : ∃ pre m, w.ms = pre ++ [m] := ⟨w.ms.dropLast, w.ms.getLast ne, (List.dropLast_concat_getLast ne).symm⟩
        have hm := ti.sz m (by rw [hpm]; exact List.mem_append_right _ (List.mem_singleton.mpr rfl))
        have e : stepT w.ms ws = pre ++ [addL m ws] := by
          unfold stepT
          rw [if_neg h, hpm, modLast_snoc]
        have ib : i < BIG := Nat.lt_of_lt_of_le il (b18 (by omega))
        refine dsm_addT (ws := ws) (d_neg d_int) (dws rfl) hpm ⟨wk, ln, h, Nat.lt_of_le_of_lt hm.1 ib, Nat.lt_of_le_of_lt hm.2 ib⟩ ⟨some (wAt ws 0), _, _, _, rfl, rfl, rfl, rfl, ?_, ?_⟩
        · show TolI _ _ (pre ++ [addL m ws])
          rw [← e]
          exact ts
        · show toldGo sg _ _ _ (pre ++ [addL m ws]) = _
          rw [← e]
          exact hg
    · obtain ⟨last, s4, s5, s6, rfl, o4, o5, o6, ti, hg⟩ := hI
      have ii : (enumL ls).length = ls.length := by unfold enumL; rw [List.length_map, List.length_zipIdx]
      rw [ii] at ti hg
      rw [List.drop_eq_nil_of_le (by rw [List.length_map]; exact Nat.le_refl _)] at hg
      have hg : some w.ms = some msF := hg
      cases hg
      refine dsm_frz ?_
      show DS K B _ [.val z, .val sg, .val w, .val last, s4, s5, s6, .no] _
      refine ds_ret (α := L A6) (DO.l (do_map (fun o : TOb => A6.mk o.m) (di_seq (d_Lq (d_tls (d_var (n := 2) (a := w) rfl)))) (by rw [List.length_map]; exact Nat.le_trans ti.n (b18 (by omega))) fun o ho => ⟨_, _, dg_name, by simp, d_meth0 (d_var (n := 7) (a := o) rfl) trivial (by decide)⟩)) ⟨rfl, ?_⟩
      rw [List.map_map]
      exact q
end
end WW
set_option Elab.async false
set_option linter.all false
set_option maxRecDepth 100000
set_option maxHeartbeats 4000000
namespace WW
open PySem PySem.Spec PyProof.Rows L2
section
variable {K : PySem.W.Frag} {B : Addr → Prop} {ρ : List Slot} {ta tb te : TE} {i j : Int}
theorem d_pow (ha : DE K B ta ρ i) (hb : DE K B tb ρ j) (hc : CPow i j) : DE K B (tOp (rI CPow fun i j => .int (i ^ j.toNat)) ta tb) ρ (i ^ j.toNat) :=
  d_op ha hb fun x y S H hi r1 r2 Q q => ⟨i, j, r1, r2, hc, q _ S H (Ext.refl hi) rfl⟩
end
section
variable {P : Program} {w : World} {K : PySem.W.Frag} {mg : Str → Option Value} {base : Heap} {f : Addr} {fd : FuncData}
abbrev N_l_take : List Str := ["_law_box_here", "_law_many", "_law_raw", "_law_wide", "_law_digit"]
theorem sc_l_take : FnScope N_l_take ["_law_box_here", "_law_many"] (defScope s_l_take) := ⟨rfl, rfl, rfl, by decide +kernel, rfl, by decide +kernel, by decide +kernel⟩
theorem ok_take (F : FnP K "_law_take" s_l_take f fd) (m_int : mg "int" = none) : FnOk P w K mg base CX0 1 f fd ["_law_box_here", "_law_many"] spTake := by
  refine F.ok sc_l_take (fun vs H Q E h => ?_) (fun cdv A outer s H vs Q E hr h => ?_)
  · obtain ⟨b, m, rfl, _⟩ := h
    rfl
  · obtain ⟨b, m, rfl, ⟨x, y, z, hb⟩, h0, h1, q⟩ := h
    refine ⟨_, PSs.nox (pss_cons (ps_if (pt_cmpR op_gt (pe_ix (ix_sqK K) (pv 0) (pe_int) (fun _ _ => rfl)) (pe_int) (nomark _)) (pss_cons (ps_set (i := 4) sc_l_take.nd rfl (.inl rfl) (pe_op op_mod (pe_callTy call_int1 rfl m_int (by decide +kernel) (pa_cons (pe_ix (ix_sqK K) (pv 0) (pe_int) (fun _ _ => rfl)) (pa_nil))) (pv 1)))
 (pss_cons (ps_asg (pe_op op_fdiv (pe_ix (ix_sqK K) (pv 0) (pe_int) (fun _ _ => rfl)) (pv 1)) (pg_sub (pv 0) (pe_int) set_list))
 (pss_one (ps_ret (pv 4))))) (pss_nil))
 (pss_cons (ps_asg (pe_op op_add (pe_ix (ix_sqK K) (pv 0) (pe_int) (fun _ _ => rfl)) (pe_int)) (pg_sub (pv 0) (pe_int) set_list))
 (pss_cons (ps_set (i := 2) sc_l_take.nd rfl (.inl rfl) (pe_op op_mod (pe_callTy call_int1 rfl m_int (by decide +kernel) (pa_cons (pe_op op_mul (pe_op op_add (pe_ix (ix_sqK K) (pv 0) (pe_int) (fun _ _ => rfl)) (pe_op op_mul (pe_int) (pe_ix (ix_sqK K) (pv 0) (pe_int) (fun _ _ => rfl)))) (pe_int)) (pa_nil))) (pe_int)))
 (pss_cons (ps_asg (pe_op op_add (pe_op op_mod (pe_callTy call_int1 rfl m_int (by decide +kernel) (pa_cons (pe_op op_add (pe_op op_mul (pv 2) (pe_int)) (pe_int)) (pa_nil))) (pe_int)) (pe_int)) (pg_sub (pv 0) (pe_int) set_list))
 (pss_cons (ps_if (pt_cmpR op_lt (pv 1) (pe_op op_pow (pe_int) (pe_int)) (nomark _)) (pss_one (ps_ret (pe_op op_mod (pe_callTy call_int1 rfl m_int (by decide +kernel) (pa_cons (pe_op op_fdiv (pe_op op_add (pe_op op_mul (pv 2) (pe_int)) (pe_ix (ix_sqK K) (pv 0) (pe_int) (fun _ _ => rfl))) (pe_int)) (pa_nil))) (pv 1)))) (pss_nil))
 (pss_cons (ps_set (i := 3) sc_l_take.nd rfl (.inl rfl) (pe_op op_mul (pe_op op_add (pe_op op_mul (pv 2) (pe_int)) (pe_ix (ix_sqK K) (pv 0) (pe_int) (fun _ _ => rfl))) (pe_op op_pow (pe_int) (pe_int))))
 (pss_one (ps_ret (pe_op op_mod (pe_callTy call_int1 rfl m_int (by decide +kernel) (pa_cons (pe_op op_add (pe_op op_add (pv 3) (pe_op op_mul (pe_op op_pow (pe_ix (ix_sqK K) (pv 0) (pe_int) (fun _ _ => rfl)) (pe_int)) (pe_int))) (pv 2)) (pa_nil))) (pv 1)))))))))), ?_⟩
    have a0 : ∀ {x y z : Int}, atI [V.int x, V.int y, V.int z] 0 = some (.int x) := rfl
    refine ⟨_, rfl, _, _, _, _, rfl, rfl, .l hb, a0, _, _, rfl, rfl, _, rfl, ite2 (fun c => ?_) (fun c => ?_)⟩
    · refine ⟨_, rfl, _, _, _, _, rfl, rfl, .l hb, a0, .inl ⟨_, rfl, _, rfl, _, _, rfl, rfl, h0, ?_⟩⟩
      refine ⟨_, rfl, _, _, _, _, rfl, rfl, .l hb, a0, _, rfl, _, _, rfl, rfl, ⟨h0, h1⟩, _, rfl, _, _, _, _, rfl, rfl, hb, rfl, ?_⟩
      exact ⟨_, rfl, q _ _ _ _ (Int.emod_nonneg _ (by omega)) (Int.emod_lt_of_pos _ h0)⟩
    · have a1 : ∀ {x y z : Int}, atI [V.int x, V.int y, V.int z] 1 = some (.int y) := rfl
      have a2 : ∀ {x y z : Int}, atI [V.int x, V.int y, V.int z] 2 = some (.int z) := rfl
      refine ⟨_, rfl, _, _, _, _, rfl, rfl, .l hb, a2, _, _, rfl, rfl, _, rfl, _, _, _, _, rfl, rfl, hb, rfl, ?_⟩
      refine ⟨_, rfl, _, _, _, _, rfl, rfl, .l upd_same, a1, _, rfl, _, _, _, _, rfl, rfl, .l upd_same, a2, _, _, rfl, rfl, .inl ⟨by decide, by decide⟩, _, _, rfl, rfl, _, _, rfl, rfl, .inr ⟨by decide, by decide⟩,
        .inl ⟨_, rfl, _, _, rfl, rfl, (by show (0 : Int) < _; decide), ?_⟩⟩
      refine ⟨_, rfl, _, _, rfl, rfl, .inr ⟨by decide, by decide⟩, _, _, rfl, rfl, .inl ⟨_, rfl, _, _, rfl, rfl, (by show (0 : Int) < _; decide), _, _, rfl, rfl, _, rfl, _, _, _, _, rfl, rfl, upd_same, rfl, ?_⟩⟩
      refine ⟨_, rfl, _, _, rfl, rfl, ⟨by decide, by decide, by decide⟩, _, _, rfl, rfl, _, rfl, ?_⟩
      rw [decide_eq_true (show m < (2 : Int) ^ (40 : Int).toNat from Int.lt_trans h1 (by decide))]
      refine ⟨_, rfl, _, _, rfl, rfl, .inr ⟨by decide, by decide⟩, _, rfl, _, _, _, _, rfl, rfl, .l upd_same, a1, _, _, rfl, rfl, _, _, rfl, rfl, ⟨by decide, by decide⟩, .inl ⟨_, rfl, _, rfl, _, _, rfl, rfl, h0, ?_⟩⟩
      rw [upd_upd]
      exact q _ _ _ _ (Int.emod_nonneg _ (by omega)) (Int.emod_lt_of_pos _ h0)
abbrev N_l_pick : List Str := ["_law_box_here", "_law_items"]
theorem sc_l_pick : FnScope N_l_pick ["_law_box_here", "_law_items"] (defScope s_l_pick) := ⟨rfl, rfl, rfl, by decide +kernel, rfl, by decide +kernel, by decide +kernel⟩
theorem ok_pick (F : FnP K "_law_pick" s_l_pick f fd) (m_len : mg "len" = none) (g_l_take : FnAt P w K mg base CX0 1 "_law_take" ["_law_box_here", "_law_many"] spTake) : FnOk P w K mg base CX0 2 f fd ["_law_box_here", "_law_items"] (spPick K) := by
  refine F.ok sc_l_pick (fun vs H Q E h => ?_) (fun cdv A outer s H vs Q E hr h => ?_)
  · obtain ⟨b, l, xs, rfl, _⟩ := h
    rfl
  · obtain ⟨b, l, xs, rfl, hb, hl, hn, h0, h1, q⟩ := h
    refine ⟨_, PSs.nox (pss_one (ps_ret (pe_ix (ix_sqK K) (pv 1) (pe_fn g_l_take hr rfl (pa_cons (pv 0) (pa_cons (pe_callB (call_lenK K) rfl m_len (by decide +kernel) (pa_cons (pv 1) (pa_nil))) (pa_nil)))) (fun _ _ => rfl)))), ?_⟩
    refine ⟨_, rfl, _, rfl, _, rfl, _, _, rfl, hl, b, _, rfl, hb, by omega, by omega, fun x y z d d0 d1 => ?_⟩
    have hd : d.toNat < xs.length := by omega
    exact ⟨l, xs, _, xs[d.toNat], rfl, rfl, hl.upd hn, at_toNat d0 hd, q x y z _ (List.getElem_mem hd)⟩
def spBox3 (K : PySem.W.Frag) : Sp := fun vs H Q _ => ∃ (S : Hp) (x : Scr) (k o : Int), Same S H ∧ ArgsOk K (fun _ => False) H S H vs [.val x, .val k, .val o] ∧ 0 ≤ k ∧ x.ns.length ≤ 1000 ∧ o.natAbs ≤ 1000 ∧ ∀ p H', Same H H' → H p = none → IsBx (H' p) → Q (.ref p) H'
abbrev N_l_box : List Str := ["_law_script", "_law_k", "_law_own", "_law_cell", "_law_seed"]
theorem sc_l_box : FnScope N_l_box ["_law_script", "_law_k", "_law_own"] (defScope s_l_box) := ⟨rfl, rfl, rfl, by decide +kernel, rfl, by decide +kernel, by decide +kernel⟩
theorem ok_box3 (F : FnP K "_law_box" s_l_box f fd) (m_int : mg "int" = none) (m_len : mg "len" = none) (m_abs : mg "abs" = none) : FnOk P w K mg base CX0 1 f fd ["_law_script", "_law_k", "_law_own"] (spBox3 K) := by
  refine F.ok sc_l_box (fun vs H Q E h => ?_) (fun cdv A outer s H vs Q E hr h => ?_)
  · obtain ⟨S, x, k, o, _, ha, _⟩ := h
    rw [ha.length]
    rfl
  · obtain ⟨S, x, k, o, si, ha, k0, hl, ho, q⟩ := h
    refine ⟨_, PSs.nox (pss_cons (ps_set (i := 3) sc_l_box.nd rfl (.inl rfl) (pe_op op_add (pe_op op_add (pe_op op_mul (pe_int) (pv 1)) (pe_op op_mul (pe_int) (pv 2))) (pe_int)))
 (pss_cons (ps_if (pt_cmpR op_lt (pv 1) (pe_callB (call_lenK K) rfl m_len (by decide +kernel) (pa_cons (pv 0) (pa_nil))) (nomark _)) (pss_one (ps_set (i := 3) sc_l_box.nd rfl (.inl rfl) (pe_callB call_abs rfl m_abs (by decide +kernel) (pa_cons (pe_ix (ix_sqK K) (pv 0) (pv 1) (fun _ _ => rfl)) (pa_nil))))) (pss_one (ps_if (pt_cmpR op_gt (pe_callB (call_lenK K) rfl m_len (by decide +kernel) (pa_cons (pv 0) (pa_nil))) (pe_int) (nomark _)) (pss_one (ps_set (i := 3) sc_l_box.nd rfl (.inl rfl) (pe_op op_add (pv 3) (pe_op op_mul (pe_op op_mod (pe_callTy call_int1 rfl m_int (by decide +kernel) (pa_cons (pe_callB call_abs rfl m_abs (by decide +kernel) (pa_cons (pe_ix (ix_sqK K) (pv 0) (pe_op op_mod (pe_callTy call_int1 rfl m_int (by decide +kernel) (pa_cons (pv 1) (pa_nil))) (pe_callB (call_lenK K) rfl m_len (by decide +kernel) (pa_cons (pv 0) (pa_nil)))) (fun _ _ => rfl)) (pa_nil))) (pa_nil))) (pe_int)) (pe_int))))) (pss_nil))))
 (pss_cons (ps_set (i := 4) sc_l_box.nd rfl (.inl rfl) (pe_op op_add (pe_op op_mod (pe_callTy call_int1 rfl m_int (by decide +kernel) (pa_cons (pe_op op_add (pe_op op_mul (pe_op op_mod (pe_callTy call_int1 rfl m_int (by decide +kernel) (pa_cons (pv 3) (pa_nil))) (pe_int)) (pe_int)) (pe_op op_mul (pe_int) (pe_op op_add (pv 1) (pe_op op_mul (pe_int) (pv 2))))) (pa_nil))) (pe_int)) (pe_int)))
 (pss_one (ps_ret (pe_lst (pa_cons (pe_ix (ix_sqK K) (pe_lst (pa_cons (pe_int) (pa_cons (pv 3) (pa_nil)))) (pe_callTy call_int1 rfl m_int (by decide +kernel) (pa_cons (pe_cmpR op_ge (pv 3) (pe_op op_pow (pe_int) (pe_int)) (nomark _)) (pa_nil))) (fun _ _ => rfl)) (pa_cons (pv 4) (pa_cons (pe_int) (pa_nil)))))))))), ?_⟩
    have E0 := start_en (N := N_l_box) si (fun p hp => hp.elim) ha
    have E0 : En K (fun _ => False) S H S H _ [.val x, .val k, .val o, .no, .no] := E0
    generalize L2.start _ vs = σ0 at E0 ⊢
    have px : (fun (S0 H0 : Hp) => True) S H := trivial
    have lb : x.ns.length ≤ BIG := Nat.le_trans hl (by decide)
    let Φ : (List Slot → Prop) → Post := fun nx => ⟨nx, fun _ => False, fun _ => False, fun _ => False, fun _ _ => True⟩
    refine (ds_asg (Φ := Φ fun r => ∃ c : Int, r = [.val x, .val k, .val o, .val c, .no]) (d_add (d_add (d_mul d_int (d_var rfl) (.inl ⟨by decide, by decide⟩)) (d_mul d_int (d_var rfl) (.inl ⟨by decide, by decide⟩))) d_int) ⟨_, rfl⟩).runB E0 fun r1 σ1 S1 H1 ⟨c0, hq⟩ s1 E1 => ?_
    subst hq
    refine (ds_if (Φ := Φ fun r => ∃ c : Int, r = [.val x, .val k, .val o, .val c, .no]) (dt_test (d_lt (d_var rfl) (d_len (d_scr (d_var rfl) lb)))) (fun h => ?_) (fun _ => ds_if (dt_test (d_gt (d_len (d_scr (d_var rfl) lb)) d_int)) (fun h => ?_) fun _ => ds_next ⟨_, rfl⟩)).runB E1 fun r2 σ2 S2 H2 ⟨c2, hq⟩ s2 E2 => ?_
    · have h := of_decide_eq_true h
      have hk : k.toNat < x.ns.length := by omega
      exact ds_asg (d_abs (d_ix (d_scr (d_var rfl) lb) (d_var rfl) (at_toNat k0 hk))) ⟨_, rfl⟩
    · have h := of_decide_eq_true h
      have h1 := Int.emod_nonneg k (b := (x.ns.length : Int)) (by omega)
      have h2 := Int.emod_lt_of_pos k h
      exact ds_asg (d_add (d_var rfl) (d_mul (d_mod (d_intI (d_abs (d_ix (d_scr (d_var rfl) lb) (d_mod (d_intI (d_var rfl)) (d_len (d_scr (d_var rfl) lb)) h) (at_toNat h1 (by omega))))) d_int (by decide)) d_int (.inr ⟨by decide, by decide⟩))) ⟨_, rfl⟩
    subst hq
    refine (ds_asg (Φ := Φ fun r => ∃ c : Int, r = [.val x, .val k, .val o, .val c2, .val c]) (d_add (d_mod (d_intI (d_add (d_mul (d_mod (d_intI (d_var rfl)) d_int (by decide)) d_int (.inr ⟨by decide, by decide⟩)) (d_mul d_int (d_add (d_var rfl) (d_mul d_int (d_var rfl) (.inl ⟨by decide, by decide⟩))) (.inl ⟨by decide, by decide⟩)))) d_int (by decide)) d_int) ⟨_, rfl⟩).runB E2 fun r3 σ3 S3 H3 ⟨c3, hq⟩ s3 E3 => ?_
    subst hq
    have ec := E3.ext
    refine (d_ix (xs := [0, c2]) (x := if (10 : Int) ^ (18 : Int).toNat ≤ c2 then c2 else 0) (DO.q (do_lst (dl_cons d_int (dl_cons (d_var rfl) dl_nil)) (by show 2 ≤ BIG; decide))) (d_intB (d_ge (d_var rfl) (d_pow d_int d_int ⟨by decide, by decide, by decide⟩))) ?_ : DE K (fun _ => False) _ [.val x, .val k, .val o, .val c2, .val c3] _) S H S3 H3 σ3 E3 _ fun v1 S4 H4 e4 w1 => ?_
    · by_cases hc : (10 : Int) ^ (18 : Int).toNat ≤ c2
      · rw [decide_eq_true hc, if_pos hc]
        rfl
      · rw [decide_eq_false hc, if_neg hc]
        rfl
    cases w1
    obtain ⟨v2, g2, w2⟩ := (E3.go e4).val (i := 4) (a := c3) rfl
    cases w2
    refine ⟨_, g2, by show 3 ≤ sizeLine; decide, fun p hp => ?_⟩
    have ee := ec.trans e4
    refine q p _ (fun a u ha => ?_) (ee.free si hp) ⟨_, _, _, upd_same⟩
    have na : a ≠ p := fun z => by
      rw [z] at ha
      rw [ee.free si hp] at ha
      cases ha
    rw [upd_ne na]
    cases hs : S a with
    | some u' =>
      have := ee.i _ _ (ee.s _ _ hs)
      rw [si _ _ hs] at ha
      cases ha
      exact this
    | none =>
      rcases (ee.p a hs (by rw [ha]; exact fun z => nomatch z)).2 with z | ⟨z, _⟩
      · rw [z, ha]
      · exact z.elim
theorem d_box3 {B : Addr → Prop} {ρ : List Slot} {ta tb tc : TE} {x : Scr} {k o : Int} (h1 : DE K B ta ρ x) (h2 : DE K B tb ρ k) (h3 : DE K B tc ρ o) (k0 : 0 ≤ k) (hl : x.ns.length ≤ 1000) (ho : o.natAbs ≤ 1000) : DBox K B (tCall (spBox3 K) [] E0 (tCons ta (tCons tb (tCons tc tNil)))) ρ := fun S0 H0 S H σ E Q q =>
  h1 S0 H0 S H σ E _ fun v S1 H1 e1 r1 => h2 S0 H0 S1 H1 σ (E.go e1) _ fun w S2 H2 e2 r2 => h3 S0 H0 S2 H2 σ (E.go (e1.trans e2)) _ fun u S3 H3 e3 r3 =>
    ⟨S3, x, k, o, e3.i, .cons (Enc.mono (e2.s.trans e3.s) r1) rfl (.cons (Enc.mono e3.s r2) rfl (.cons r3 rfl .nil)), k0, hl, ho, fun p H' sm hp bx => q p S3 H3 H' ((e1.trans e2).trans e3) sm hp bx⟩
theorem erase_perm {α : Type} : ∀ {ys : List α} {j : Nat} {y : α}, ys[j]? = some y → (y :: ys.eraseIdx j).Perm ys
  | [], j, y, h => by simp at h
  | x :: r, 0, y, h => by
    simp at h
    subst h
    exact .refl _
  | x :: r, j + 1, y, h => by
    rw [List.eraseIdx_cons_succ]
    exact (List.Perm.swap x y _).trans (.cons x (erase_perm (by simpa using h)))
abbrev N_l_mixed : List Str := ["_law_box_here", "_law_items", "_law_left", "_law_found", "_law_turn"]
theorem sc_l_mixed : FnScope N_l_mixed ["_law_box_here", "_law_items"] (defScope s_l_mixed) := ⟨rfl, rfl, rfl, by decide +kernel, rfl, by decide +kernel, by decide +kernel⟩
theorem ok_mixed (F : FnP K "_law_mixed" s_l_mixed f fd) (m_list : mg "list" = none) (m_len : mg "len" = none) (m_range : mg "range" = none) (g_l_take : FnAt P w K mg base CX0 1 "_law_take" ["_law_box_here", "_law_many"] (spT K dpTake)) : FnOk P w K mg base CX0 2 f fd ["_law_box_here", "_law_items"] (spT K (dpb1 (fun xs : L Str => List.length xs ≤ 1000) (fun (xs zs : L Str) => List.Perm zs xs))) := by
  refine okT F sc_l_mixed (fun ss R h => ?_) (fun cdv A outer s H E hr => ⟨_, (pss_cons (ps_par (i := 2) (j := 3) rfl sc_l_mixed.nd rfl rfl (by decide) rfl rfl (pa_cons (pe_callTy (call_listK K) rfl m_list (by decide +kernel) (pa_cons (pv 1) (pa_nil))) (pa_cons (pe_lst (pa_nil)) (pa_nil))) rfl)
 (pss_cons (ps_for PassesOwn.never rfl (pi_range1 rfl m_range (pa_cons (pe_callB (call_lenK K) rfl m_len (by decide +kernel) (pa_cons (pv 2) (pa_nil))) (pa_nil))) (pg_name (i := 4) sc_l_mixed.nd rfl (.inl rfl)) (pss_one (ps_expr (pe_bmK K PySem.F.plainAttrs_list PySem.F.slot_list_append PySem.F.type_list_append mt_append (pv 3) (pa_cons (pe_bmK K PySem.F.plainAttrs_list PySem.F.slot_list_pop PySem.F.type_list_pop mt_popAt (pv 2) (pa_cons (pe_fn g_l_take hr rfl (pa_cons (pv 0) (pa_cons (pe_callB (call_lenK K) rfl m_len (by decide +kernel) (pa_cons (pv 2) (pa_nil))) (pa_nil)))) (pa_nil))) (pa_nil))))))
 (pss_one (ps_ret (pv 3))))), fun B ss R h => ?_⟩)
  · obtain ⟨x, rfl, _⟩ := h
    rfl
  · obtain ⟨xs, rfl, hl, q⟩ := h
    have lb : List.length xs ≤ BIG := Nat.le_trans hl (by decide)
    show DS K B _ [.box, .val xs, .no, .no, .no] _
    refine ds_seq (ds_parOO (do_list (d_Lq (d_var rfl))) (do_nil Str) (by decide) ?_)
    show DS K B _ [.box, .val xs, .own (α := Str) xs, .own (α := Str) [], .no] _
    refine dq_for (di_rng1 (d_lenO (xs := xs) rfl) (Int.le_trans (by decide) (Int.natCast_nonneg _)) (by show ((List.length xs : Nat) : Int) < 2 ^ 62; omega)) (fun i r => ∃ (ys zs : List Str) (s4 : Slot), r = [.box, .val xs, .own ys, .own zs, s4] ∧ List.Perm (zs ++ ys) xs ∧ zs.length = i) ⟨xs, [], .no, rfl, .refl _, rfl⟩ (fun i x r hx hI => ?_) fun r hI => ?_
    · obtain ⟨ys, zs, s4, rfl, pm, zl⟩ := hI
      have hi := (List.getElem?_eq_some_iff.mp hx).1
      rw [rg_len, Int.sub_zero, Int.toNat_natCast] at hi
      have pl := pm.length_eq
      rw [List.length_append] at pl
      have hi : i < List.length xs := hi
      refine ⟨_, _, dg_name, ?_⟩
      show DS K B _ [.box, .val xs, .own ys, .own zs, .val x] _
      refine ds_popApp (n := 3) (m := 2) rfl rfl (by decide) (dn_callb1 rfl (d_lenO (xs := ys) rfl) ⟨by omega, by omega⟩) (fun i h => h) (by show zs.length < BIG; exact Nat.lt_of_le_of_lt (show zs.length ≤ 1000 by omega) (by decide)) fun i j y hi ej hy => ⟨ys.eraseIdx j, zs ++ [y], .val x, rfl, ?_, by rw [List.length_append, zl]; rfl⟩
      refine List.Perm.trans ?_ pm
      rw [List.append_assoc]
      exact List.Perm.append_left _ (erase_perm hy)
    · obtain ⟨ys, zs, s4, rfl, pm, zl⟩ := hI
      rw [rg_len, Int.sub_zero, Int.toNat_natCast] at zl
      have zl : zs.length = List.length xs := zl
      have pl := pm.length_eq
      rw [List.length_append] at pl
      have y0 : ys = [] := List.eq_nil_of_length_eq_zero (by have : List.length xs = zs.length + ys.length := pl.symm; omega)
      subst y0
      rw [List.append_nil] at pm
      exact ds_frz (n := 3) rfl (ds_ret (d_var rfl) (q zs pm))
def A14 : List Str := ["a", "b", "in", "out", "at", "cut", "fold", "oven", "press", "done", "link", "use", "zzzzz", "order"]
def ALLN : List Str := ["a", "b", "in", "out", "at", "cut", "fold", "oven", "press", "done", "link", "use", "zzzzz", "order", "c", "d", "e", "g"]
structure Drn (n : Int) (zs : List Str) : Prop where
  len : (zs.length : Int) = n
  nd : zs.Nodup
  all : ∀ z ∈ zs, z ∈ ALLN
abbrev N_l_names : List Str := ["_law_box_here", "_law_many", "_law_some"]
theorem sc_l_names : FnScope N_l_names ["_law_box_here", "_law_many"] (defScope s_l_names) := ⟨rfl, rfl, rfl, by decide +kernel, rfl, by decide +kernel, by decide +kernel⟩
theorem ok_names (F : FnP K "_law_names" s_l_names f fd) (g_l_mixed : FnAt P w K mg base CX0 2 "_law_mixed" ["_law_box_here", "_law_items"] (spT K (dpb1 (fun xs : L Str => List.length xs ≤ 1000) (fun (xs zs : L Str) => List.Perm zs xs)))) : FnOk P w K mg base CX0 3 f fd ["_law_box_here", "_law_many"] (spT K (dpb1 (fun n : Int => 0 ≤ n ∧ n ≤ 18) (fun n (zs : L Str) => Drn n zs))) := by
  refine okT F sc_l_names (fun ss R h => ?_) (fun cdv A outer s H E hr => ⟨_, (pss_cons (ps_set (i := 2) sc_l_names.nd rfl (.inl rfl) (pe_lst (pa_cons (pe_str) (pa_cons (pe_str) (pa_cons (pe_str) (pa_cons (pe_str) (pa_cons (pe_str) (pa_cons (pe_str) (pa_cons (pe_str) (pa_cons (pe_str) (pa_cons (pe_str) (pa_cons (pe_str) (pa_cons (pe_str) (pa_cons (pe_str) (pa_cons (pe_str) (pa_cons (pe_str) (pa_nil)))))))))))))))))
 (pss_one (ps_ret (pe_slice (sl_sqK K) (pe_fn g_l_mixed hr rfl (pa_cons (pv 0) (pa_cons (pe_op op_cat (pv 2) (pe_lst (pa_cons (pe_str) (pa_cons (pe_str) (pa_cons (pe_str) (pa_cons (pe_str) (pa_nil))))))) (pa_nil)))) (po_none) (po_some (pv 1)))))), fun B ss R h => ?_⟩)
  · obtain ⟨x, rfl, _⟩ := h
    rfl
  · obtain ⟨n, rfl, ⟨n0, n1⟩, q⟩ := h
    show DS K B _ [.box, .val n, .no] _
    refine dq_asgI (δ := L Str) A14 (DO.l (do_lst (by repeat' first | exact dl_nil | refine dl_cons d_str ?_) (by decide))) ?_
    refine ds_retN (dn_slTo (dn_callb1 (pre := fun xs : L Str => List.length xs ≤ 1000) (P := fun (xs zs : L Str) => List.Perm zs xs) (x := ALLN) rfl (DO.l (do_cat (xs := A14) (ys := ["c", "d", "e", "g"]) (d_var rfl) (DO.l (do_lst (dl_cons d_str (dl_cons d_str (dl_cons d_str (dl_cons d_str dl_nil)))) (by decide))) (by decide))) (by decide)) (d_var rfl)) fun zs hz => q zs ?_
    obtain ⟨xs, pm, rfl⟩ := hz
    obtain ⟨k, rfl⟩ : ∃ k : Nat, n = k := ⟨n.toNat, by omega⟩
    have pl : xs.length = 18 := pm.length_eq
    have e : cutA xs none (some (k : Int)) = xs.take k := cutA_take
    rw [e]
    refine ⟨?_, List.Pairwise.sublist (List.take_sublist k xs) (pm.nodup_iff.mpr (by decide +kernel)), fun z hz => pm.subset (List.mem_of_mem_take hz)⟩
    rw [List.length_take]
    omega
end
end WW
set_option Elab.async false
set_option linter.all false
set_option maxRecDepth 100000
set_option maxHeartbeats 4000000
namespace WW
open PySem PySem.Spec PyProof.Rows L2
structure KsOk (ks : List DMd) : Prop where
  nd : (ks.map (·.n)).Nodup
  len : ks.length ≤ 10
  all : ∀ d ∈ ks, d.all.length ≤ 18 ∧ (∀ z ∈ d.all, z ∈ ALLN) ∧ d.n.length ≤ 5
structure MOk (m : DMd) (ks : List DMd) : Prop where
  nd : m.all.Nodup
  al : ∀ z ∈ m.all, z ∈ ALLN
  ln : m.all.length ≤ 18
  s1 : 0 < m.s.length
  o1 : 0 < m.o.length
  nl : m.n.length ≤ 5
  cl : ∀ t ∈ m.c, t.2 ∈ ks.map (·.n)
def endsM (m : DMd) : List Str := m.i ++ m.s ++ m.labels ++ m.o
def hdS (z : Str) : Str := (Txt.split z ".").headD ""
theorem alln_len : ∀ z ∈ ALLN, z.length ≤ 5 := by decide +kernel
theorem split1 : ∀ z ∈ ALLN, Txt.split z "." = [z] := by decide +kernel
theorem split2 : ∀ a ∈ ALLN, ∀ b ∈ ALLN, Txt.split (dotted a b) "." = [a, b] := by decide +kernel
theorem dotted_len : ∀ a ∈ ALLN, ∀ b ∈ ALLN, (dotted a b).length ≤ 11 := by decide +kernel
theorem ends_of {m : DMd} {ks : List DMd} (ok : MOk m ks) (hk : KsOk ks) {z : Str} (h : z ∈ begM m ks ∨ z ∈ goeM m ks) : (∃ r, Txt.split z "." = hdS z :: r) ∧ hdS z ∈ endsM m ∧ z.length ≤ 11 ∧ (Txt.split z ".").length ≤ 2 := by
  have one : ∀ z, z ∈ m.all → z ∈ endsM m → (∃ r, Txt.split z "." = hdS z :: r) ∧ hdS z ∈ endsM m ∧ z.length ≤ 11 ∧ (Txt.split z ".").length ≤ 2 := fun z h1 h2 => by
    have e := split1 z (ok.al z h1)
    have l := alln_len z (ok.al z h1)
    unfold hdS
    rw [e]
    exact ⟨⟨[], rfl⟩, h2, by omega, by show 1 ≤ 2; decide⟩
  have two : ∀ t ∈ m.c, ∀ y ∈ ALLN, (∃ r, Txt.split (dotted t.1 y) "." = hdS (dotted t.1 y) :: r) ∧ hdS (dotted t.1 y) ∈ endsM m ∧ (dotted t.1 y).length ≤ 11 ∧ (Txt.split (dotted t.1 y) ".").length ≤ 2 := fun t ht y hy => by
    have hl : t.1 ∈ m.labels := List.mem_map.mpr ⟨t, ht, rfl⟩
    have ha : t.1 ∈ ALLN := ok.al _ (List.mem_append_right _ hl)
    have e := split2 t.1 ha y hy
    unfold hdS
    rw [e]
    exact ⟨⟨[y], rfl⟩, List.mem_append_left _ (List.mem_append_right _ hl), dotted_len t.1 ha y hy, Nat.le_refl _⟩
  have inM : ∀ t ∈ m.c, findM ks t.2 ∈ ks := fun t ht => (get_find (ok.cl t ht)).2.1
  unfold begM goeM at h
  rcases h with h | h
  · rcases List.mem_append.mp h with h | h
    · rcases List.mem_append.mp h with h | h
      · exact one z (List.mem_append_left _ (List.mem_append_left _ (List.mem_append_left _ h))) (List.mem_append_left _ (List.mem_append_left _ (List.mem_append_left _ h)))
      · exact one z (List.mem_append_left _ (List.mem_append_right _ h)) (List.mem_append_left _ (List.mem_append_left _ (List.mem_append_right _ h)))
    · obtain ⟨t, ht, hz⟩ := List.mem_flatMap.mp h
      obtain ⟨y, hy, rfl⟩ := List.mem_map.mp hz
      exact two t ht y ((hk.all _ (inM t ht)).2.1 y (List.mem_append_left _ (List.mem_append_left _ (List.mem_append_right _ hy))))
  · rcases List.mem_append.mp h with h | h
    · rcases List.mem_append.mp h with h | h
      · exact one z (List.mem_append_left _ (List.mem_append_right _ h)) (List.mem_append_left _ (List.mem_append_left _ (List.mem_append_right _ h)))
      · exact one z (List.mem_append_left _ (List.mem_append_left _ (List.mem_append_right _ h))) (List.mem_append_right _ h)
    · obtain ⟨t, ht, hz⟩ := List.mem_flatMap.mp h
      obtain ⟨y, hy, rfl⟩ := List.mem_map.mp hz
      exact two t ht y ((hk.all _ (inM t ht)).2.1 y (List.mem_append_left _ (List.mem_append_left _ (List.mem_append_left _ hy))))
structure LkOk (m : DMd) (ks : List DMd) (t : Lk) : Prop where
  a : t.a ∈ begM m ks
  b : t.b ∈ goeM m ks
  c0 : 0 ≤ t.c
  c1 : t.c < 3
  d0 : 0 ≤ t.d
  d1 : t.d < 10
  on : t.c = 0 → (endsM m).idxOf (hdS t.a) < (endsM m).idxOf (hdS t.b)
section
variable {P : Program} {w : World} {K : PySem.W.Frag} {mg : Str → Option Value} {base : Heap} {f : Addr} {fd : FuncData}
def dpBeg : List Slot → (Slot → Prop) → Prop := fun ss R => ∃ (m : DMd) (ks : List DMd), ss = [.out (ownD m.base), .val (KN.mk ks)] ∧ MOk m ks ∧ KsOk ks ∧ R (.val (α := L Str) (begM m ks))
def dpGoe : List Slot → (Slot → Prop) → Prop := fun ss R => ∃ (m : DMd) (ks : List DMd), ss = [.out (ownD m.base), .val (KN.mk ks)] ∧ MOk m ks ∧ KsOk ks ∧ R (.val (α := L Str) (goeM m ks))
theorem all_lens {m : DMd} (h : m.all.length ≤ 18) : m.i.length + m.o.length + m.s.length + m.c.length ≤ 18 := by
  unfold DMd.all DMd.labels at h
  simp only [List.length_append, List.length_map] at h
  exact h
abbrev N_l_begins : List Str := ["_law_module_here", "_law_known", "_law_found", "_law_label", "_law_name", "_law_outlet"]
theorem sc_l_begins : FnScope N_l_begins ["_law_module_here", "_law_known"] (defScope s_l_begins) := ⟨rfl, rfl, rfl, by decide +kernel, rfl, by decide +kernel, by decide +kernel⟩
theorem ok_begins (F : FnP K "_law_begins" s_l_begins f fd) : FnOk P w K mg base CX0 1 f fd ["_law_module_here", "_law_known"] (spT K dpBeg) := by
  refine okT F sc_l_begins (fun ss R h => ?_) (fun cdv A outer s H E hr => ⟨_, (pss_cons (ps_set (i := 2) sc_l_begins.nd rfl (.inl rfl) (pe_op op_cat (pe_dget (hu_of hr) (pv 0) (pe_str) (fun _ _ => rfl)) (pe_dget (hu_of hr) (pv 0) (pe_str) (fun _ _ => rfl))))
 (pss_cons (ps_for PassesOwn.never rfl (pi_seqK K (pe_dget (hu_of hr) (pv 0) (pe_str) (fun _ _ => rfl))) (pg_tupK (n := 2) K rfl (pgs_cons (pg_name (i := 3) sc_l_begins.nd rfl (.inr rfl)) (pgs_cons (pg_name (i := 4) sc_l_begins.nd rfl (.inl rfl)) (pgs_nil)))) (pss_one (ps_set (i := 2) sc_l_begins.nd rfl (.inl rfl) (pe_op op_cat (pv 2) (pe_lc (own := [("_law_outlet", 5)]) rfl sc_l_begins.nd (pi_seqK K (pe_dget (hu_of hr) (pe_dget (hu_of hr) (pv 1) (pv 4) (fun _ _ => rfl)) (pe_str) (fun _ _ => rfl))) (blkOk_by (N := N_l_begins) (sc := defScope s_l_begins) (by decide +kernel)) (fun _ _ _ _ _ => pg_name (i := 5) sc_l_begins.nd rfl (.inl rfl)) (fun _ _ _ _ _ => pts_nil) (fun _ _ _ _ _ => pe_op op_add_str (pe_op op_add_str (pv 3) (pe_str)) (pv 5)))))))
 (pss_one (ps_ret (pv 2))))), fun B ss R h => ?_⟩)
  · obtain ⟨m, ks, rfl, _⟩ := h
    rfl
  · obtain ⟨m, ks, rfl, ok, hk, q⟩ := h
    have al := all_lens ok.ln
    show DS K B _ [.out (ownD m.base), .val (KN.mk ks), .no, .no, .no, .no] _
    have b18 : ∀ {n : Nat}, n ≤ 1000 → n ≤ BIG := fun h => Nat.le_trans h (by decide)
    refine dq_asgI (δ := L Str) (m.i ++ m.s) (DO.l (do_cat (d_va (α := L Str) (d_getDO (n := 0) rfl d_str (a := strsA m.i) rfl)) (d_va (α := L Str) (d_getDO (n := 0) rfl d_str (a := strsA m.s) rfl)) (b18 (by omega)))) ?_
    show DS K B _ [.out (ownD m.base), .val (KN.mk ks), .val (α := L Str) (m.i ++ m.s), .no, .no, .no] _
    let g : Str × Str → List Str := fun t => (findM ks t.2).o.map fun z => dotted t.1 z
    have fl : ∀ t ∈ m.c, (findM ks t.2).o.length ≤ 18 := fun t ht => by
      have := all_lens (hk.all _ (get_find (ok.cl t ht)).2.1).1
      omega
    refine dq_for (xs := m.c) (di_seq (d_Lq (d_va (α := L (Str × Str)) (d_getDO (n := 0) rfl d_str (a := callsA m.c) rfl)))) (fun i r => ∃ s3 s4 s5 : Slot, r = [.out (ownD m.base), .val (KN.mk ks), .val (α := L Str) (m.i ++ m.s ++ (m.c.take i).flatMap g), s3, s4, s5]) ⟨.no, .no, .no, by simp⟩ (fun i t r ht hI => ?_) fun r hI => ?_
    · obtain ⟨s3, s4, s5, rfl⟩ := hI
      have tm := List.mem_of_getElem? ht
      obtain ⟨g1, g2, g3⟩ := get_find (ok.cl t tm)
      have la : t.1 ∈ ALLN := ok.al _ (List.mem_append_right _ (List.mem_map.mpr ⟨t, tm, rfl⟩))
      have ll := alln_len _ la
      refine ⟨_, _, DG.pair dg_name dg_name, ?_⟩
      show DS K B _ [.out (ownD m.base), .val (KN.mk ks), .val (α := L Str) (m.i ++ m.s ++ (m.c.take i).flatMap g), .val t.1, .val t.2, s5] _
      refine ds_asg (α := L Str) (a := m.i ++ m.s ++ (m.c.take i).flatMap g ++ g t) (DO.l (do_cat (d_var rfl) (DO.l (do_map (fun z => dotted t.1 z) (di_seq (d_Lq (d_va (α := L Str) (d_getD (d := (findM ks t.2).dc) (d_dc (d_known (d_var rfl) (d_var rfl) (ok.cl t tm))) d_str (a := strsA (findM ks t.2).o) rfl)))) (b18 (by have := fl t tm; omega)) fun z hz => ⟨_, _, dg_name, by simp, d_addS (d_addS (d_var rfl) d_str ?_) (d_var rfl) ?_⟩)) ?_)) ⟨.val t.1, .val t.2, s5, ?_⟩
      · exact b18 (by show t.1.length + 1 ≤ 1000; omega)
      · have zl := alln_len z ((hk.all _ g2).2.1 z (List.mem_append_left _ (List.mem_append_left _ (List.mem_append_right _ hz))))
        have e : (t.1 ++ Str.ofString ".").length = t.1.length + 1 := by
          show (t.1.cps ++ (Str.ofString ".").cps).size = _
          rw [Array.size_append]
          rfl
        rw [e]
        exact b18 (by omega)
      · have h1 := flat_len g 18 (l := m.c.take i) fun x hx => by
          show ((findM ks x.2).o.map _).length ≤ 18
          rw [List.length_map]
          exact fl x (List.mem_of_mem_take hx)
        have h2 : (g t).length ≤ 18 := by
          show ((findM ks t.2).o.map _).length ≤ 18
          rw [List.length_map]
          exact fl t tm
        have h3 : (m.c.take i).length ≤ 18 := by rw [List.length_take]; omega
        simp only [List.length_append, List.length_map]
        refine b18 ?_
        have : (m.c.take i).length * 18 ≤ 18 * 18 := Nat.mul_le_mul_right _ h3
        omega
      · rw [List.take_add_one, ht, List.flatMap_append, ← List.append_assoc]
        simp [g]
    · obtain ⟨s3, s4, s5, rfl⟩ := hI
      rw [List.take_length]
      exact ds_ret (d_var rfl) q
abbrev N_l_goes : List Str := ["_law_module_here", "_law_known", "_law_found", "_law_label", "_law_name", "_law_inlet"]
theorem sc_l_goes : FnScope N_l_goes ["_law_module_here", "_law_known"] (defScope s_l_goes) := ⟨rfl, rfl, rfl, by decide +kernel, rfl, by decide +kernel, by decide +kernel⟩
theorem ok_goes (F : FnP K "_law_goes" s_l_goes f fd) : FnOk P w K mg base CX0 1 f fd ["_law_module_here", "_law_known"] (spT K dpGoe) := by
  refine okT F sc_l_goes (fun ss R h => ?_) (fun cdv A outer s H E hr => ⟨_, (pss_cons (ps_set (i := 2) sc_l_goes.nd rfl (.inl rfl) (pe_op op_cat (pe_dget (hu_of hr) (pv 0) (pe_str) (fun _ _ => rfl)) (pe_dget (hu_of hr) (pv 0) (pe_str) (fun _ _ => rfl))))
 (pss_cons (ps_for PassesOwn.never rfl (pi_seqK K (pe_dget (hu_of hr) (pv 0) (pe_str) (fun _ _ => rfl))) (pg_tupK (n := 2) K rfl (pgs_cons (pg_name (i := 3) sc_l_goes.nd rfl (.inr rfl)) (pgs_cons (pg_name (i := 4) sc_l_goes.nd rfl (.inl rfl)) (pgs_nil)))) (pss_one (ps_set (i := 2) sc_l_goes.nd rfl (.inl rfl) (pe_op op_cat (pv 2) (pe_lc (own := [("_law_inlet", 5)]) rfl sc_l_goes.nd (pi_seqK K (pe_dget (hu_of hr) (pe_dget (hu_of hr) (pv 1) (pv 4) (fun _ _ => rfl)) (pe_str) (fun _ _ => rfl))) (blkOk_by (N := N_l_goes) (sc := defScope s_l_goes) (by decide +kernel)) (fun _ _ _ _ _ => pg_name (i := 5) sc_l_goes.nd rfl (.inl rfl)) (fun _ _ _ _ _ => pts_nil) (fun _ _ _ _ _ => pe_op op_add_str (pe_op op_add_str (pv 3) (pe_str)) (pv 5)))))))
 (pss_one (ps_ret (pv 2))))), fun B ss R h => ?_⟩)
  · obtain ⟨m, ks, rfl, _⟩ := h
    rfl
  · obtain ⟨m, ks, rfl, ok, hk, q⟩ := h
    have al := all_lens ok.ln
    show DS K B _ [.out (ownD m.base), .val (KN.mk ks), .no, .no, .no, .no] _
    have b18 : ∀ {n : Nat}, n ≤ 1000 → n ≤ BIG := fun h => Nat.le_trans h (by decide)
    refine dq_asgI (δ := L Str) (m.s ++ m.o) (DO.l (do_cat (d_va (α := L Str) (d_getDO (n := 0) rfl d_str (a := strsA m.s) rfl)) (d_va (α := L Str) (d_getDO (n := 0) rfl d_str (a := strsA m.o) rfl)) (b18 (by omega)))) ?_
    show DS K B _ [.out (ownD m.base), .val (KN.mk ks), .val (α := L Str) (m.s ++ m.o), .no, .no, .no] _
    let g : Str × Str → List Str := fun t => (findM ks t.2).i.map fun z => dotted t.1 z
    have fl : ∀ t ∈ m.c, (findM ks t.2).i.length ≤ 18 := fun t ht => by
      have := all_lens (hk.all _ (get_find (ok.cl t ht)).2.1).1
      omega
    refine dq_for (xs := m.c) (di_seq (d_Lq (d_va (α := L (Str × Str)) (d_getDO (n := 0) rfl d_str (a := callsA m.c) rfl)))) (fun i r => ∃ s3 s4 s5 : Slot, r = [.out (ownD m.base), .val (KN.mk ks), .val (α := L Str) (m.s ++ m.o ++ (m.c.take i).flatMap g), s3, s4, s5]) ⟨.no, .no, .no, by simp⟩ (fun i t r ht hI => ?_) fun r hI => ?_
    · obtain ⟨s3, s4, s5, rfl⟩ := hI
      have tm := List.mem_of_getElem? ht
      obtain ⟨g1, g2, g3⟩ := get_find (ok.cl t tm)
      have la : t.1 ∈ ALLN := ok.al _ (List.mem_append_right _ (List.mem_map.mpr ⟨t, tm, rfl⟩))
      have ll := alln_len _ la
      refine ⟨_, _, DG.pair dg_name dg_name, ?_⟩
      show DS K B _ [.out (ownD m.base), .val (KN.mk ks), .val (α := L Str) (m.s ++ m.o ++ (m.c.take i).flatMap g), .val t.1, .val t.2, s5] _
      refine ds_asg (α := L Str) (a := m.s ++ m.o ++ (m.c.take i).flatMap g ++ g t) (DO.l (do_cat (d_var rfl) (DO.l (do_map (fun z => dotted t.1 z) (di_seq (d_Lq (d_va (α := L Str) (d_getD (d := (findM ks t.2).dc) (d_dc (d_known (d_var rfl) (d_var rfl) (ok.cl t tm))) d_str (a := strsA (findM ks t.2).i) rfl)))) (b18 (by have := fl t tm; omega)) fun z hz => ⟨_, _, dg_name, by simp, d_addS (d_addS (d_var rfl) d_str ?_) (d_var rfl) ?_⟩)) ?_)) ⟨.val t.1, .val t.2, s5, ?_⟩
      · exact b18 (by show t.1.length + 1 ≤ 1000; omega)
      · have zl := alln_len z ((hk.all _ g2).2.1 z (List.mem_append_left _ (List.mem_append_left _ (List.mem_append_left _ hz))))
        have e : (t.1 ++ Str.ofString ".").length = t.1.length + 1 := by
          show (t.1.cps ++ (Str.ofString ".").cps).size = _
          rw [Array.size_append]
          rfl
        rw [e]
        exact b18 (by omega)
      · have h1 := flat_len g 18 (l := m.c.take i) fun x hx => by
          show ((findM ks x.2).i.map _).length ≤ 18
          rw [List.length_map]
          exact fl x (List.mem_of_mem_take hx)
        have h2 : (g t).length ≤ 18 := by
          show ((findM ks t.2).i.map _).length ≤ 18
          rw [List.length_map]
          exact fl t tm
        have h3 : (m.c.take i).length ≤ 18 := by rw [List.length_take]; omega
        simp only [List.length_append, List.length_map]
        refine b18 ?_
        have : (m.c.take i).length * 18 ≤ 18 * 18 := Nat.mul_le_mul_right _ h3
        omega
      · rw [List.take_add_one, ht, List.flatMap_append, ← List.append_assoc]
        simp [g]
    · obtain ⟨s3, s4, s5, rfl⟩ := hI
      rw [List.take_length]
      exact ds_ret (d_var rfl) q
def dpLinks : List Slot → (Slot → Prop) → Prop := fun ss R => ∃ (m : DMd) (ks : List DMd), ss = [.box, .out (ownD m.base), .val (KN.mk ks)] ∧ MOk m ks ∧ KsOk ks ∧ ∀ ls : List Lk, (∀ t ∈ ls, LkOk m ks t) → ls.length ≤ 8 → R (.val (α := L Lk) ls)
theorem beg_len {m : DMd} {ks : List DMd} (ok : MOk m ks) (hk : KsOk ks) : (begM m ks).length ≤ 400 ∧ (goeM m ks).length ≤ 400 ∧ 0 < (begM m ks).length ∧ 0 < (goeM m ks).length := by
  have al := all_lens ok.ln
  have s1 := ok.s1
  have h1 := flat_len (fun t : Str × Str => (findM ks t.2).o.map fun z => dotted t.1 z) 18 (l := m.c) fun t ht => by
    have := all_lens (hk.all _ (get_find (ok.cl t ht)).2.1).1
    rw [List.length_map]
    omega
  have h2 := flat_len (fun t : Str × Str => (findM ks t.2).i.map fun z => dotted t.1 z) 18 (l := m.c) fun t ht => by
    have := all_lens (hk.all _ (get_find (ok.cl t ht)).2.1).1
    rw [List.length_map]
    omega
  have h3 : m.c.length * 18 ≤ 18 * 18 := Nat.mul_le_mul_right _ (by omega)
  unfold begM goeM
  simp only [List.length_append]
  omega
abbrev N_l_links : List Str := ["_law_box_here", "_law_module_here", "_law_known", "_law_ends", "_law_begins_here", "_law_goes_here", "_law_found", "_law_turn", "_law_first", "_law_then", "_law_is_onward", "_law_marks", "_law_label", "_law_name"]
theorem sc_l_links : FnScope N_l_links ["_law_box_here", "_law_module_here", "_law_known"] (defScope s_l_links) := ⟨rfl, rfl, rfl, by decide +kernel, rfl, by decide +kernel, by decide +kernel⟩
theorem ok_links (F : FnP K "_law_links" s_l_links f fd) (m_range : mg "range" = none) (g_l_begins : FnAt P w K mg base CX0 1 "_law_begins" ["_law_module_here", "_law_known"] (spT K dpBeg)) (g_l_goes : FnAt P w K mg base CX0 1 "_law_goes" ["_law_module_here", "_law_known"] (spT K dpGoe))
    (g_l_take : FnAt P w K mg base CX0 1 "_law_take" ["_law_box_here", "_law_many"] (spT K dpTake)) (g_l_pick : FnAt P w K mg base CX0 2 "_law_pick" ["_law_box_here", "_law_items"] (spT K (dpPick Str))) : FnOk P w K mg base CX0 3 f fd ["_law_box_here", "_law_module_here", "_law_known"] (spT K dpLinks) := by
  refine okT F sc_l_links (fun ss R h => ?_) (fun cdv A outer s H E hr => ⟨_, (pss_cons (ps_set (i := 3) sc_l_links.nd rfl (.inl rfl) (pe_op op_cat (pe_op op_cat (pe_op op_cat (pe_dget (hu_of hr) (pv 1) (pe_str) (fun _ _ => rfl)) (pe_dget (hu_of hr) (pv 1) (pe_str) (fun _ _ => rfl))) (pe_lc (own := [("_law_label", 12), ("_law_name", 13)]) rfl sc_l_links.nd (pi_seqK K (pe_dget (hu_of hr) (pv 1) (pe_str) (fun _ _ => rfl))) (blkOk_by (N := N_l_links) (sc := defScope s_l_links) (by decide +kernel)) (fun _ _ _ _ _ => pg_tupK (n := 2) K rfl (pgs_cons (pg_name (i := 12) sc_l_links.nd rfl (.inl rfl)) (pgs_cons (pg_name (i := 13) sc_l_links.nd rfl (.inl rfl)) (pgs_nil)))) (fun _ _ _ _ _ => pts_nil) (fun _ _ _ _ _ => pv 12))) (pe_dget (hu_of hr) (pv 1) (pe_str) (fun _ _ => rfl))))
 (pss_cons (ps_par3 (i := 4) (j := 5) (l := 6) rfl sc_l_links.nd rfl rfl rfl (by decide) (by decide) (by decide) rfl rfl rfl (pa_cons (pe_fn g_l_begins hr rfl (pa_cons (pv 1) (pa_cons (pv 2) (pa_nil)))) (pa_cons (pe_fn g_l_goes hr rfl (pa_cons (pv 1) (pa_cons (pv 2) (pa_nil)))) (pa_cons (pe_lst (pa_nil)) (pa_nil)))) rfl)
 (pss_cons (ps_if (PW.pt (pw_or (pt_cmpR (op_eqE K hr) (pv 4) (pe_lst (pa_nil)) (nomark _)) (pw_or1 (pt_cmpR (op_eqE K hr) (pv 5) (pe_lst (pa_nil)) (nomark _))))) (pss_one (ps_ret (pv 6))) (pss_nil))
 (pss_cons (ps_for PassesOwn.never rfl (pi_range1 rfl m_range (pa_cons (pe_op op_add (pe_int) (pe_fn g_l_take hr rfl (pa_cons (pv 0) (pa_cons (pe_int) (pa_nil))))) (pa_nil))) (pg_name (i := 7) sc_l_links.nd rfl (.inl rfl)) (pss_cons (ps_par (i := 8) (j := 9) rfl sc_l_links.nd rfl rfl (by decide) rfl rfl (pa_cons (pe_fn g_l_pick hr rfl (pa_cons (pv 0) (pa_cons (pv 4) (pa_nil)))) (pa_cons (pe_fn g_l_pick hr rfl (pa_cons (pv 0) (pa_cons (pv 5) (pa_nil)))) (pa_nil))) rfl)
 (pss_cons (ps_set (i := 10) sc_l_links.nd rfl (.inl rfl) (pe_cmpR op_lt (pe_bmK K PySem.F.plainAttrs_list PySem.F.slot_list_index PySem.F.type_list_index (mt_indexK K) (pv 3) (pa_cons (pe_ix (ix_sqK K) (pe_split (pv 8) (pe_str)) (pe_int) (fun _ _ => rfl)) (pa_nil))) (pe_bmK K PySem.F.plainAttrs_list PySem.F.slot_list_index PySem.F.type_list_index (mt_indexK K) (pv 3) (pa_cons (pe_ix (ix_sqK K) (pe_split (pv 9) (pe_str)) (pe_int) (fun _ _ => rfl)) (pa_nil))) (nomark _)))
 (pss_cons (ps_set (i := 11) sc_l_links.nd rfl (.inl rfl) (pe_ifExp (pt_val (pv 10)) (pe_fn g_l_take hr rfl (pa_cons (pv 0) (pa_cons (pe_int) (pa_nil)))) (pe_op op_add (pe_int) (pe_fn g_l_take hr rfl (pa_cons (pv 0) (pa_cons (pe_int) (pa_nil)))))))
 (pss_one (ps_expr (pe_bmK K PySem.F.plainAttrs_list PySem.F.slot_list_append PySem.F.type_list_append mt_append (pv 6) (pa_cons (pe_tup (pa_cons (pv 8) (pa_cons (pv 9) (pa_cons (pe_ifExp (PW.pt (pw_and (pt_val (pv 10)) (pw_and1 (pt_cmpR op_eq (pe_fn g_l_take hr rfl (pa_cons (pv 0) (pa_cons (pe_int) (pa_nil)))) (pe_int) (nomark _))))) (pe_int) (pv 11)) (pa_cons (pe_fn g_l_take hr rfl (pa_cons (pv 0) (pa_cons (pe_int) (pa_nil)))) (pa_nil)))))) (pa_nil)))))))))
 (pss_one (ps_ret (pv 6))))))), fun B ss R h => ?_⟩)
  · obtain ⟨m, ks, rfl, _⟩ := h
    rfl
  · obtain ⟨m, ks, rfl, ok, hk, q⟩ := h
    have al := all_lens ok.ln
    obtain ⟨bl, gl, b0, g0⟩ := beg_len ok hk
    have b18 : ∀ {n : Nat}, n ≤ 1000 → n ≤ BIG := fun h => Nat.le_trans h (by decide)
    show DS K B _ [.box, .out (ownD m.base), .val (KN.mk ks), .no, .no, .no, .no, .no, .no, .no, .no, .no, .no, .no] _
    have cl : m.c.length ≤ 1000 := by omega
    have lb : m.labels.length = m.c.length := List.length_map ..
    refine dq_asgI (δ := L Str) (endsM m) (DO.l (do_cat (xs := m.i ++ m.s ++ m.labels) (DO.l (do_cat (xs := m.i ++ m.s) (DO.l (do_cat (d_va (α := L Str) (d_getDO (n := 1) rfl d_str (a := strsA m.i) rfl)) (d_va (α := L Str) (d_getDO (n := 1) rfl d_str (a := strsA m.s) rfl)) (b18 (by omega)))) (DO.l (do_map (fun t : Str × Str => t.1) (di_seq (d_Lq (d_va (α := L (Str × Str)) (d_getDO (n := 1) rfl d_str (a := callsA m.c) rfl)))) (b18 cl) fun t ht => ⟨_, _, DG.pair dg_name dg_name, by simp, d_var rfl⟩)) (b18 (by simp only [List.length_append]; omega)))) (d_va (α := L Str) (d_getDO (n := 1) rfl d_str (a := strsA m.o) rfl)) (b18 (by simp only [List.length_append]; omega)))) ?_
    show DS K B _ [.box, .out (ownD m.base), .val (KN.mk ks), .val (α := L Str) (endsM m), .no, .no, .no, .no, .no, .no, .no, .no, .no, .no] _
    refine ds_seq (ds_par3O (α := L Str) (β := L Str) (a := begM m ks) (b := goeM m ks) (d_call (da_out rfl (da_cons (d_var rfl) da_nil)) ⟨m, ks, rfl, ok, hk, rfl⟩) (d_call (da_out rfl (da_cons (d_var rfl) da_nil)) ⟨m, ks, rfl, ok, hk, rfl⟩) (do_nil Lk) ?_)
    show DS K B _ [.box, .out (ownD m.base), .val (KN.mk ks), .val (α := L Str) (endsM m), .val (α := L Str) (begM m ks), .val (α := L Str) (goeM m ks), .own (α := Lk) [], .no, .no, .no, .no, .no, .no, .no] _
    refine dq_when (c := false) (DT.is (dt_or (dt_test (d_eqE (d_var rfl))) fun _ => dt_test (d_eqE (d_var rfl))) ?_) (fun h => nomatch h) fun _ => ?_
    · have e1 : (begM m ks).isEmpty = false := by cases h : begM m ks with
        | nil => rw [h] at b0; cases b0
        | cons _ _ => rfl
      have e2 : (goeM m ks).isEmpty = false := by cases h : goeM m ks with
        | nil => rw [h] at g0; cases g0
        | cons _ _ => rfl
      rw [e1, e2]
      rfl
    refine dq_forN (dn_add (DE.n d_int) (dn_callb1 rfl d_int ⟨by decide, by decide⟩)) fun n hn => ?_
    obtain ⟨_, k, rfl, ⟨k0, k1⟩, rfl⟩ := hn
    refine dq_for (di_rng1 d_int (by omega) (by omega)) (fun i r => ∃ (ls : List Lk) (s7 s8 s9 s10 s11 s12 s13 : Slot), r = [.box, .out (ownD m.base), .val (KN.mk ks), .val (α := L Str) (endsM m), .val (α := L Str) (begM m ks), .val (α := L Str) (goeM m ks), .own ls, s7, s8, s9, s10, s11, s12, s13] ∧ ls.length = i ∧ ∀ t ∈ ls, LkOk m ks t) ⟨[], .no, .no, .no, .no, .no, .no, .no, rfl, rfl, fun _ h => nomatch h⟩ (fun i x r hx hI => ?_) fun r hI => ?_
    · obtain ⟨ls, s7, s8, s9, s10, s11, s12, s13, rfl, ll, lo⟩ := hI
      have hi := (List.getElem?_eq_some_iff.mp hx).1
      rw [rg_len] at hi
      refine ⟨_, _, dg_name, ?_⟩
      refine ds_seq (ds_parN (dn_callb1 rfl (d_var rfl) ⟨b0, by omega⟩) (dn_callb1 rfl (d_var rfl) ⟨g0, by omega⟩) fun a b ha hb => ?_)
      show DS K B _ [.box, .out (ownD m.base), .val (KN.mk ks), .val (α := L Str) (endsM m), .val (α := L Str) (begM m ks), .val (α := L Str) (goeM m ks), .own ls, .val x, .val a, .val b, s10, s11, s12, s13] _
      have ha : a ∈ begM m ks := ha
      have hb : b ∈ goeM m ks := hb
      obtain ⟨⟨ra, ea⟩, ma, la, la2⟩ := ends_of ok hk (.inl ha)
      obtain ⟨⟨rb, eb⟩, mb, lb, lb2⟩ := ends_of ok hk (.inr hb)
      have ia := idx_mem ma
      have ib := idx_mem mb
      refine dq_asg (a := decide (((endsM m).idxOf (hdS a) : Int) < ((endsM m).idxOf (hdS b) : Int))) (d_lt (d_indexS (d_var rfl) (d_ix (DO.q (do_split (d_var rfl) d_str (by decide) (b18 (by omega)) (b18 (by omega)))) d_int (by rw [ea]; exact atI_nat (j := 0) rfl)) ia.1 ia.2) (d_indexS (d_var rfl) (d_ix (DO.q (do_split (d_var rfl) d_str (by decide) (b18 (by omega)) (b18 (by omega)))) d_int (by rw [eb]; exact atI_nat (j := 0) rfl)) ib.1 ib.2)) ?_
      show DS K B _ [.box, .out (ownD m.base), .val (KN.mk ks), .val (α := L Str) (endsM m), .val (α := L Str) (begM m ks), .val (α := L Str) (goeM m ks), .own ls, .val x, .val a, .val b, .val (decide (((endsM m).idxOf (hdS a) : Int) < ((endsM m).idxOf (hdS b) : Int))), s11, s12, s13] _
      have onw : decide (((endsM m).idxOf (hdS a) : Int) < ((endsM m).idxOf (hdS b) : Int)) = true → (endsM m).idxOf (hdS a) < (endsM m).idxOf (hdS b) := fun h => by have := of_decide_eq_true h; omega
      generalize decide (((endsM m).idxOf (hdS a) : Int) < ((endsM m).idxOf (hdS b) : Int)) = on at onw
      refine dq_asgN (P := fun k : Int => 0 ≤ k ∧ k < 3 ∧ (k = 0 → on = true)) (dn_if (dt_B (d_var rfl)) (fun h => (dn_callb1 rfl d_int ⟨by decide, by decide⟩).imp fun k hk => ⟨hk.1, hk.2, fun _ => h⟩) (fun h => (dn_add (DE.n d_int) (dn_callb1 rfl d_int ⟨by decide, by decide⟩)).imp fun k hk => ?_)) fun mk hmk => ?_
      · obtain ⟨_, y, rfl, ⟨y0, y1⟩, rfl⟩ := hk
        exact ⟨by omega, by omega, fun h => by omega⟩
      refine ds_appendN (n := 6) (xs := ls) rfl (dn_quad (DE.n (d_var rfl)) (DE.n (d_var rfl)) (dn_ifN (P := fun k : Int => 0 ≤ k ∧ k < 3 ∧ (k = 0 → on = true)) (dtn_and (dt_B (d_var rfl)) fun _ => dtn_test (dn_eqI (dn_callb1 rfl d_int ⟨by decide, by decide⟩) (DE.n d_int))) (fun h => (DE.n d_int).imp fun k hk => ?_) (fun _ => (DE.n (d_var rfl)).imp fun k hk => by rw [hk]; exact hmk)) (dn_callb1 rfl d_int ⟨by decide, by decide⟩)) (by rw [ll]; exact Nat.lt_of_lt_of_le (show i < 1000 by omega) (by decide)) fun t ht => ⟨ls ++ [t], .val x, .val a, .val b, .val on, .val mk, s12, s13, rfl, by rw [List.length_append, ll]; rfl, fun u hu => ?_⟩
      · subst hk
        refine ⟨by decide, by decide, fun _ => ?_⟩
        cases on with
        | true => rfl
        | false => rw [if_neg (by decide)] at h; cases h
      · rcases List.mem_append.mp hu with hu | hu
        · exact lo u hu
        · rw [List.mem_singleton.mp hu]
          obtain ⟨h1, h2, ⟨h3, h4, h5⟩, h6, h7⟩ := ht
          refine ⟨by rw [h1]; exact ha, by rw [h2]; exact hb, h3, h4, h6, h7, fun hz => ?_⟩
          rw [h1, h2]
          exact onw (h5 hz)
    · obtain ⟨ls, s7, s8, s9, s10, s11, s12, s13, rfl, ll, lo⟩ := hI
      rw [rg_len] at ll
      exact ds_frz (n := 6) rfl (ds_ret (d_var rfl) (q ls lo (by omega)))
end
end WW
set_option Elab.async false
set_option linter.all false
set_option maxRecDepth 100000
set_option maxHeartbeats 4000000
namespace WW
open PySem PySem.Spec PyProof.Rows L2
section
variable {K : PySem.W.Frag} {B : Addr → Prop} {ρ : List Slot} {te : TE}
theorem d_avL {zs : List Str} (h : DE K B te ρ (α := L Str) zs) : DE K B te ρ (strsA zs) := d_av (α := L Str) h
end
abbrev Sz := T4 Int Int Int Int
structure SzOk (z : Sz) : Prop where
  a0 : 0 ≤ z.a
  b0 : 1 ≤ z.b
  c0 : 1 ≤ z.c
  d0 : 0 ≤ z.d
  t : z.a + z.b + z.c + z.d ≤ 18
def LksOk (m : DMd) (ks : List DMd) (ls : List Lk) : Prop := (∀ t ∈ ls, LkOk m ks t) ∧ ls.length ≤ 8
structure MFull (m : DMd) (ks : List DMd) : Prop where
  ok : MOk m ks
  lk : ∀ t ∈ m.l, LkOk m ks t
  ll : m.l.length ≤ 8
def dpModule : List Slot → (Slot → Prop) → Prop := fun ss R => ∃ (nm : Str) (z : Sz) (ks : List DMd), ss = [.box, .val nm, .val z, .out (ownL ks)] ∧ nm.length ≤ 5 ∧ SzOk z ∧ KsOk ks ∧ ∀ m : DMd, MFull m ks → m.n = nm → (m.i.length : Int) = z.a → (m.o.length : Int) = z.b → (m.s.length : Int) = z.c → (m.c.length : Int) ≤ z.d → R (.val m)
section
variable {P : Program} {w : World} {K : PySem.W.Frag} {mg : Str → Option Value} {base : Heap} {f : Addr} {fd : FuncData}
abbrev N_l_module : List Str := ["_law_box_here", "_law_name", "_law_sizes", "_law_called", "_law_inlets", "_law_outlets", "_law_stations", "_law_many", "_law_names_here", "_law_found", "_law_labels", "_law_known", "_law_label", "_law_one"]
theorem sc_l_module : FnScope N_l_module ["_law_box_here", "_law_name", "_law_sizes", "_law_called"] (defScope s_l_module) := ⟨rfl, rfl, rfl, by decide +kernel, rfl, by decide +kernel, by decide +kernel⟩
theorem ok_module (F : FnP K "_law_module" s_l_module f fd) (m_dict : mg "dict" = none) (g_l_names : FnAt P w K mg base CX0 3 "_law_names" ["_law_box_here", "_law_many"] (spT K (dpb1 (fun n : Int => 0 ≤ n ∧ n ≤ 18) (fun n (zs : L Str) => Drn n zs))))
    (g_l_pick : FnAt P w K mg base CX0 2 "_law_pick" ["_law_box_here", "_law_items"] (spT K (dpPickO DMd))) (g_l_links : FnAt P w K mg base CX0 3 "_law_links" ["_law_box_here", "_law_module_here", "_law_known"] (spT K dpLinks)) : FnOk P w K mg base CX0 4 f fd ["_law_box_here", "_law_name", "_law_sizes", "_law_called"] (spT K dpModule) := by
  refine okT F sc_l_module (fun ss R h => ?_) (fun cdv A outer s H E hr => ⟨_, (pss_cons (ps_asg (pv 2) (pg_tupK (n := 4) K rfl (pgs_cons (pg_name (i := 4) sc_l_module.nd rfl (.inl rfl)) (pgs_cons (pg_name (i := 5) sc_l_module.nd rfl (.inl rfl)) (pgs_cons (pg_name (i := 6) sc_l_module.nd rfl (.inl rfl)) (pgs_cons (pg_name (i := 7) sc_l_module.nd rfl (.inl rfl)) (pgs_nil)))))))
 (pss_cons (ps_set (i := 8) sc_l_module.nd rfl (.inl rfl) (pe_fn g_l_names hr rfl (pa_cons (pv 0) (pa_cons (pe_op op_add (pe_op op_add (pe_op op_add (pv 4) (pv 5)) (pv 6)) (pv 7)) (pa_nil)))))
 (pss_cons (ps_set (i := 9) sc_l_module.nd rfl (.inl rfl) (pe_disp (pps_cons (pe_str) (pv 1) (pps_cons (pe_str) (pe_slice (sl_sqK K) (pv 8) (po_none) (po_some (pv 4))) (pps_cons (pe_str) (pe_slice (sl_sqK K) (pv 8) (po_some (pv 4)) (po_some (pe_op op_add (pv 4) (pv 5)))) (pps_nil)))) (by rfl) (by rfl) (fun z => by cases z) (by decide)))
 (pss_cons (ps_dput (hu_of hr) (pv 9) (pe_str) (pe_slice (sl_sqK K) (pv 8) (po_some (pe_op op_add (pv 4) (pv 5))) (po_some (pe_op op_add (pe_op op_add (pv 4) (pv 5)) (pv 6)))) rfl)
 (pss_cons (ps_set (i := 10) sc_l_module.nd rfl (.inl rfl) (pe_ifExp (pt_cmpR (op_neE K hr) (pv 3) (pe_lst (pa_nil)) (nomark _)) (pe_slice (sl_sqK K) (pv 8) (po_some (pe_op op_add (pe_op op_add (pv 4) (pv 5)) (pv 6))) (po_none)) (pe_lst (pa_nil))))
 (pss_cons (ps_dput (hu_of hr) (pv 9) (pe_str) (pe_lc (own := [("_law_label", 12)]) rfl sc_l_module.nd (pi_seqK K (pv 10)) (blkOk_by (N := N_l_module) (sc := defScope s_l_module) (by decide +kernel)) (fun _ _ _ _ _ => pg_name (i := 12) sc_l_module.nd rfl (.inl rfl)) (fun _ _ _ _ _ => pts_nil) (fun _ _ _ _ _ => pe_tup (pa_cons (pv 12) (pa_cons (pe_dget (hu_of hr) (pe_fn g_l_pick hr rfl (pa_cons (pv 0) (pa_cons (pv 3) (pa_nil)))) (pe_str) (fun _ _ => rfl)) (pa_nil))))) rfl)
 (pss_cons (ps_set (i := 11) sc_l_module.nd rfl (.inl rfl) (pe_callTy (call_dictP rfl) rfl m_dict (by decide +kernel) (pa_cons (pe_lc (own := [("_law_one", 13)]) rfl sc_l_module.nd (pi_seqK K (pv 3)) (blkOk_by (N := N_l_module) (sc := defScope s_l_module) (by decide +kernel)) (fun _ _ _ _ _ => pg_name (i := 13) sc_l_module.nd rfl (.inl rfl)) (fun _ _ _ _ _ => pts_nil) (fun _ _ _ _ _ => pe_tup (pa_cons (pe_dget (hu_of hr) (pv 13) (pe_str) (fun _ _ => rfl)) (pa_cons (pv 13) (pa_nil))))) (pa_nil))))
 (pss_cons (ps_dput (hu_of hr) (pv 9) (pe_str) (pe_fn g_l_links hr rfl (pa_cons (pv 0) (pa_cons (pv 9) (pa_cons (pv 11) (pa_nil))))) rfl)
 (pss_one (ps_ret (pv 9))))))))))), fun B ss R h => ?_⟩)
  · obtain ⟨nm, z, ks, rfl, _⟩ := h
    rfl
  · obtain ⟨nm, ⟨a, b, c, d⟩, ks, rfl, hn, ⟨a0, b0, c0, d0, ht⟩, hk, q⟩ := h
    have a0 : 0 ≤ a := a0
    have b0 : 1 ≤ b := b0
    have c0 : 1 ≤ c := c0
    have d0 : 0 ≤ d := d0
    have ht : a + b + c + d ≤ 18 := ht
    obtain ⟨a, rfl⟩ : ∃ k : Nat, a = k := ⟨a.toNat, by omega⟩
    obtain ⟨b, rfl⟩ : ∃ k : Nat, b = k := ⟨b.toNat, by omega⟩
    obtain ⟨c, rfl⟩ : ∃ k : Nat, c = k := ⟨c.toNat, by omega⟩
    have b18 : ∀ {n : Nat}, n ≤ 1000 → n ≤ BIG := fun h => Nat.le_trans h (by decide)
    have kl := hk.len
    refine dq_asgG (d_var rfl) (DG.quad dg_name dg_name dg_name dg_name) ?_
    show DS K B _ [.box, .val nm, .val (T4.mk (a : Int) (b : Int) (c : Int) d), .out (ownL ks), .val (a : Int), .val (b : Int), .val (c : Int), .val d, .no, .no, .no, .no, .no, .no] _
    refine dq_asgN (dn_callb1 rfl (d_add (d_add (d_add (d_var rfl) (d_var rfl)) (d_var rfl)) (d_var rfl)) ⟨by omega, by omega⟩) fun (zs : List Str) hz => ?_
    show DS K B _ [.box, .val nm, .val (T4.mk (a : Int) (b : Int) (c : Int) d), .out (ownL ks), .val (a : Int), .val (b : Int), .val (c : Int), .val d, .val (α := L Str) zs, .no, .no, .no, .no, .no] _
    obtain ⟨zl, znd, zall⟩ := hz
    have zl' : ((List.length zs : Nat) : Int) = (a : Int) + b + c + d := zl
    -- the first three
    refine ds_seq (ds_asgOb (P := ownD ([("name", AV.str nm), ("inlets", strsA (List.take a zs)), ("outlets", strsA ((List.drop a zs).take b))] : List (Str × AV))) (do_disp (dps_cons d_str (d_avS (d_var rfl)) (dps_cons d_str (d_avL ((DO.l (do_slice (d_var rfl) dp_none (dp_some (d_var rfl)))).is cutA_take)) (dps_cons d_str (d_avL ((DO.l (do_slice (d_var rfl) (dp_some (d_var rfl)) (dp_some (d_add (d_var rfl) (d_var rfl))))).is (cutA_mid (by omega)))) dps_nil))) (by show ((["name", "inlets", "outlets"] : List Str)).Nodup; decide +kernel) (by show 3 ≤ 15; decide)) ?_)
    refine ds_seq (ds_dput (n := 9) (a := strsA ((List.drop (a + b) zs).take c)) rfl (d_avL ((DO.l (do_slice (d_var rfl) (dp_some (d_add (d_var rfl) (d_var rfl))) (dp_some (d_add (d_add (d_var rfl) (d_var rfl)) (d_var rfl))))).is (by rw [show (a : Int) + (b : Int) = ((a + b : Nat) : Int) by omega, cutA_mid (by omega)]))) d_str (by show ("stations" : Str) ∉ (["name", "inlets", "outlets"] : List Str); decide +kernel) (by show 3 < 1000; decide) ?_)
    let lbs : List Str := if (!ks.isEmpty) = true then List.drop (a + b + c) zs else []
    refine dq_asgI (δ := L Str) lbs (d_if (α := L Str) (dt_test (d_neEOut (n := 3) rfl)) (fun _ => (DO.l (do_slice (d_var rfl) (dp_some (d_add (d_add (d_var rfl) (d_var rfl)) (d_var rfl))) dp_none)).is (by rw [show (a : Int) + (b : Int) + (c : Int) = ((a + b + c : Nat) : Int) by omega, cutA_drop])) (fun _ => DO.l (do_nil Str))) ?_
    show DS K B _ [.box, .val nm, .val (T4.mk (a : Int) (b : Int) (c : Int) d), .out (ownL ks), .val (a : Int), .val (b : Int), .val (c : Int), .val d, .val (α := L Str) zs, .obj (ownD ([("name", AV.str nm), ("inlets", strsA (List.take a zs)), ("outlets", strsA ((List.drop a zs).take b)), ("stations", strsA ((List.drop (a + b) zs).take c))] : List (Str × AV))), .val (α := L Str) lbs, .no, .no, .no] _
    have lbl : lbs.length ≤ 18 := by
      show (if (!ks.isEmpty) = true then List.drop (a + b + c) zs else []).length ≤ 18
      split
      · rw [List.length_drop]; omega
      · exact Nat.zero_le _
    have k0 : ∀ x ∈ lbs, 0 < ks.length := fun x hx => by
      have hx : x ∈ (if (!ks.isEmpty) = true then List.drop (a + b + c) zs else []) := hx
      cases ks with
      | nil => exact absurd hx (by simp)
      | cons _ _ => exact Nat.succ_pos _
    refine ds_seq (ds_dputN (n := 9) (P := fun y : AV => ∃ cs : L (Str × Str), Paired (fun (lb : Str) (t : Str × Str) => t.1 = lb ∧ t.2 ∈ ks.map (·.n)) lbs cs ∧ y = callsA cs) rfl (dn_av (dn_mapN (fun (lb : Str) (t : Str × Str) => t.1 = lb ∧ t.2 ∈ ks.map (·.n)) (di_seq (d_Lq (d_var rfl))) (b18 (by omega)) fun x hx => ⟨_, _, dg_name, by simp, (dn_pair (DE.n (d_var rfl)) (DN.conv (P' := fun z : Str => z ∈ ks.map (·.n)) (dn_getD (P := fun y : Dct AV => ∃ m ∈ ks, y = m.dc) (P' := fun y : AV => ∃ m ∈ ks, y = .str m.n) (z := "name") (DN.conv (dn_pickO rfl rfl (k0 x hx) (by omega)) fun m hm => ⟨m.dc, ⟨m, hm, rfl⟩, fun _ _ r => r⟩) d_str ?_) fun y hy => ?_)).imp fun t ht => ⟨ht.1, ht.2⟩⟩)) d_str (by show ("calls" : Str) ∉ (["name", "inlets", "outlets", "stations"] : List Str); decide +kernel) (by show 4 < 1000; decide) fun y hy => ?_)
    · rintro y ⟨m, hm, rfl⟩
      exact ⟨.str m.n, rfl, m, hm, rfl⟩
    · obtain ⟨m, hm, rfl⟩ := hy
      exact ⟨m.n, List.mem_map.mpr ⟨m, hm, rfl⟩, fun _ _ r => IsAV.iff.mp r⟩
    obtain ⟨cs, hcs, rfl⟩ := hy
    -- the known ones
    refine dq_asgI (δ := KN) ⟨ks⟩ (d_kn (d_dict (xs := ks.map fun m => (m.n, m)) (DO.l (do_map (fun m : DMd => (m.n, m)) (di_out rfl) (b18 (by omega)) fun m hm => ⟨_, _, dg_name, by simp, d_pair (d_va (α := Str) (d_getD (d := m.dc) (a := AV.str m.n) (d_dc (d_var rfl)) d_str rfl)) (d_var rfl)⟩)) (by rw [List.map_map]; exact hk.nd) (by rw [List.length_map]; omega))) ?_
    let m0 : DMd := ⟨nm, List.take a zs, (List.drop a zs).take b, (List.drop (a + b) zs).take c, cs, []⟩
    show DS K B _ [.box, .val nm, .val (T4.mk (a : Int) (b : Int) (c : Int) d), .out (ownL ks), .val (a : Int), .val (b : Int), .val (c : Int), .val d, .val (α := L Str) zs, .obj (ownD m0.base), .val (α := L Str) lbs, .val (KN.mk ks), .no, .no] _
    have lab : m0.labels = lbs := by
      show cs.map (·.1) = lbs
      clear_value lbs
      clear k0 lbl q
      induction hcs with
      | nil => rfl
      | cons h1 _ ih => rw [List.map_cons, h1.1, ih]
    have cut : List.take a zs ++ (List.drop a zs).take b ++ (List.drop (a + b) zs).take c ++ List.drop (a + b + c) zs = zs := by
      rw [show List.drop (a + b + c) zs = List.drop c (List.drop (a + b) zs) by rw [List.drop_drop], List.append_assoc, List.take_append_drop, show List.drop (a + b) zs = List.drop b (List.drop a zs) by rw [List.drop_drop], List.append_assoc, List.take_append_drop, List.take_append_drop]
    have al : m0.all.Sublist zs := by
      show (m0.i ++ m0.o ++ m0.s ++ m0.labels).Sublist zs
      rw [lab]
      have e := cut
      conv => rhs; rw [← e]
      refine List.Sublist.append (List.Sublist.refl _) ?_
      show (if (!ks.isEmpty) = true then List.drop (a + b + c) zs else []).Sublist _
      split
      · exact List.Sublist.refl _
      · exact List.nil_sublist _
    have ok0 : MOk m0 ks := by
      refine ⟨znd.sublist al, fun z hz => zall z (al.subset hz), ?_, ?_, ?_, hn, fun t ht => ?_⟩
      · have := al.length_le
        have : m0.all.length ≤ List.length zs := this
        omega
      · show 0 < ((List.drop (a + b) zs).take c).length
        rw [List.length_take, List.length_drop]
        omega
      · show 0 < ((List.drop a zs).take b).length
        rw [List.length_take, List.length_drop]
        omega
      · have : ∀ {ls : List Str} {cs : List (Str × Str)}, Paired (fun (lb : Str) (t : Str × Str) => t.1 = lb ∧ t.2 ∈ ks.map (·.n)) ls cs → ∀ t ∈ cs, t.2 ∈ ks.map (·.n) := by
          intro ls cs h
          induction h with
          | nil => exact fun t h => nomatch h
          | cons h1 _ ih =>
            intro t ht
            rcases List.mem_cons.mp ht with rfl | ht
            · exact h1.2
            · exact ih t ht
        exact this hcs t ht
    refine ds_seq (ds_dputN (n := 9) (P := fun y : AV => ∃ ls : List Lk, LksOk m0 ks ls ∧ y = linksA ls) rfl ((dn_av (s := inferInstance) (dn_call (α := L Lk) (P := fun ls : L Lk => LksOk m0 ks ls) (da_box rfl (da_own rfl (da_cons (d_var rfl) da_nil))) ⟨m0, ks, rfl, ok0, hk, fun ls h1 h2 => ⟨ls, ⟨h1, h2⟩, rfl⟩⟩)).imp fun y hy => by obtain ⟨ls, h, rfl⟩ := hy; exact ⟨ls, h, rfl⟩) d_str (by show ("links" : Str) ∉ (["name", "inlets", "outlets", "stations", "calls"] : List Str); decide +kernel) (by show 5 < 1000; decide) fun y hy => ?_)
    obtain ⟨ls, ⟨h1, h2⟩, rfl⟩ := hy
    refine ds_frzD (n := 9) rfl (ds_ret (α := DMd) (a := ⟨nm, List.take a zs, (List.drop a zs).take b, (List.drop (a + b) zs).take c, cs, ls⟩) (d_ofdc (d_var rfl)) (q _ ⟨⟨ok0.nd, ok0.al, ok0.ln, ok0.s1, ok0.o1, hn, ok0.cl⟩, fun t ht => ?_, h2⟩ rfl ?_ ?_ ?_ ?_))
    · obtain ⟨l1, l2, l3, l4, l5, l6, l7⟩ := h1 t ht
      exact ⟨l1, l2, l3, l4, l5, l6, l7⟩
    · show ((List.take a zs).length : Int) = _
      rw [List.length_take]
      show ((min a (List.length zs) : Nat) : Int) = (a : Int)
      omega
    · show (((List.drop a zs).take b).length : Int) = _
      rw [List.length_take, List.length_drop]
      show ((min b (List.length zs - a) : Nat) : Int) = (b : Int)
      omega
    · show (((List.drop (a + b) zs).take c).length : Int) = _
      rw [List.length_take, List.length_drop]
      show ((min c (List.length zs - (a + b)) : Nat) : Int) = (c : Int)
      omega
    · show (cs.length : Int) ≤ d
      have e : cs.length = lbs.length := by
        have := congrArg List.length lab
        show cs.length = _
        rw [← this]
        exact (List.length_map ..).symm
      rw [e]
      show ((if (!ks.isEmpty) = true then List.drop (a + b + c) zs else []).length : Int) ≤ d
      split
      · rw [List.length_drop]
        omega
      · exact d0
def NM : List Str := ["first", "mid", "last"]
structure HouseOk (n : Int) (ms : List DMd) : Prop where
  len : (ms.length : Int) = n
  all : ∀ (i : Nat) (m : DMd), ms[i]? = some m → MFull m (ms.take i) ∧ NM[i]? = some m.n ∧ (i = 0 → m.c = []) ∧ m.i.length ≤ 2 ∧ m.o.length ≤ 2 ∧ m.s.length ≤ 2 ∧ m.c.length ≤ 2
theorem take_at {α : Type} {l : List α} {i j : Nat} {x : α} (h : (l.take j)[i]? = some x) : l[i]? = some x ∧ i < j := by
  rw [List.getElem?_take] at h
  split at h
  · exact ⟨h, by assumption⟩
  · cases h
theorem HouseOk.pre {n : Int} {ms : List DMd} (h : HouseOk n ms) (j : Nat) (hj : j ≤ ms.length) : HouseOk j (ms.take j) := by
  refine ⟨by rw [List.length_take]; omega, fun i m hi => ?_⟩
  obtain ⟨h1, h2⟩ := take_at hi
  obtain ⟨g1, g2⟩ := h.all i m h1
  rw [List.take_take, Nat.min_eq_left (by omega)]
  exact ⟨g1, g2⟩
theorem HouseOk.ks {n : Int} {ms : List DMd} (h : HouseOk n ms) : KsOk ms ∧ ms.length ≤ 3 := by
  have l3 : ms.length ≤ 3 := by
    rcases Nat.lt_or_ge 3 ms.length with c | c
    · obtain ⟨_, g, _⟩ := h.all 3 _ (List.getElem?_eq_getElem c)
      cases g
    · exact c
  have nm : ms.map (·.n) = NM.take ms.length := by
    refine List.ext_getElem? fun i => ?_
    rw [List.getElem?_map, List.getElem?_take]
    by_cases c : i < ms.length
    · rw [if_pos c, List.getElem?_eq_getElem c, (h.all i _ (List.getElem?_eq_getElem c)).2.1]
      rfl
    · rw [if_neg c, List.getElem?_eq_none (by omega)]
      rfl
  refine ⟨⟨?_, by omega, fun d hd => ?_⟩, l3⟩
  · rw [nm]
    exact List.Pairwise.sublist (List.take_sublist _ _) (by decide +kernel)
  · obtain ⟨i, hi, rfl⟩ := List.getElem_of_mem hd
    have g := (h.all i _ (List.getElem?_eq_getElem hi)).1
    exact ⟨g.ok.ln, g.ok.al, g.ok.nl⟩
abbrev N_l_house : List Str := ["_law_box_here", "_law_many", "_law_found", "_law_at", "_law_calls", "_law_sizes"]
theorem sc_l_house : FnScope N_l_house ["_law_box_here", "_law_many"] (defScope s_l_house) := ⟨rfl, rfl, rfl, by decide +kernel, rfl, by decide +kernel, by decide +kernel⟩
theorem ok_house (F : FnP K "_law_house" s_l_house f fd) (m_range : mg "range" = none) (g_l_take : FnAt P w K mg base CX0 1 "_law_take" ["_law_box_here", "_law_many"] (spT K dpTake)) (g_l_module : FnAt P w K mg base CX0 4 "_law_module" ["_law_box_here", "_law_name", "_law_sizes", "_law_called"] (spT K dpModule)) :
    FnOk P w K mg base CX0 5 f fd ["_law_box_here", "_law_many"] (spT K (dpb1 (fun n : Int => 0 ≤ n ∧ n ≤ 3) (fun n (ms : L DMd) => HouseOk n ms))) := by
  refine okT F sc_l_house (fun ss R h => ?_) (fun cdv A outer s H E hr => ⟨_, (pss_cons (ps_set (i := 2) sc_l_house.nd rfl (.inl rfl) (pe_lst (pa_nil)))
 (pss_cons (ps_for PassesOwn.never rfl (pi_range1 rfl m_range (pa_cons (pv 1) (pa_nil))) (pg_name (i := 3) sc_l_house.nd rfl (.inl rfl)) (pss_cons (ps_set (i := 4) sc_l_house.nd rfl (.inl rfl) (pe_ifExp (pt_cmpR op_gt (pv 3) (pe_int) (nomark _)) (pe_fn g_l_take hr rfl (pa_cons (pv 0) (pa_cons (pe_ifExp (pt_cmpR op_lt (pv 1) (pe_int) (nomark _)) (pe_int) (pe_int)) (pa_nil)))) (pe_int)))
 (pss_cons (ps_set (i := 5) sc_l_house.nd rfl (.inl rfl) (pe_tup (pa_cons (pe_fn g_l_take hr rfl (pa_cons (pv 0) (pa_cons (pe_int) (pa_nil)))) (pa_cons (pe_op op_add (pe_int) (pe_fn g_l_take hr rfl (pa_cons (pv 0) (pa_cons (pe_int) (pa_nil))))) (pa_cons (pe_op op_add (pe_int) (pe_fn g_l_take hr rfl (pa_cons (pv 0) (pa_cons (pe_int) (pa_nil))))) (pa_cons (pv 4) (pa_nil)))))))
 (pss_one (ps_expr (pe_bmK K PySem.F.plainAttrs_list PySem.F.slot_list_append PySem.F.type_list_append mt_append (pv 2) (pa_cons (pe_fn g_l_module hr rfl (pa_cons (pv 0) (pa_cons (pe_ix (ix_sqK K) (pe_lst (pa_cons (pe_str) (pa_cons (pe_str) (pa_cons (pe_str) (pa_nil))))) (pv 3) (fun _ _ => rfl)) (pa_cons (pv 5) (pa_cons (pv 2) (pa_nil)))))) (pa_nil))))))))
 (pss_one (ps_ret (pv 2))))), fun B ss R h => ?_⟩)
  · obtain ⟨x, rfl, _⟩ := h
    rfl
  · obtain ⟨n, rfl, ⟨n0, n1⟩, q⟩ := h
    show DS K B _ [.box, .val n, .no, .no, .no, .no] _
    refine dq_asgO (do_nil DMd) ?_
    show DS K B _ [.box, .val n, .own (α := DMd) [], .no, .no, .no] _
    refine dq_for (di_rng1 (d_var rfl) (by omega) (by omega)) (fun i r => ∃ (ms : List DMd) (s3 s4 s5 : Slot), r = [.box, .val n, .own ms, s3, s4, s5] ∧ HouseOk i ms) ⟨[], .no, .no, .no, rfl, rfl, fun i m h => nomatch h⟩ (fun i x r hx hI => ?_) fun r hI => ?_
    · obtain ⟨ms, s3, s4, s5, rfl, ho⟩ := hI
      have hi := (List.getElem?_eq_some_iff.mp hx).1
      rw [rg_len] at hi
      have hx := (rg_at hx).1
      have hx : x = (i : Int) := by omega
      subst hx
      have il : i < 3 := by omega
      have ml := ho.len
      have ml' : ms.length = i := by omega
      refine ⟨_, _, dg_name, ?_⟩
      show DS K B _ [.box, .val n, .own ms, .val (i : Int), s4, s5] _
      refine dq_asgN (P := fun k : Int => 0 ≤ k ∧ k ≤ 2 ∧ (i = 0 → k = 0)) (dn_if (dt_test (d_gt (d_var rfl) d_int)) (fun h => (dn_callb1 rfl (d_if (dt_test (d_lt (d_var rfl) d_int)) (fun _ => d_int) (fun _ => d_int)) (by split <;> decide)).imp fun k hk => ⟨hk.1, ?_, fun z => ?_⟩) (fun h => (DE.n d_int).imp fun k hk => by subst hk; exact ⟨by decide, by decide, fun _ => rfl⟩)) fun k hk => ?_
      · have h2 := hk.2
        split at h2 <;> omega
      · have := of_decide_eq_true h
        omega
      refine dq_asgN (P := fun z : Sz => SzOk z ∧ z.d = k ∧ z.a ≤ 2 ∧ z.b ≤ 2 ∧ z.c ≤ 2) ((dn_quad (dn_callb1 rfl d_int ⟨by decide, by decide⟩) (dn_add (DE.n d_int) (dn_callb1 rfl d_int ⟨by decide, by decide⟩)) (dn_add (DE.n d_int) (dn_callb1 rfl d_int ⟨by decide, by decide⟩)) (DE.n (d_var rfl))).imp fun z hz => ?_) fun z hz => ?_
      · obtain ⟨⟨h1, h2⟩, ⟨_, y, rfl, ⟨y0, y1⟩, e1⟩, ⟨_, u, rfl, ⟨u0, u1⟩, e2⟩, e3⟩ := hz
        exact ⟨⟨h1, by omega, by omega, by rw [e3]; exact hk.1, by rw [e1, e2, e3]; have := hk.2.1; omega⟩, e3, by omega, by rw [e1]; omega, by rw [e2]; omega⟩
      obtain ⟨zo, zd, za, zb, zc⟩ := hz
      show DS K B _ [.box, .val n, .own ms, .val (i : Int), .val k, .val z] _
      obtain ⟨nm, hnm⟩ : ∃ nm, NM[i]? = some nm := ⟨_, List.getElem?_eq_getElem (show i < NM.length from il)⟩
      have nml : nm.length ≤ 5 := by
        have := List.mem_of_getElem? hnm
        exact (by decide +kernel : ∀ z ∈ NM, z.length ≤ 5) nm this
      refine ds_appendN (n := 2) (xs := ms) (P := fun m : DMd => MFull m ms ∧ m.n = nm ∧ m.i.length ≤ 2 ∧ m.o.length ≤ 2 ∧ m.s.length ≤ 2 ∧ m.c.length ≤ 2) rfl (dn_call (da_box rfl (da_cons (d_ix (xs := NM) (x := nm) (DO.q (do_lst (dl_cons d_str (dl_cons d_str (dl_cons d_str dl_nil))) (by decide))) (d_var rfl) (atI_nat hnm)) (da_cons (d_var rfl) (da_own rfl da_nil)))) ⟨nm, z, ms, rfl, nml, zo, ho.ks.1, fun m h1 h2 h3 h4 h5 h6 => ⟨m, ⟨h1, h2, by omega, by omega, by omega, by have := hk.2.1; omega⟩, rfl⟩⟩) (by rw [ml']; exact Nat.lt_trans il (by decide)) fun m hm => ⟨ms ++ [m], .val (i : Int), .val k, .val z, rfl, ?_⟩
      refine ⟨by rw [List.length_append, List.length_singleton]; omega, fun j d hj => ?_⟩
      by_cases c : j < ms.length
      · rw [List.getElem?_append_left c] at hj
        rw [List.take_append_of_le_length (by omega)]
        exact ho.all j d hj
      · rw [List.getElem?_append_right (by omega)] at hj
        have hj0 : j - ms.length = 0 := by
          rcases Nat.eq_zero_or_pos (j - ms.length) with z | z
          · exact z
          · rw [List.getElem?_eq_none (by rw [List.length_singleton]; omega)] at hj
            cases hj
        rw [hj0] at hj
        have hj : some m = some d := hj
        cases hj
        have ej : j = i := by omega
        subst ej
        rw [List.take_append_of_le_length (by omega), List.take_of_length_le (by omega)]
        refine ⟨hm.1, by rw [hm.2.1]; exact hnm, fun z0 => ?_, hm.2.2⟩
        have m0 : ms = [] := List.eq_nil_of_length_eq_zero (by omega)
        subst m0
        cases hc : m.c with
        | nil => rfl
        | cons t r =>
          have := hm.1.ok.cl t (by rw [hc]; exact List.mem_cons_self)
          cases this
    · obtain ⟨ms, s3, s4, s5, rfl, ho⟩ := hI
      rw [rg_len, Int.sub_zero] at ho
      have ho : HouseOk n ms := ⟨by have := ho.len; omega, ho.all⟩
      exact ds_frz (n := 2) rfl (ds_ret (d_var rfl) (q ms ho))
end
end WW
set_option Elab.async false
set_option linter.all false
set_option maxRecDepth 100000
set_option maxHeartbeats 4000000
namespace WW
open PySem PySem.Spec PyProof.Rows L2
theorem alln_name : ∀ z ∈ ALLN, nameB z = true := by decide +kernel
theorem nm_name : ∀ z ∈ NM, nameB z = true := by decide +kernel
theorem alln_end : ∀ z ∈ ALLN, endB z = true ∧ decide ((Txt.partition z ".").2.1 = dot) = false := by decide +kernel
theorem dot_end : ∀ a ∈ ALLN, ∀ b ∈ ALLN, endB (dotted a b) = true ∧ decide ((Txt.partition (dotted a b) ".").2.1 = dot) = true ∧ (Txt.partition (dotted a b) ".").1 = a := by decide +kernel
theorem there_of {m : DMd} {ks : List DMd} (ok : MOk m ks) (hk : KsOk ks) {z : Str} {ns ls : List Str} (hl : ∀ y ∈ m.labels, y ∈ ls) :
    (z ∈ begM m ks → (∀ y ∈ m.i ++ m.s, y ∈ ns) → thereB (.str z) ns ls = true) ∧ (z ∈ goeM m ks → (∀ y ∈ m.s ++ m.o, y ∈ ns) → thereB (.str z) ns ls = true) := by
  have one : ∀ z, z ∈ m.all → z ∈ ns → thereB (.str z) ns ls = true := fun z h1 h2 => by
    obtain ⟨e1, e2⟩ := alln_end z (ok.al z h1)
    show ((true && endB z) && (if decide ((Txt.partition z ".").2.1 = dot) = true then decide ((Txt.partition z ".").1 ∈ ls) else decide (z ∈ ns))) = true
    rw [e1, e2, if_neg (by decide), decide_eq_true h2]
    rfl
  have two : ∀ t ∈ m.c, ∀ y ∈ ALLN, thereB (.str (dotted t.1 y)) ns ls = true := fun t ht y hy => by
    have hm : t.1 ∈ m.labels := List.mem_map.mpr ⟨t, ht, rfl⟩
    obtain ⟨e1, e2, e3⟩ := dot_end t.1 (ok.al _ (List.mem_append_right _ hm)) y hy
    show ((true && endB (dotted t.1 y)) && (if decide ((Txt.partition (dotted t.1 y) ".").2.1 = dot) = true then decide ((Txt.partition (dotted t.1 y) ".").1 ∈ ls) else decide (dotted t.1 y ∈ ns))) = true
    rw [e1, e2, if_pos rfl, e3, decide_eq_true (hl _ hm)]
    rfl
  have inM : ∀ t ∈ m.c, findM ks t.2 ∈ ks := fun t ht => (get_find (ok.cl t ht)).2.1
  constructor
  · intro h hn
    unfold begM at h
    rcases List.mem_append.mp h with h | h
    · refine one z ?_ (hn z h)
      rcases List.mem_append.mp h with h | h
      · exact List.mem_append_left _ (List.mem_append_left _ (List.mem_append_left _ h))
      · exact List.mem_append_left _ (List.mem_append_right _ h)
    · obtain ⟨t, ht, hz⟩ := List.mem_flatMap.mp h
      obtain ⟨y, hy, rfl⟩ := List.mem_map.mp hz
      exact two t ht y ((hk.all _ (inM t ht)).2.1 y (List.mem_append_left _ (List.mem_append_left _ (List.mem_append_right _ hy))))
  · intro h hn
    unfold goeM at h
    rcases List.mem_append.mp h with h | h
    · refine one z ?_ (hn z h)
      rcases List.mem_append.mp h with h | h
      · exact List.mem_append_left _ (List.mem_append_right _ h)
      · exact List.mem_append_left _ (List.mem_append_left _ (List.mem_append_right _ h))
    · obtain ⟨t, ht, hz⟩ := List.mem_flatMap.mp h
      obtain ⟨y, hy, rfl⟩ := List.mem_map.mp hz
      exact two t ht y ((hk.all _ (inM t ht)).2.1 y (List.mem_append_left _ (List.mem_append_left _ (List.mem_append_left _ hy))))
structure Good (m : DMd) (ks : List DMd) : Prop where
  f : MFull m ks
  k : KsOk ks
  n : m.n ∈ NM
  kn : ∀ d ∈ ks, d.n ∈ NM
section
variable {m : DMd} {ks : List DMd}
theorem Good.parts (g : Good m ks) : m.i.Nodup ∧ m.o.Nodup ∧ m.s.Nodup ∧ m.labels.Nodup ∧ (∀ z ∈ m.o, z ∉ m.i) ∧ (∀ z ∈ m.s, z ∉ m.i ++ m.o) ∧ ∀ z ∈ m.labels, z ∉ m.i ++ m.o ++ m.s := by
  have nd := g.f.ok.nd
  unfold DMd.all at nd
  rw [List.nodup_append] at nd
  obtain ⟨n1, n2, n3⟩ := nd
  rw [List.nodup_append] at n1
  obtain ⟨n4, n5, n6⟩ := n1
  rw [List.nodup_append] at n4
  obtain ⟨n7, n8, n9⟩ := n4
  exact ⟨n7, n8, n5, n2, fun z hz hi => n9 z hi z hz rfl, fun z hz hi => n6 z hi z hz rfl, fun z hz hi => n3 z hi z hz rfl⟩
theorem Good.nm (g : Good m ks) : (∀ z ∈ m.i, nameB z = true) ∧ (∀ z ∈ m.o, nameB z = true) ∧ (∀ z ∈ m.s, nameB z = true) ∧ ∀ z ∈ m.labels, nameB z = true := by
  have al := g.f.ok.al
  unfold DMd.all at al
  refine ⟨fun z hz => alln_name z (al z ?_), fun z hz => alln_name z (al z ?_), fun z hz => alln_name z (al z ?_), fun z hz => alln_name z (al z ?_)⟩
  · exact List.mem_append_left _ (List.mem_append_left _ (List.mem_append_left _ hz))
  · exact List.mem_append_left _ (List.mem_append_left _ (List.mem_append_right _ hz))
  · exact List.mem_append_left _ (List.mem_append_right _ hz)
  · exact List.mem_append_right _ hz
theorem Good.calls (g : Good m ks) : ∀ t ∈ m.c, nameB t.1 = true ∧ nameB t.2 = true := fun t ht => by
  refine ⟨g.nm.2.2.2 _ (List.mem_map.mpr ⟨t, ht, rfl⟩), ?_⟩
  obtain ⟨d, hd, e⟩ := List.mem_map.mp (g.f.ok.cl t ht)
  rw [← e]
  exact nm_name _ (g.kn d hd)
theorem Good.links (g : Good m ks) {ls : List Str} (hl : ∀ y ∈ m.labels, y ∈ ls) : (linksA m.l).items.all (fun k => linkB k (m.i ++ m.s) (m.s ++ m.o) ls) = true := by
  have e : (linksA m.l).items = m.l.map fun t => AV.tup [.str t.a, .str t.b, .int t.c, .int t.d] := rfl
  rw [e, List.all_map, List.all_eq_true]
  intro t ht
  have o := g.f.lk t ht
  have h1 := (there_of g.f.ok g.k (z := t.a) (ns := m.i ++ m.s) hl).1 o.a fun _ h => h
  have h2 := (there_of g.f.ok g.k (z := t.b) (ns := m.s ++ m.o) hl).2 o.b fun _ h => h
  show ((true && true) && ((thereB (.str t.a) (m.i ++ m.s) ls && thereB (.str t.b) (m.s ++ m.o) ls) && (decide (0 ≤ t.c) && decide (0 ≤ t.d)))) = true
  rw [h1, h2, decide_eq_true o.c0, decide_eq_true o.d0]
  rfl
theorem Good.f0 (g : Good m ks) : isName (.str m.n) = true := nm_name _ g.n
theorem Good.f1 (g : Good m ks) : freshB (strsA m.i) [] = true := fresh_strsA g.nm.1 g.parts.1 fun _ _ h => nomatch h
theorem Good.f2 (g : Good m ks) : freshB (strsA m.o) (strsA m.i).names = true := by rw [names_strsA]; exact fresh_strsA g.nm.2.1 g.parts.2.1 g.parts.2.2.2.2.1
theorem Good.f3 (g : Good m ks) : freshB (strsA m.s) ((strsA m.i).names ++ (strsA m.o).names) = true := by rw [names_strsA, names_strsA]; exact fresh_strsA g.nm.2.2.1 g.parts.2.2.1 g.parts.2.2.2.2.2.1
theorem Good.lab (g : Good m ks) : labelsOf (callsA m.c) = m.labels := labels_calls g.calls
theorem Good.f4 (g : Good m ks) : (m6L (six m)).linksB = true := by
  show (true && (linksA m.l).items.all fun k => linkB k ((strsA m.i).names ++ (strsA m.s).names) ((strsA m.s).names ++ (strsA m.o).names) (labelsOf (callsA m.c))) = true
  rw [names_strsA, names_strsA, names_strsA, g.lab, g.links fun _ h => h]
  rfl
theorem Good.f5 (g : Good m ks) : (m6L (six m)).callsB = true := by
  show (true && !decide ((labelsOf (callsA m.c)).length < (callsA m.c).items.length)) = true
  have e : (callsA m.c).items.length = m.c.length := List.length_map ..
  have e2 : m.labels.length = m.c.length := List.length_map ..
  rw [g.lab, e, e2, decide_eq_false (Nat.lt_irrefl _)]
  rfl
theorem Good.f6 (g : Good m ks) : freshB (strsA (labelsOf (callsA m.c))) ((strsA m.i).names ++ (strsA m.o).names ++ (strsA m.s).names) = true := by
  rw [names_strsA, names_strsA, names_strsA, g.lab]
  exact fresh_strsA g.nm.2.2.2 g.parts.2.2.2.1 g.parts.2.2.2.2.2.2
def tupd : AV → AV := fun a => .tup a.items
def sixT (m : DMd) : List AV := [.str m.n, tupd (strsA m.i), tupd (strsA m.o), tupd (strsA m.s), tupd (linksA m.l), tupd (callsA m.c)]
end
section
structure SixOk (xs : List AV) : Prop where
  len : xs.length = 6
  sm : ∀ x ∈ xs, x.sm = true
theorem SixOk.get {xs : List AV} (h : SixOk xs) {k : Nat} (hk : k < 6) : atI xs (k : Int) = some (xs.getD k .non) ∧ (xs.getD k .non).sm = true := by
  have e : xs[k]? = some (xs.getD k .non) := by rw [List.getD_eq_getElem?_getD, List.getElem?_eq_getElem (by rw [h.len]; exact hk)]; rfl
  exact ⟨atI_nat e, h.sm _ (List.mem_of_getElem? e)⟩
end
end WW
set_option Elab.async false
set_option linter.all false
set_option maxRecDepth 100000
set_option maxHeartbeats 4000000
namespace WW
open PySem PySem.Spec PyProof.Rows L2
structure Fn (m : DMd) : Prop where
  n : nameB m.n = true
  nd : m.all.Nodup
  al : ∀ z ∈ m.all, nameB z = true
  ln : m.all.length ≤ 100
  cn : ∀ t ∈ m.c, nameB t.2 = true
  la : ∀ t ∈ m.l, thereB (.str t.a) (m.i ++ m.s) m.labels = true
  lb : ∀ t ∈ m.l, thereB (.str t.b) (m.s ++ m.o) m.labels = true
  lc : ∀ t ∈ m.l, 0 ≤ t.c ∧ t.c < 1000 ∧ 0 ≤ t.d ∧ t.d < 1000 ∧ t.a.length ≤ 11 ∧ t.b.length ≤ 11
  ll : m.l.length ≤ 100
section
variable {m : DMd} {ks : List DMd}
theorem Fn.parts (g : Fn m) : m.i.Nodup ∧ m.o.Nodup ∧ m.s.Nodup ∧ m.labels.Nodup ∧ (∀ z ∈ m.o, z ∉ m.i) ∧ (∀ z ∈ m.s, z ∉ m.i ++ m.o) ∧ ∀ z ∈ m.labels, z ∉ m.i ++ m.o ++ m.s := by
  have nd := g.nd
  unfold DMd.all at nd
  rw [List.nodup_append] at nd
  obtain ⟨n1, n2, n3⟩ := nd
  rw [List.nodup_append] at n1
  obtain ⟨n4, n5, n6⟩ := n1
  rw [List.nodup_append] at n4
  obtain ⟨n7, n8, n9⟩ := n4
  exact ⟨n7, n8, n5, n2, fun z hz hi => n9 z hi z hz rfl, fun z hz hi => n6 z hi z hz rfl, fun z hz hi => n3 z hi z hz rfl⟩
theorem Fn.nms (g : Fn m) : (∀ z ∈ m.i, nameB z = true) ∧ (∀ z ∈ m.o, nameB z = true) ∧ (∀ z ∈ m.s, nameB z = true) ∧ ∀ z ∈ m.labels, nameB z = true := by
  have al := g.al
  unfold DMd.all at al
  refine ⟨fun z hz => al z ?_, fun z hz => al z ?_, fun z hz => al z ?_, fun z hz => al z ?_⟩
  · exact List.mem_append_left _ (List.mem_append_left _ (List.mem_append_left _ hz))
  · exact List.mem_append_left _ (List.mem_append_left _ (List.mem_append_right _ hz))
  · exact List.mem_append_left _ (List.mem_append_right _ hz)
  · exact List.mem_append_right _ hz
theorem Fn.sz (g : Fn m) : m.i.length ≤ 100 ∧ m.o.length ≤ 100 ∧ m.s.length ≤ 100 ∧ m.c.length ≤ 100 := by
  have := g.ln
  unfold DMd.all at this
  have e2 : m.labels.length = m.c.length := List.length_map ..
  simp only [List.length_append] at this
  omega
theorem Fn.md (g : Fn m) : ModOf (m6L (six m)) m := by
  obtain ⟨p1, p2, p3, p4, p5, p6, p7⟩ := g.parts
  obtain ⟨n1, n2, n3, n4⟩ := g.nms
  obtain ⟨s1, s2, s3, s4⟩ := g.sz
  have s5 := g.ll
  have small : ∀ {z : Str}, nameB z = true → z.length ≤ 1000 := fun h => Nat.le_trans (nameB_len h) (by decide)
  have lb1 : ∀ t ∈ m.c, nameB t.1 = true := fun t ht => n4 t.1 (List.mem_map.mpr ⟨t, ht, rfl⟩)
  have lab : labelsOf (callsA m.c) = m.labels := labels_calls fun t ht => ⟨lb1 t ht, g.cn t ht⟩
  have links : (linksA m.l).items.all (fun k => linkB k (m.i ++ m.s) (m.s ++ m.o) m.labels) = true := by
    have e : (linksA m.l).items = m.l.map fun t => AV.tup [.str t.a, .str t.b, .int t.c, .int t.d] := rfl
    rw [e, List.all_map, List.all_eq_true]
    intro t ht
    show ((true && true) && ((thereB (.str t.a) (m.i ++ m.s) m.labels && thereB (.str t.b) (m.s ++ m.o) m.labels) && (decide (0 ≤ t.c) && decide (0 ≤ t.d)))) = true
    rw [g.la t ht, g.lb t ht, decide_eq_true (g.lc t ht).1, decide_eq_true (g.lc t ht).2.2.1]
    rfl
  have lsm : (linksA m.l).sm = true := by
    have e : linksA m.l = .lst (m.l.map fun t => AV.tup [.str t.a, .str t.b, .int t.c, .int t.d]) := rfl
    rw [e, AV.sm, Bool.and_eq_true, List.length_map, AV.sms_iff]
    refine ⟨decide_eq_true (by omega), fun x hx => ?_⟩
    obtain ⟨t, ht, rfl⟩ := List.mem_map.mp hx
    have h1 : decide (t.a.length ≤ 1000) = true := decide_eq_true (by have := (g.lc t ht).2.2.2.2.1; omega)
    have h2 : decide (t.b.length ≤ 1000) = true := decide_eq_true (by have := (g.lc t ht).2.2.2.2.2; omega)
    simp [AV.sm, AV.sms, h1, h2]
  have csm : (callsA m.c).sm = true := by
    have e : callsA m.c = .lst (m.c.map fun t => AV.tup [.str t.1, .str t.2]) := rfl
    rw [e, AV.sm, Bool.and_eq_true, List.length_map, AV.sms_iff]
    refine ⟨decide_eq_true (by omega), fun x hx => ?_⟩
    obtain ⟨t, ht, rfl⟩ := List.mem_map.mp hx
    have h1 : decide (t.1.length ≤ 1000) = true := decide_eq_true (small (lb1 t ht))
    have h2 : decide (t.2.length ≤ 1000) = true := decide_eq_true (small (g.cn t ht))
    simp [AV.sm, AV.sms, h1, h2]
  refine ⟨rfl, rfl, rfl, rfl, rfl, rfl, ⟨?_, strsA_sm (by omega) fun z hz => small (n1 z hz), strsA_sm (by omega) fun z hz => small (n2 z hz), strsA_sm (by omega) fun z hz => small (n3 z hz), lsm, csm⟩, wm_none ?_ ?_ ?_ ?_ ?_ ?_ ?_⟩
  · show AV.sm (.str m.n) = true
    rw [AV.sm]
    exact decide_eq_true (small g.n)
  · exact g.n
  · exact fresh_strsA n1 p1 fun _ _ h => nomatch h
  · show freshB (strsA m.o) (strsA m.i).names = true
    rw [names_strsA]
    exact fresh_strsA n2 p2 p5
  · show freshB (strsA m.s) ((strsA m.i).names ++ (strsA m.o).names) = true
    rw [names_strsA, names_strsA]
    exact fresh_strsA n3 p3 p6
  · show (true && (linksA m.l).items.all fun k => linkB k ((strsA m.i).names ++ (strsA m.s).names) ((strsA m.s).names ++ (strsA m.o).names) (labelsOf (callsA m.c))) = true
    rw [names_strsA, names_strsA, names_strsA, lab, links]
    rfl
  · show (true && !decide ((labelsOf (callsA m.c)).length < (callsA m.c).items.length)) = true
    have e : (callsA m.c).items.length = m.c.length := List.length_map ..
    have e2 : m.labels.length = m.c.length := List.length_map ..
    rw [lab, e, e2, decide_eq_false (Nat.lt_irrefl _)]
    rfl
  · show freshB (strsA (labelsOf (callsA m.c))) ((strsA m.i).names ++ (strsA m.o).names ++ (strsA m.s).names) = true
    rw [names_strsA, names_strsA, names_strsA, lab]
    exact fresh_strsA n4 p4 p7
theorem ModOf.tup (h : ModOf (m6L (six m)) m) : ModOf (m6L (sixT m)) m := by
  obtain ⟨_, _, _, _, _, _, ⟨s0, s1, s2, s3, s4, s5⟩, hw⟩ := h
  exact ⟨rfl, rfl, rfl, rfl, rfl, rfl, ⟨s0, s1, s2, s3, s4, s5⟩, hw⟩
theorem Good.fn (g : Good m ks) : Fn m := by
  have o := g.f.ok
  have hn : nameB m.n = true := nm_name _ g.n
  have la : ∀ t ∈ m.l, thereB (.str t.a) (m.i ++ m.s) m.labels = true := fun t ht => (there_of o g.k (fun _ h => h)).1 (g.f.lk t ht).a fun _ h => h
  have lb : ∀ t ∈ m.l, thereB (.str t.b) (m.s ++ m.o) m.labels = true := fun t ht => (there_of o g.k (fun _ h => h)).2 (g.f.lk t ht).b fun _ h => h
  refine ⟨hn, o.nd, fun z hz => alln_name z (o.al z hz), by have := o.ln; omega, fun t ht => (g.calls t ht).2, la, lb, fun t ht => ?_, by have := g.f.ll; omega⟩
  have k := g.f.lk t ht
  have len : ∀ {z : Str} {ns ls : List Str}, thereB (.str z) ns ls = true → z.length ≤ 11 := fun {z ns ls} h => by
    have h : ((true && endB z) && _) = true := h
    rw [Bool.and_eq_true, Bool.true_and] at h
    have e := h.1
    unfold endB at e
    rw [Bool.and_eq_true, Bool.and_eq_true] at e
    have e1 := of_decide_eq_true e.1.2
    have e2 := List.all_eq_true.mp e.2
    have sj := congrArg Str.length (PySem.StrLaws.join_split z ".")
    revert e1 e2 sj
    generalize Txt.split z "." = l
    intro e1 e2 sj
    have dl : ("." : Str).length = 1 := by decide
    match l, e1, e2, sj with
    | [], _, _, sj =>
      rw [← sj]
      exact Nat.zero_le _
    | a :: r, e1, e2, sj =>
      rw [len_join_cons, dl] at sj
      rw [← sj]
      match r, e1, e2 with
      | [], _, e2 =>
        have := nameB_len (e2 a (by simp))
        simp
        omega
      | [b], _, e2 =>
        have h1 := nameB_len (e2 a (by simp))
        have h2 := nameB_len (e2 b (by simp))
        simp
        omega
      | _ :: _ :: _, e1, _ =>
        simp at e1
  exact ⟨k.c0, by have := k.c1; omega, k.d0, by have := k.d1; omega, len (la t ht), len (lb t ht)⟩
end
end WW
set_option Elab.async false
set_option linter.all false
set_option maxRecDepth 100000
set_option maxHeartbeats 4000000
namespace WW
open PySem PySem.Spec PyProof.Rows L2
structure OthT where
  t : Value
instance : Enc OthT := ⟨fun K S v o => TyX K S v o.t, fun h r => tyx_same h r⟩
def spMEq (K : PySem.W.Frag) : Sp := fun vs H Q _ => ∃ (S : Hp) (x : Addr) (y : V) (m : DMd), vs = [.ref x, y] ∧ Same S H ∧ Enc.rep K S (.ref x) (MOb.mk m) ∧
  ((∃ t, TyX K H y t ∧ PySem.W.kitOne K t (.ref (He.ga K "Module")) = some false ∧ Q (.bl false) H) ∨ (∃ m' : DMd, Enc.rep K S y (MOb.mk m') ∧ TxtM m ∧ TxtM m' ∧ ∀ S' H', Ext noB S H S' H' → Q (.bl (decide (modText m = modText m'))) H'))
section
variable {K : PySem.W.Frag} {B : Addr → Prop} {ρ : List Slot} {ta tb te : TE} {m m' : DMd}
theorem ext_noM {S H S' H' : Hp} (e : Ext noB S H S' H') : Ext B S H S' H' := ⟨e.s, e.i, fun a h1 h2 => ⟨(e.p a h1 h2).1, (e.p a h1 h2).2.imp id fun h => h.1.elim⟩⟩
theorem d_eqMO {x : OthT} (neg : Bool) (ha : DE K B ta ρ (MOb.mk m)) (hb : DE K B tb ρ x) (ap : ApT K (He.ga K "Module") x.t) : DE K B (tOp (rOwn K (He.ga K "Module") (spMEq K) neg) ta tb) ρ neg :=
  d_op ha hb fun v u S H i ⟨y, dx, v1, v2, v3, v4, v5, z, hx, g⟩ ty Q q => by
    subst z
    refine .mk y dx _ _ rfl (i _ _ hx) (tyx_same i ty) ap.nf ⟨S, y, u, m, rfl, i, ⟨y, dx, v1, v2, v3, v4, v5, rfl, hx, g⟩, .inl ⟨_, tyx_same i ty, ap.no, false, rfl, ?_⟩⟩
    cases neg <;> exact q _ S H (Ext.refl i) rfl
theorem d_eqMM (MC : ModC K (He.ga K "Module")) (T : TyC K (He.ga K "Module")) (neg : Bool) (ha : DE K B ta ρ (MOb.mk m)) (hb : DE K B tb ρ (MOb.mk m')) (g : TxtM m) (g' : TxtM m') : DE K B (tOp (rOwn K (He.ga K "Module") (spMEq K) neg) ta tb) ρ (if neg then !decide (modText m = modText m') else decide (modText m = modText m')) :=
  d_op ha hb fun v u S H i ⟨y, dx, v1, v2, v3, v4, v5, z, hx, g1⟩ r2 Q q => by
    subst z
    obtain ⟨y2, dx2, w1, w2, w3, w4, w5, z2, hx2, g2⟩ := id r2
    subst z2
    refine .mk y dx _ _ rfl (i _ _ hx) (tyx_same i (.base (.ins hx2 MC.cls T.cl T.ge T.tk T.ob))) notFirst_self ⟨S, y, .ref y2, m, rfl, i, ⟨y, dx, v1, v2, v3, v4, v5, rfl, hx, g1⟩, .inr ⟨m', r2, g, g', fun S' H' ex => ⟨_, rfl, ?_⟩⟩⟩
    cases neg <;> exact q _ S' H' (ext_noM ex) rfl
theorem d_mkLMod {t : TA} {g : M6} {CI : Addr} {W : WX} (h0 : ρ[0]? = some (.val (V.ref (He.ga K "Module")))) (h : DA K B t ρ [.val g.n, .val g.i, .val g.o, .val g.s, .val g.l, .val g.c]) (hg : ModOf g m) : DE K B (tMakeLS 0 (He.ga K "Module") (spInitMod K (He.ga K "Module") CI) [] (WE W) t) ρ (MOb.mk m) := fun S0 H0 S H σ E Q q => by
  obtain ⟨v, h1, h2⟩ := E.val h0
  cases (show v = V.ref (He.ga K "Module") from h2)
  exact ⟨h1, d_mkMod h hg S0 H0 S H σ E Q q⟩
theorem DG.six {g1 g2 g3 g4 g5 g6 : TG} {ρ1 ρ2 ρ3 ρ4 ρ5 ρ6 : List Slot} {j1 j2 j3 j4 j5 j6 : List Nat} (h1 : DG K B g1 m.n ρ ρ1 j1) (h2 : DG K B g2 (show U Str from m.i) ρ1 ρ2 j2) (h3 : DG K B g3 (show U Str from m.o) ρ2 ρ3 j3) (h4 : DG K B g4 (show U Str from m.s) ρ3 ρ4 j4) (h5 : DG K B g5 (show U Lk from m.l) ρ4 ρ5 j5) (h6 : DG K B g6 (show U (Str × Str) from m.c) ρ5 ρ6 j6) :
    DG K B (gTup K 6 (gCons g1 (gCons g2 (gCons g3 (gCons g4 (gCons g5 (gCons g6 gNil))))))) (A6.mk m) ρ ρ6 (j1 ++ (j2 ++ (j3 ++ (j4 ++ (j5 ++ j6))))) := fun S0 H0 S H σ v E r R q => by
  obtain ⟨p, v1, v2, v3, v4, v5, v6, rfl, hq, r1, r2, r3, r4, r5, r6⟩ := r
  refine ⟨p, [v1, v2, v3, v4, v5, v6], rfl, Evl.ex_t E.i hq, rfl, v1, [v2, v3, v4, v5, v6], rfl, ?_⟩
  refine h1 S0 H0 S H σ v1 E r1 _ fun σ1 E1 l1 f1 => ⟨v2, [v3, v4, v5, v6], rfl, ?_⟩
  refine h2 S0 H0 S H σ1 v2 E1 r2 _ fun σ2 E2 l2 f2 => ⟨v3, [v4, v5, v6], rfl, ?_⟩
  refine h3 S0 H0 S H σ2 v3 E2 r3 _ fun σ3 E3 l3 f3 => ⟨v4, [v5, v6], rfl, ?_⟩
  refine h4 S0 H0 S H σ3 v4 E3 r4 _ fun σ4 E4 l4 f4 => ⟨v5, [v6], rfl, ?_⟩
  refine h5 S0 H0 S H σ4 v5 E4 r5 _ fun σ5 E5 l5 f5 => ⟨v6, [], rfl, ?_⟩
  refine h6 S0 H0 S H σ5 v6 E5 r6 _ fun σ6 E6 l6 f6 => ⟨rfl, q σ6 E6 (((((l6.trans l5).trans l4).trans l3).trans l2).trans l1) fun i hi => ?_⟩
  simp only [List.mem_append, not_or] at hi
  rw [f6 i hi.2.2.2.2.2, f5 i hi.2.2.2.2.1, f4 i hi.2.2.2.1, f3 i hi.2.2.1, f2 i hi.2.1, f1 i hi.1]
end
section
variable {P : Program} {w : World} {K : PySem.W.Frag} {mg : Str → Option Value} {base : Heap} {f : Addr} {fd : FuncData}
abbrev N_Module___eq__ : List Str := ["self", "other"]
theorem sc_Module___eq__ : FnScope N_Module___eq__ ["self", "other"] (defScope s_Module___eq__) := ⟨rfl, rfl, rfl, by decide +kernel, rfl, by decide +kernel, by decide +kernel⟩
theorem ok_meq (F : FunD K "__eq__" "Module.__eq__" (defArgs s_Module___eq__) (defBody s_Module___eq__) (defScope s_Module___eq__) [] [] f fd) (MC : ModC K (He.ga K "Module")) (T : TyC K (He.ga K "Module")) (m_Module : mg "Module" = some (.ref (He.ga K "Module"))) (m_isinstance : mg "isinstance" = none) (m_str : mg "str" = none) (g_mstr : StrAtC P w K mg base CX0 4 (He.ga K "Module") ["self"] (spMStr K)) : FnOk P w K mg base CX0 7 f fd ["self", "other"] (spMEq K) := by
  refine F.ok sc_Module___eq__ (fun vs H Q E h => ?_) (fun cdv A outer s H vs Q E hr h => ?_)
  · obtain ⟨S, x, y, m, rfl, _⟩ := h
    rfl
  · obtain ⟨S, x, y, m, rfl, si, rx, q⟩ := h
    refine ⟨_, PSs.nox (pss_one (ps_ret (pe_and (pe_callB (call_isiK1 K) rfl m_isinstance (by decide +kernel) (pa_cons (pv 1) (pa_cons (pe_glob (v := .ref (He.ga K "Module")) rfl m_Module rfl) (pa_nil)))) (pe_one (pe_cmpR op_eq (pe_callTy (call_strO g_mstr hr) rfl m_str (by decide +kernel) (pa_cons (pv 0) (pa_nil))) (pe_callTy (call_strO g_mstr hr) rfl m_str (by decide +kernel) (pa_cons (pv 1) (pa_nil))) (nomark _)))))), ?_⟩
    rcases q with ⟨t, ty, no, q⟩ | ⟨m', ry, g1, g2, q⟩
    · refine ⟨_, rfl, ?_⟩
      exact ⟨_, _, _, _, false, rfl, .own _, ty, no, false, rfl, q⟩
    · have E0 := start_en (N := N_Module___eq__) (B := noB) (ss := [.val (MOb.mk m), .val (MOb.mk m')]) si (fun p hp => hp.elim) (.cons rx rfl (.cons ry rfl .nil))
      have E0 : En K noB S H S H _ [.val (MOb.mk m), .val (MOb.mk m')] := E0
      refine (show DS K noB _ [.val (MOb.mk m), .val (MOb.mk m')] ⟨fun _ => False, fun s => s = .val (decide (modText m = modText m')), fun _ => False, fun _ => False, fun _ _ => True⟩ from ?_) S H S H _ _ E0 trivial (fun _ _ _ _ h => h.elim) (fun s v S' H' r ex ok => ?_) (fun _ _ _ _ h => h.elim) (fun _ _ _ _ h => h.elim)
      · exact ds_ret (d_andV (b := true) (d_isM MC T (d_var (n := 1) (a := MOb.mk m') rfl)) fun _ => d_eq (d_strM (d_var (n := 0) (a := MOb.mk m) rfl) g1) (d_strM (d_var (n := 1) (a := MOb.mk m') rfl) g2) inferInstance inferInstance) rfl
      · subst r
        cases (show v = V.bl (decide (modText m = modText m')) from ok)
        exact q S' H' ex
def dpReadM : List Slot → (Slot → Prop) → Prop := fun ss R => ∃ (z : Str) (m : DMd) (r : List DMd), ss = [.val z] ∧ TxtIn z ∧ readT true z = some (m :: r) ∧ R (.val (A6.mk m))
abbrev N_read_module : List Str := ["text"]
theorem sc_read_module : FnScope N_read_module ["text"] (defScope s_read_module) := ⟨rfl, rfl, rfl, by decide +kernel, rfl, by decide +kernel, by decide +kernel⟩
theorem ok_read_module (F : FnP K "read_module" s_read_module f fd) (m_isinstance : mg "isinstance" = none) (m_str : mg "str" = none) (g_told_modules : FnAt P w K mg base CX0 6 "told_modules" ["text", "is_single"] (spT K dpTold)) : FnOk P w K mg base CX0 7 f fd ["text"] (spT K dpReadM) := by
  refine okT F sc_read_module (fun ss R h => ?_) (fun cdv A outer s H E hr => ⟨_, (pss_cons (ps_if (pt_not (pt_val (pe_callB (call_isiK1 K) rfl m_isinstance (by decide +kernel) (pa_cons (pv 0) (pa_cons (pe_bltn (v := .ty "str") (u := .type "str") rfl m_str (by decide +kernel) rfl) (pa_nil)))))) (pss_one (ps_never)) (pss_nil))
 (pss_one (ps_ret (pe_ix (ix_sqK K) (pe_fn g_told_modules hr rfl (pa_cons (pv 0) (pa_cons (pe_bl) (pa_nil)))) (pe_int) (fun _ _ => rfl))))), fun B ss R h => ?_⟩)
  · obtain ⟨z, m, r, rfl, _⟩ := h
    rfl
  · obtain ⟨z, m, r, rfl, hz, hr', q⟩ := h
    show DS K B _ [.val z] _
    refine dq_when (c := false) (DT.is (dt_not (dt_B (d_isA (d_avS (d_var (a := z) rfl)) kit_str))) rfl) (fun h => nomatch h) fun _ => ?_
    exact ds_ret (α := A6) (d_ix (xs := (m :: r).map A6.mk) (d_Lq (d_call (α := L A6) (a := (show L A6 from (m :: r).map A6.mk)) (da_cons (d_var (a := z) rfl) (da_cons (d_bl (b := true)) da_nil)) ⟨z, true, m :: r, rfl, hz, hr', rfl⟩)) d_int (atI_nat (j := 0) (show ((m :: r).map A6.mk)[0]? = some (A6.mk m) from rfl))) q
def dpMRead (K : PySem.W.Frag) : List Slot → (Slot → Prop) → Prop := fun ss R => ∃ (z : Str) (m : DMd) (r : List DMd), ss = [.val (V.ref (He.ga K "Module")), .val z] ∧ TxtIn z ∧ readT true z = some (m :: r) ∧ ModOf (m6L (sixT m)) m ∧ R (.val (MOb.mk m))
abbrev N_Module_read : List Str := ["cls", "text", "name", "inlets", "outlets", "stations", "links", "calls"]
theorem sc_Module_read : FnScope N_Module_read ["cls", "text"] (defScope s_Module_read) := ⟨rfl, rfl, rfl, by decide +kernel, rfl, by decide +kernel, by decide +kernel⟩
theorem ok_mread (F : FunD K "read" "Module.read" (defArgs s_Module_read) (defBody s_Module_read) (defScope s_Module_read) [] [] f fd) (g_read_module : FnAt P w K mg base CX0 7 "read_module" ["text"] (spT K dpReadM)) (gX_Module : MkAtX P w K mg base 5 "Module" ["self", "name", "inlets", "outlets", "stations", "links", "calls"] (spInitMod K (He.ga K "Module") (He.ga K "InvalidModule")) []) : FnOk P w K mg base CX0 8 f fd ["cls", "text"] (spT K (dpMRead K)) := by
  refine okT F sc_Module_read (fun ss R h => ?_) (fun cdv A outer s H E hr => ⟨_, (pss_cons (ps_asg (pe_fn g_read_module hr rfl (pa_cons (pv 1) (pa_nil))) (pg_tupK (n := 6) K rfl (pgs_cons (pg_name (i := 2) sc_Module_read.nd rfl (.inl rfl)) (pgs_cons (pg_name (i := 3) sc_Module_read.nd rfl (.inl rfl)) (pgs_cons (pg_name (i := 4) sc_Module_read.nd rfl (.inl rfl)) (pgs_cons (pg_name (i := 5) sc_Module_read.nd rfl (.inl rfl)) (pgs_cons (pg_name (i := 6) sc_Module_read.nd rfl (.inl rfl)) (pgs_cons (pg_name (i := 7) sc_Module_read.nd rfl (.inl rfl)) (pgs_nil)))))))))
 (pss_one (ps_ret (pe_mkLX (i := 0) (y := "Module") K gX_Module takes_no hr rfl (.inl rfl) (pa_cons (pv 2) (pa_cons (pv 3) (pa_cons (pv 4) (pa_cons (pv 5) (pa_cons (pv 6) (pa_cons (pv 7) pa_nil)))))))))), fun B ss R h => ?_⟩)
  · obtain ⟨z, m, r, rfl, _⟩ := h
    rfl
  · obtain ⟨z, m, r, rfl, hz, hr', hm, q⟩ := h
    show DS K B _ [.val (V.ref (He.ga K "Module")), .val z, .no, .no, .no, .no, .no, .no] _
    refine ds_seq (ds_asgG (d_call (α := A6) (a := A6.mk m) (da_cons (d_var (a := z) rfl) da_nil) ⟨z, m, r, rfl, hz, hr', rfl⟩) (DG.six dg_name dg_name dg_name dg_name dg_name dg_name) ?_)
    show DS K B _ [.val (V.ref (He.ga K "Module")), .val z, .val m.n, .val (show U Str from m.i), .val (show U Str from m.o), .val (show U Str from m.s), .val (show U Lk from m.l), .val (show U (Str × Str) from m.c)] _
    exact ds_ret (d_mkLMod (g := m6L (sixT m)) rfl (da_cons (a := AV.str m.n) (d_avS (d_var rfl)) (da_cons (a := tupd (strsA m.i)) (d_av (α := U Str) (d_var (a := (show U Str from m.i)) rfl)) (da_cons (a := tupd (strsA m.o)) (d_av (α := U Str) (d_var (a := (show U Str from m.o)) rfl)) (da_cons (a := tupd (strsA m.s)) (d_av (α := U Str) (d_var (a := (show U Str from m.s)) rfl)) (da_cons (a := tupd (linksA m.l)) (d_av (α := U Lk) (d_var (a := (show U Lk from m.l)) rfl)) (da_cons (a := tupd (callsA m.c)) (d_av (α := U (Str × Str)) (d_var (a := (show U (Str × Str) from m.c)) rfl)) da_nil)))))) hm) q
end
end WW
set_option Elab.async false
set_option linter.all false
set_option maxRecDepth 100000
set_option maxHeartbeats 4000000
namespace WW
open PySem PySem.Spec PyProof.Rows L2
open TL (tl joinL tl_join tl_append ext_tl map_tl_inj join_eq)
def numS (i : Int) : Str := Str.ofString (toString i)
def kW (m : DMd) : List (List Str) := [(["module", m.n] : List Str)] ++ ((if 0 < m.i.length then [("in" : Str) :: m.i] else []) ++ ((if 0 < m.o.length then [("out" : Str) :: m.o] else []) ++ ((if 0 < m.s.length then [("at" : Str) :: m.s] else []) ++ (m.c.map (fun t => (["use", t.1, t.2] : List Str)) ++ m.l.map fun t => (["link", t.a, t.b, numS t.c, numS t.d] : List Str)))))
theorem tl_foldl : ∀ (zs : List Str) (a : Str), tl (zs.foldl (· ++ ·) a) = tl a ++ (zs.map tl).flatten
  | [], a => by simp
  | z :: r, a => by rw [List.foldl_cons, tl_foldl r, tl_append, List.map_cons, List.flatten_cons, List.append_assoc]
theorem tl_fmtJ (zs : List Str) : tl (fmtJ zs) = (zs.map tl).flatten := by
  unfold fmtJ
  rw [tl_foldl]
  rfl
theorem tl_joinT (y : Str) (ws : List Str) : tl (Txt.join y ws) = joinL (tl y) (ws.map tl) := by rw [join_eq, tl_join]
theorem line_module (n : Str) : fmtJ ["module ", n] = Txt.join " " ["module", n] := by
  refine ext_tl ?_
  rw [tl_fmtJ, tl_joinT]
  show tl "module " ++ (tl n ++ []) = tl "module" ++ (tl " " ++ tl n)
  rw [List.append_nil, ← List.append_assoc]
  rfl
theorem line_use (t : Str × Str) : useLine t = Txt.join " " ["use", t.1, t.2] := by
  refine ext_tl ?_
  unfold useLine
  rw [tl_fmtJ, tl_joinT]
  show tl "use " ++ (tl t.1 ++ (tl " " ++ (tl t.2 ++ []))) = tl "use" ++ (tl " " ++ (tl t.1 ++ (tl " " ++ tl t.2)))
  rw [List.append_nil, ← List.append_assoc (tl "use")]
  rfl
theorem line_link (t : Lk) : lnkLine t = Txt.join " " ["link", t.a, t.b, numS t.c, numS t.d] := by
  refine ext_tl ?_
  unfold lnkLine
  rw [tl_fmtJ, tl_joinT]
  show tl "link " ++ (tl t.a ++ (tl " " ++ (tl t.b ++ (tl " " ++ (tl (numS t.c) ++ (tl " " ++ (tl (numS t.d) ++ []))))))) = tl "link" ++ (tl " " ++ (tl t.a ++ (tl " " ++ (tl t.b ++ (tl " " ++ (tl (numS t.c) ++ (tl " " ++ tl (numS t.d))))))))
  rw [List.append_nil, ← List.append_assoc (tl "link")]
  rfl
theorem lines_kW (m : DMd) : modLines m = (kW m).map (Txt.join " ") := by
  have sec : ∀ (w : Str) (ns : List Str), nmLine w ns = (if 0 < ns.length then [w :: ns] else []).map (Txt.join " ") := fun w ns => by
    unfold nmLine
    split <;> rfl
  unfold modLines kW nmSecs
  rw [line_module]
  simp only [List.flatMap_cons, List.flatMap_nil, List.append_nil, List.map_append, List.map_map, sec]
  have e1 : m.c.map useLine = m.c.map (Txt.join " " ∘ fun t => (["use", t.1, t.2] : List Str)) := List.map_congr_left fun t _ => line_use t
  have e2 : m.l.map lnkLine = m.l.map (Txt.join " " ∘ fun t => (["link", t.a, t.b, numS t.c, numS t.d] : List Str)) := List.map_congr_left fun t _ => line_link t
  rw [e1, e2]
  simp only [List.append_assoc, List.map_cons, List.map_nil]
def plainW (z : Str) : Prop := 32 ∉ tl z ∧ 10 ∉ tl z
theorem name_signs {z : Str} (h : nameB z = true) : ∀ c ∈ tl z, 97 ≤ c ∧ c ≤ 122 := fun c hc => by
  unfold nameB at h
  rw [Bool.and_eq_true] at h
  have := of_decide_eq_true (List.all_eq_true.mp h.2 c hc)
  have sl : SMALLS.cps.toList = (List.range 26).map (97 + ·) := by decide
  rw [sl] at this
  obtain ⟨k, hk, rfl⟩ := List.mem_map.mp this
  have := List.mem_range.mp hk
  omega
theorem name_plain {z : Str} (h : nameB z = true) : plainW z := ⟨fun c => by have := name_signs h _ c; omega, fun c => by have := name_signs h _ c; omega⟩
theorem mem_joinL {S : List Nat} {c : Nat} : ∀ {ps : List (List Nat)}, c ∈ joinL S ps → c ∈ S ∨ ∃ p ∈ ps, c ∈ p
  | [], h => nomatch h
  | [p], h => .inr ⟨p, List.mem_singleton.mpr rfl, h⟩
  | p :: q :: r, h => by
    rcases List.mem_append.mp (show c ∈ p ++ (S ++ joinL S (q :: r)) from h) with h | h
    · exact .inr ⟨p, List.mem_cons_self, h⟩
    · rcases List.mem_append.mp h with h | h
      · exact .inl h
      · rcases mem_joinL h with h | ⟨p', h1, h2⟩
        · exact .inl h
        · exact .inr ⟨p', List.mem_cons_of_mem _ h1, h2⟩
theorem end_plainW {z : Str} (h : endB z = true) : plainW z := by
  unfold endB at h
  rw [Bool.and_eq_true] at h
  have al := List.all_eq_true.mp h.2
  have sj := congrArg tl (PySem.StrLaws.join_split z ".")
  rw [tl_join] at sj
  have key : ∀ c ∈ tl z, c = 46 ∨ (97 ≤ c ∧ c ≤ 122) := fun c hc => by
    rw [← sj] at hc
    rcases mem_joinL hc with h | ⟨p, hp, h⟩
    · left
      have e : tl "." = [46] := by decide
      rw [e] at h
      exact List.mem_singleton.mp h
    · obtain ⟨y, hy, rfl⟩ := List.mem_map.mp hp
      exact .inr (name_signs (al y hy) c h)
  exact ⟨fun c => by have := key _ c; omega, fun c => by have := key _ c; omega⟩
theorem num_all : ((List.range 1000).all fun n => decide (numIn (numS ((n : Nat) : Int)) 3 = some ((n : Nat) : Int)) && ((tl (numS ((n : Nat) : Int))).all fun c => decide (c ≠ 32) && decide (c ≠ 10)) && decide ((numS ((n : Nat) : Int)).length ≤ 11)) = true := by decide +kernel
theorem num_ok {i : Int} (h0 : 0 ≤ i) (h : i < 1000) : numIn (numS i) 3 = some i ∧ plainW (numS i) ∧ (numS i).length ≤ 11 := by
  obtain ⟨n, rfl⟩ : ∃ n : Nat, i = n := ⟨i.toNat, by omega⟩
  have := List.all_eq_true.mp num_all n (List.mem_range.mpr (by omega))
  rw [Bool.and_eq_true, Bool.and_eq_true] at this
  obtain ⟨⟨h1, h2⟩, h3⟩ := this
  have q := List.all_eq_true.mp h2
  refine ⟨of_decide_eq_true h1, ⟨fun c => ?_, fun c => ?_⟩, of_decide_eq_true h3⟩
  · have := q _ c
    simp at this
  · have := q _ c
    simp at this
theorem there_end {z : Str} {ns ls : List Str} (h : thereB (.str z) ns ls = true) : endB z = true := by
  have h : ((true && endB z) && _) = true := h
  rw [Bool.and_eq_true, Bool.true_and] at h
  exact h.1
theorem Fn.words {m : DMd} (g : Fn m) : ∀ ws ∈ kW m, 0 < ws.length ∧ ws.length ≤ 101 ∧ ∀ w ∈ ws, plainW w ∧ w.length ≤ 11 := by
  obtain ⟨n1, n2, n3, n4⟩ := g.nms
  obtain ⟨s1, s2, s3, s4⟩ := g.sz
  have nm : ∀ {z : Str}, nameB z = true → plainW z ∧ z.length ≤ 11 := fun h => ⟨name_plain h, by have := nameB_len h; omega⟩
  have kw : ∀ w ∈ (["module", "in", "out", "at", "use", "link"] : List Str), plainW w ∧ w.length ≤ 11 := by
    have : ((["module", "in", "out", "at", "use", "link"] : List Str).all fun w => decide (32 ∉ tl w) && decide (10 ∉ tl w) && decide (w.length ≤ 11)) = true := by decide +kernel
    intro w hw
    have := List.all_eq_true.mp this w hw
    rw [Bool.and_eq_true, Bool.and_eq_true] at this
    exact ⟨⟨of_decide_eq_true this.1.1, of_decide_eq_true this.1.2⟩, of_decide_eq_true this.2⟩
  have sec : ∀ (w : Str) (ns : List Str), w ∈ (["module", "in", "out", "at", "use", "link"] : List Str) → (∀ z ∈ ns, nameB z = true) → ns.length ≤ 100 → ∀ ws ∈ (if 0 < ns.length then [w :: ns] else []), 0 < ws.length ∧ ws.length ≤ 101 ∧ ∀ y ∈ ws, plainW y ∧ y.length ≤ 11 := fun w ns hw hn hl ws h => by
    split at h
    · rw [List.mem_singleton.mp h]
      refine ⟨Nat.succ_pos _, Nat.succ_le_succ hl, fun y hy => ?_⟩
      rcases List.mem_cons.mp hy with rfl | hy
      · exact kw _ hw
      · exact nm (hn y hy)
    · cases h
  intro ws h
  unfold kW at h
  rcases List.mem_append.mp h with h | h
  · rw [List.mem_singleton.mp h]
    refine ⟨by show 0 < 2; decide, by show 2 ≤ 101; decide, fun y hy => ?_⟩
    simp only [List.mem_cons, List.mem_nil_iff, or_false] at hy
    rcases hy with rfl | rfl
    · exact kw _ (by decide)
    · exact nm g.n
  rcases List.mem_append.mp h with h | h
  · exact sec "in" m.i (by decide) n1 s1 ws h
  rcases List.mem_append.mp h with h | h
  · exact sec "out" m.o (by decide) n2 s2 ws h
  rcases List.mem_append.mp h with h | h
  · exact sec "at" m.s (by decide) n3 s3 ws h
  rcases List.mem_append.mp h with h | h
  · obtain ⟨t, ht, rfl⟩ := List.mem_map.mp h
    refine ⟨by show 0 < 3; decide, by show 3 ≤ 101; decide, fun y hy => ?_⟩
    simp only [List.mem_cons, List.mem_nil_iff, or_false] at hy
    rcases hy with rfl | rfl | rfl
    · exact kw _ (by decide)
    · exact nm (n4 t.1 (List.mem_map.mpr ⟨t, ht, rfl⟩))
    · exact nm (g.cn t ht)
  · obtain ⟨t, ht, rfl⟩ := List.mem_map.mp h
    obtain ⟨c0, c1, d0, d1, al, bl⟩ := g.lc t ht
    refine ⟨by show 0 < 5; decide, by show 5 ≤ 101; decide, fun y hy => ?_⟩
    simp only [List.mem_cons, List.mem_nil_iff, or_false] at hy
    rcases hy with rfl | rfl | rfl | rfl | rfl
    · exact kw _ (by decide)
    · exact ⟨end_plainW (there_end (g.la t ht)), al⟩
    · exact ⟨end_plainW (there_end (g.lb t ht)), bl⟩
    · exact (num_ok c0 c1).2
    · exact (num_ok d0 d1).2
theorem Fn.kl {m : DMd} (g : Fn m) : (kW m).length ≤ 204 := by
  obtain ⟨s1, s2, s3, s4⟩ := g.sz
  have := g.ll
  have one : ∀ (w : Str) (ns : List Str), (if 0 < ns.length then [w :: ns] else []).length ≤ 1 := fun w ns => by split <;> simp
  have a1 := one "in" m.i
  have a2 := one "out" m.o
  have a3 := one "at" m.s
  unfold kW
  simp only [List.length_append, List.length_map, List.length_singleton]
  omega
theorem Fn.lnsT {m : DMd} (g : Fn m) : Txt.split (modText m) "\n" = (kW m).map (Txt.join " ") ∧ lnsT (modText m) = kW m := by
  have ww := g.words
  have ne : (kW m).map (Txt.join " ") ≠ [] := by unfold kW; simp
  have e1 : Txt.split (modText m) "\n" = (kW m).map (Txt.join " ") := by
    unfold modText
    rw [lines_kW]
    refine TL.split_join (s := 10) (S := []) (by decide) (by decide +kernel) ne fun p hp hc => ?_
    obtain ⟨ws, hws, rfl⟩ := List.mem_map.mp hp
    rw [tl_joinT] at hc
    rcases mem_joinL hc with h | ⟨q, hq, h⟩
    · revert h
      decide
    · obtain ⟨y, hy, rfl⟩ := List.mem_map.mp hq
      exact ((ww ws hws).2.2 y hy).1.2 h
  refine ⟨e1, ?_⟩
  unfold WW.lnsT
  rw [e1, List.map_map]
  refine (List.map_congr_left fun ws hws => ?_).trans (List.map_id _)
  exact TL.split_join (s := 32) (S := []) (by decide) (by decide +kernel) (List.ne_nil_of_length_pos (ww ws hws).1) fun p hp => ((ww ws hws).2.2 p hp).1.1
theorem Fn.tin {m : DMd} (g : Fn m) : TxtIn (modText m) := by
  have ww := g.words
  obtain ⟨e1, _⟩ := g.lnsT
  have ll : ∀ ws ∈ kW m, (Txt.join " " ws).length ≤ 1300 := fun ws hws => by
    obtain ⟨h1, h2, h3⟩ := ww ws hws
    have := join_len " " ws
    have q := sumL_le (k := 11) (ws := ws) fun w hw => (h3 w hw).2
    have e : (" " : Str).length = 1 := by decide
    rw [e] at this
    omega
  refine ⟨?_, ?_, fun l hl => ?_⟩
  · unfold modText
    rw [lines_kW]
    have := join_len "\n" ((kW m).map (Txt.join " "))
    have q := sumL_le (k := 1300) (ws := (kW m).map (Txt.join " ")) fun w hw => by
      obtain ⟨ws, hws, rfl⟩ := List.mem_map.mp hw
      exact ll ws hws
    have e : ("\n" : Str).length = 1 := by decide
    have kl := g.kl
    rw [List.length_map] at this q
    rw [e] at this
    omega
  · rw [e1, List.length_map]
    have := g.kl
    omega
  · rw [e1] at hl
    obtain ⟨ws, hws, rfl⟩ := List.mem_map.mp hl
    obtain ⟨h1, h2, h3⟩ := ww ws hws
    have sp : Txt.split (Txt.join " " ws) " " = ws := TL.split_join (s := 32) (S := []) (by decide) (by decide +kernel) (List.ne_nil_of_length_pos h1) fun p hp => (h3 p hp).1.1
    refine ⟨Nat.le_trans (ll ws hws) (by decide), ?_⟩
    rw [sp]
    exact ⟨h1, by omega, fun w hw => Nat.le_trans (h3 w hw).2 (by decide)⟩
theorem go_line {ws : List Str} {r : List (List Str)} {a : Nat} {y : Str} {m0 : DMd} {X : Option (List DMd)} (ln : lineB ws = true) (nm : wAt ws 0 ≠ "module") (fo : followB (wAt ws 0) (some y) = true) (k : toldGo true r (a + 1) (some (wAt ws 0)) [addL m0 ws] = X) : toldGo true (ws :: r) a (some y) [m0] = X := by
  rw [toldGo, if_neg, show stepT [m0] ws = [addL m0 ws] from ?_]
  · exact k
  · unfold stepT
    rw [if_neg nm]
    exact modLast_snoc (ms := [])
  · unfold badT
    rw [ln, fo, decide_eq_false nm]
    simp
theorem go_sec {w : Str} {ns : List Str} {r : List (List Str)} {a : Nat} {y : Str} {m0 m1 : DMd} {X : Option (List DMd)} (hw : w ∈ (["in", "out", "at"] : List Str)) (hn : ∀ z ∈ ns, nameB z = true) (hy : ORD.idxOf y < ORD.idxOf w) (e : ns ≠ [] → addL m0 (w :: ns) = m1) (e0 : ns = [] → m0 = m1)
    (k : ∀ a' y', ORD.idxOf y' ≤ ORD.idxOf w → toldGo true r a' (some y') [m1] = X) : toldGo true ((if 0 < ns.length then [w :: ns] else []) ++ r) a (some y) [m0] = X := by
  cases ns with
  | nil =>
    rw [if_neg (by simp), e0 rfl]
    exact k a y (by omega)
  | cons z t =>
    rw [if_pos (by simp)]
    have w0 : wAt (w :: z :: t) 0 = w := rfl
    have nw : w ≠ "module" ∧ w ≠ "link" ∧ w ≠ "use" ∧ w ∈ ORD := by
      simp only [List.mem_cons, List.mem_nil_iff, or_false] at hw
      rcases hw with rfl | rfl | rfl <;> decide
    have ln : lineB (w :: z :: t) = true := by
      unfold lineB
      rw [w0, if_neg nw.2.1, if_neg, if_neg nw.1, decide_eq_false nw.2.2.1]
      · rfl
      · rw [decide_eq_true nw.2.2.2, show (w :: z :: t).drop 1 = z :: t from rfl, List.all_eq_true.mpr hn, decide_eq_false (by simp)]
        simp
    refine go_line ln (by rw [w0]; exact nw.1) ?_ ?_
    · rw [w0]
      unfold followB
      rw [if_neg nw.1]
      show (decide (ORD.idxOf y < ORD.idxOf w) || _) = true
      rw [decide_eq_true hy]
      rfl
    · rw [w0, e (by simp)]
      exact k _ w (Nat.le_refl _)
theorem go_use {r : List (List Str)} {X : Option (List DMd)} : ∀ {cs : List (Str × Str)} {a : Nat} {y : Str} {m0 : DMd}, (∀ t ∈ cs, nameB t.1 = true ∧ nameB t.2 = true) → ORD.idxOf y ≤ 4 → (∀ a' y', ORD.idxOf y' ≤ 4 → toldGo true r a' (some y') [{ m0 with c := m0.c ++ cs }] = X) → toldGo true (cs.map (fun t => (["use", t.1, t.2] : List Str)) ++ r) a (some y) [m0] = X
  | [], a, y, m0, _, hy, k => by
    have := k a y hy
    rw [List.append_nil] at this
    exact this
  | t :: cs, a, y, m0, hn, hy, k => by
    have w0 : wAt (["use", t.1, t.2] : List Str) 0 = "use" := rfl
    have ln : lineB (["use", t.1, t.2] : List Str) = true := by
      unfold lineB
      rw [w0, if_neg (by decide), if_neg, if_neg (by decide)]
      · rfl
      · rw [show (["use", t.1, t.2] : List Str).drop 1 = [t.1, t.2] from rfl, show ([t.1, t.2] : List Str).all nameB = true by simp [(hn t List.mem_cons_self).1, (hn t List.mem_cons_self).2], decide_eq_false (by simp)]
        decide
    refine go_line ln (by rw [w0]; decide) ?_ ?_
    · rw [w0]
      unfold followB
      rw [if_neg (by decide)]
      have e4 : ORD.idxOf ("use" : Str) = 4 := by decide
      rw [e4]
      show (decide (ORD.idxOf y < 4) || (decide (4 = ORD.idxOf y) && decide (("use" : Str) ∈ (["use", "link"] : List Str)))) = true
      by_cases c : ORD.idxOf y < 4
      · rw [decide_eq_true c]; rfl
      · rw [decide_eq_true (show 4 = ORD.idxOf y by omega)]
        simp
    · rw [w0]
      have ea : addL m0 (["use", t.1, t.2] : List Str) = { m0 with c := m0.c ++ [(t.1, t.2)] } := rfl
      rw [ea]
      refine go_use (m0 := { m0 with c := m0.c ++ [(t.1, t.2)] }) (fun u hu => hn u (List.mem_cons_of_mem _ hu)) (by decide) fun a' y' h => ?_
      have := k a' y' h
      rw [show m0.c ++ t :: cs = m0.c ++ [(t.1, t.2)] ++ cs by rw [List.append_assoc]; rfl] at this
      exact this
theorem go_link {X : Option (List DMd)} : ∀ {ls : List Lk} {a : Nat} {y : Str} {m0 : DMd}, (∀ t ∈ ls, endB t.a = true ∧ endB t.b = true ∧ numIn (numS t.c) 3 = some t.c ∧ numIn (numS t.d) 3 = some t.d) → ORD.idxOf y ≤ 5 → some [{ m0 with l := m0.l ++ ls }] = X → toldGo true (ls.map fun t => (["link", t.a, t.b, numS t.c, numS t.d] : List Str)) a (some y) [m0] = X
  | [], a, y, m0, _, _, k => by
    rw [List.append_nil] at k
    exact k
  | t :: ls, a, y, m0, hn, hy, k => by
    obtain ⟨h1, h2, h3, h4⟩ := hn t List.mem_cons_self
    have w0 : wAt (["link", t.a, t.b, numS t.c, numS t.d] : List Str) 0 = "link" := rfl
    have li : linkIn ((["link", t.a, t.b, numS t.c, numS t.d] : List Str).drop 1) = some t := by
      have e : (["link", t.a, t.b, numS t.c, numS t.d] : List Str).drop 1 = [t.a, t.b, numS t.c, numS t.d] := rfl
      unfold linkIn
      rw [e, if_neg]
      · show (match numIn (numS t.c) 3, numIn (numS t.d) 3 with
          | some a, some b => some (T4.mk t.a t.b a b)
          | _, _ => none) = some t
        rw [h3, h4]
      · show ¬ (!decide (4 = 4) || (!endB t.a || !endB t.b)) = true
        rw [h1, h2]
        simp
    have ln : lineB (["link", t.a, t.b, numS t.c, numS t.d] : List Str) = true := by
      unfold lineB
      rw [w0, if_pos rfl, li]
      rfl
    refine go_line ln (by rw [w0]; decide) ?_ ?_
    · rw [w0]
      unfold followB
      rw [if_neg (by decide)]
      have e4 : ORD.idxOf ("link" : Str) = 5 := by decide
      rw [e4]
      show (decide (ORD.idxOf y < 5) || (decide (5 = ORD.idxOf y) && decide (("link" : Str) ∈ (["use", "link"] : List Str)))) = true
      by_cases c : ORD.idxOf y < 5
      · rw [decide_eq_true c]; rfl
      · rw [decide_eq_true (show 5 = ORD.idxOf y by omega)]
        simp
    · rw [w0]
      have ea : addL m0 (["link", t.a, t.b, numS t.c, numS t.d] : List Str) = { m0 with l := m0.l ++ [t] } := by
        unfold addL
        rw [w0, if_neg (by decide), if_pos rfl, li]
        rfl
      rw [ea]
      refine go_link (m0 := { m0 with l := m0.l ++ [t] }) (fun u hu => hn u (List.mem_cons_of_mem _ hu)) (by decide) ?_
      rw [← k, show m0.l ++ t :: ls = m0.l ++ [t] ++ ls by rw [List.append_assoc]; rfl]
theorem Fn.read {m : DMd} (g : Fn m) : readT true (modText m) = some [m] := by
  obtain ⟨n1, n2, n3, n4⟩ := g.nms
  unfold readT
  rw [g.lnsT.2]
  unfold kW
  have w0 : wAt (["module", m.n] : List Str) 0 = "module" := rfl
  have ln : lineB (["module", m.n] : List Str) = true := by
    unfold lineB
    rw [w0, if_neg (by decide), if_neg, if_pos rfl]
    · rfl
    · rw [show (["module", m.n] : List Str).drop 1 = [m.n] from rfl, show ([m.n] : List Str).all nameB = true by simp [g.n], decide_eq_false (by simp)]
      decide
  show toldGo true ((["module", m.n] : List Str) :: _) 0 none [] = _
  rw [toldGo, if_neg, show stepT [] (["module", m.n] : List Str) = [noTold m.n] from rfl, w0]
  · refine go_sec (m1 := ⟨m.n, m.i, [], [], [], []⟩) (by decide) n1 (by decide) (fun _ => rfl) (fun e => by unfold noTold; rw [e]) fun a1 y1 h1 => ?_
    refine go_sec (m1 := ⟨m.n, m.i, m.o, [], [], []⟩) (by decide) n2 (Nat.lt_of_le_of_lt h1 (by decide)) (fun _ => rfl) (fun e => by rw [e]) fun a2 y2 h2 => ?_
    refine go_sec (m1 := ⟨m.n, m.i, m.o, m.s, [], []⟩) (by decide) n3 (Nat.lt_of_le_of_lt h2 (by decide)) (fun _ => rfl) (fun e => by rw [e]) fun a3 y3 h3 => ?_
    refine go_use (fun t ht => ⟨n4 t.1 (List.mem_map.mpr ⟨t, ht, rfl⟩), g.cn t ht⟩) (Nat.le_trans h3 (by decide)) fun a4 y4 h4 => ?_
    refine go_link (fun t ht => ⟨there_end (g.la t ht), there_end (g.lb t ht), (num_ok (g.lc t ht).1 (g.lc t ht).2.1).1, (num_ok (g.lc t ht).2.2.1 (g.lc t ht).2.2.2.1).1⟩) (by omega) ?_
    rw [List.nil_append, List.nil_append]
  · unfold badT
    rw [ln, w0]
    decide
theorem Fn.txt {m : DMd} (g : Fn m) : TxtM m := by
  obtain ⟨n1, n2, n3, n4⟩ := g.nms
  obtain ⟨s1, s2, s3, s4⟩ := g.sz
  have nl : ∀ {z : Str}, nameB z = true → z.length ≤ 100 := fun h => Nat.le_trans (nameB_len h) (by decide)
  refine ⟨nl g.n, fun z hz => ?_, s1, s2, s3, s4, fun t ht => ⟨nl (n4 t.1 (List.mem_map.mpr ⟨t, ht, rfl⟩)), nl (g.cn t ht)⟩, g.ll, fun t ht => ?_⟩
  · rcases List.mem_append.mp hz with hz | hz
    · rcases List.mem_append.mp hz with hz | hz
      · exact nl (n1 z hz)
      · exact nl (n2 z hz)
    · exact nl (n3 z hz)
  · obtain ⟨c0, c1, d0, d1, al, bl⟩ := g.lc t ht
    exact ⟨by omega, by omega, by omega, by omega⟩
theorem text_inj {m m' : DMd} (g : Fn m) (g' : Fn m') : modText m = modText m' ↔ m = m' := by
  refine ⟨fun h => ?_, fun h => by rw [h]⟩
  have h1 := g.read
  rw [h, g'.read] at h1
  cases h1
  rfl
end WW
set_option Elab.async false
set_option linter.all false
set_option maxRecDepth 100000
set_option maxHeartbeats 4000000
namespace WW
open PySem PySem.Spec PyProof.Rows L2
def rStrE : List V → Hp → VK → Prop := fun xs H Q => (∃ i, xs = [.int i] ∧ i.natAbs.log2 < 1920 ∧ Q (.str (toString i)) H) ∨ ∃ a, xs = [.str a] ∧ Q (.str a) H
theorem call_strE {X : Cx} : CallR X (.type "str") rStrE := fun pins s σ H xs us Q I r h => by
  rcases h with h | h
  · exact call_str_int pins s σ H xs us Q I r h
  · exact SkE.call_str_str pins s σ H xs us Q I r h
def strOf : AV → Str
  | .str z => z
  | .int i => numS i
  | _ => Str.empty
section
variable {K : PySem.W.Frag} {B : Addr → Prop} {ρ : List Slot} {te : TE}
theorem d_strE1 {z : Str} (h : DE K B te ρ (AV.str z)) : DE K B (tCB rStrE (tCons te tNil)) ρ z := fun S0 H0 S H σ E Q q =>
  h S0 H0 S H σ E _ fun v S1 H1 e1 r1 => by
    have r1 : AV.rep K S1 v (.str z) := r1
    rw [AV.rep] at r1
    exact .inr ⟨z, by rw [r1], q _ S1 H1 e1 rfl⟩
theorem d_strE2 {i : Int} (h : DE K B te ρ (AV.int i)) (hz : i.natAbs.log2 < 1920) : DE K B (tCB rStrE (tCons te tNil)) ρ (numS i) := fun S0 H0 S H σ E Q q =>
  h S0 H0 S H σ E _ fun v S1 H1 e1 r1 => by
    have r1 : AV.rep K S1 v (.int i) := r1
    rw [AV.rep] at r1
    exact .inl ⟨i, by rw [r1], hz, q _ S1 H1 e1 rfl⟩
end
theorem use_add (t : Str × Str) : (("use " : Str) ++ t.1) ++ " " ++ t.2 = useLine t := by
  unfold useLine fmtJ
  simp only [List.foldl_cons, List.foldl_nil, empty_app]
theorem mod_add (n : Str) : ("module " : Str) ++ n = fmtJ ["module ", n] := by
  unfold fmtJ
  simp only [List.foldl_cons, List.foldl_nil, empty_app]
theorem sec_at {m : DMd} : ∀ (j : Nat) (x : Str × Str), ([("in", "inlets"), ("out", "outlets"), ("at", "stations")] : List (Str × Str))[j]? = some x → ∃ ns : List Str, m.dc.get x.2 = some (strsA ns) ∧ (nmSecs m)[j]? = some (x.1, ns) ∧ (ns = m.i ∨ ns = m.o ∨ ns = m.s) := fun j x h => by
  match j, h with
  | 0, h => cases h; exact ⟨m.i, rfl, rfl, .inl rfl⟩
  | 1, h => cases h; exact ⟨m.o, rfl, rfl, .inr (.inl rfl)⟩
  | 2, h => cases h; exact ⟨m.s, rfl, rfl, .inr (.inr rfl)⟩
section
variable {P : Program} {w : World} {K : PySem.W.Frag} {mg : Str → Option Value} {base : Heap} {f : Addr} {fd : FuncData}
abbrev N_l_text : List Str := ["_law_module_here", "_law_found", "_law_word", "_law_key", "_law_label", "_law_name", "_law_link", "_law_part"]
theorem sc_l_text : FnScope N_l_text ["_law_module_here"] (defScope s_l_text) := ⟨rfl, rfl, rfl, by decide +kernel, rfl, by decide +kernel, by decide +kernel⟩
theorem ok_ltext (F : FnP K "_law_text" s_l_text f fd) (m_str : mg "str" = none) : FnOk P w K mg base CX0 1 f fd ["_law_module_here"] (spT K (dp1 (fun m : DMd => TxtM m) modText)) := by
  refine okT F sc_l_text (fun ss R h => ?_) (fun cdv A outer s H E hr => ⟨_, (pss_cons (ps_set (i := 1) sc_l_text.nd rfl (.inl rfl) (pe_lst (pa_cons (pe_op op_add_str (pe_str) (pe_dget (hu_of hr) (pv 0) (pe_str) (fun _ _ => rfl))) (pa_nil))))
 (pss_cons (ps_for PassesOwn.never rfl (pi_seqK K (pe_tup (pa_cons (pe_tup (pa_cons (pe_str) (pa_cons (pe_str) (pa_nil)))) (pa_cons (pe_tup (pa_cons (pe_str) (pa_cons (pe_str) (pa_nil)))) (pa_cons (pe_tup (pa_cons (pe_str) (pa_cons (pe_str) (pa_nil)))) (pa_nil)))))) (pg_tupK (n := 2) K rfl (pgs_cons (pg_name (i := 2) sc_l_text.nd rfl (.inl rfl)) (pgs_cons (pg_name (i := 3) sc_l_text.nd rfl (.inl rfl)) (pgs_nil)))) (pss_one (ps_set (i := 1) sc_l_text.nd rfl (.inl rfl) (pe_op op_cat (pv 1) (pe_ifExp (pt_cmpR (op_neE K hr) (pe_dget (hu_of hr) (pv 0) (pv 3) (fun _ _ => rfl)) (pe_lst (pa_nil)) (nomark _)) (pe_lst (pa_cons (pe_joinK K (pe_str) (pe_op op_cat (pe_lst (pa_cons (pv 2) (pa_nil))) (pe_dget (hu_of hr) (pv 0) (pv 3) (fun _ _ => rfl)))) (pa_nil))) (pe_lst (pa_nil)))))))
 (pss_cons (ps_set (i := 1) sc_l_text.nd rfl (.inl rfl) (pe_op op_cat (pv 1) (pe_lc (own := [("_law_label", 4), ("_law_name", 5)]) rfl sc_l_text.nd (pi_seqK K (pe_dget (hu_of hr) (pv 0) (pe_str) (fun _ _ => rfl))) (blkOk_by (N := N_l_text) (sc := defScope s_l_text) (by decide +kernel)) (fun _ _ _ _ _ => pg_tupK (n := 2) K rfl (pgs_cons (pg_name (i := 4) sc_l_text.nd rfl (.inl rfl)) (pgs_cons (pg_name (i := 5) sc_l_text.nd rfl (.inl rfl)) (pgs_nil)))) (fun _ _ _ _ _ => pts_nil) (fun _ _ _ _ _ => pe_op op_add_str (pe_op op_add_str (pe_op op_add_str (pe_str) (pv 4)) (pe_str)) (pv 5)))))
 (pss_one (ps_ret (pe_joinK K (pe_str) (pe_op op_cat (pv 1) (pe_lc (own := [("_law_link", 6)]) rfl sc_l_text.nd (pi_seqK K (pe_dget (hu_of hr) (pv 0) (pe_str) (fun _ _ => rfl))) (blkOk_by (N := N_l_text) (sc := defScope s_l_text) (by decide +kernel)) (fun _ _ _ _ _ => pg_name (i := 6) sc_l_text.nd rfl (.inl rfl)) (fun _ _ _ _ _ => pts_nil) (fun _ _ _ _ _ => pe_joinK K (pe_str) (pe_op op_cat (pe_lst (pa_cons (pe_str) (pa_nil))) (pe_lc (own := [("_law_part", 7)]) rfl sc_l_text.nd (pi_seqK K (pv 6)) (blkOk_by (N := N_l_text) (by rfl)) (fun _ _ _ _ _ => pg_name (i := 7) sc_l_text.nd rfl (.inl rfl)) (fun _ _ _ _ _ => pts_nil) (fun _ _ _ _ _ => pe_callTy call_strE rfl m_str (by decide +kernel) (pa_cons (pv 7) (pa_nil)))))))))))))), fun B ss R h => ?_⟩)
  · obtain ⟨m, rfl, _⟩ := h
    rfl
  · obtain ⟨m, rfl, h, q⟩ := h
    have h : TxtM m := h
    have b18 : ∀ {n : Nat}, n ≤ 100000 → n ≤ BIG := fun h => Nat.le_trans h (by decide)
    have hn := h.n
    have cl := h.cl
    have ll := h.ll
    have one : ∀ (w : Str) (ns : List Str), (nmLine w ns).length ≤ 1 := fun w ns => by unfold nmLine; split <;> simp
    have e0 : ("module " : Str).length = 7 := by decide
    have dv : ∀ {ρ : List Slot}, ρ[0]? = some (.val m) → DE K B (tVar 0) ρ m.dc := fun h => d_dc (d_var h)
    show DS K B _ [.val m, .no, .no, .no, .no, .no, .no, .no] _
    refine dq_asgI (δ := L Str) ([fmtJ ["module ", m.n]] : List Str) (DO.l (do_lst (dl_cons (DE.is (d_addS d_str (d_va (α := Str) (d_getD (d := m.dc) (a := AV.str m.n) (dv rfl) d_str rfl)) (b18 (by rw [e0]; omega))) (mod_add m.n)) dl_nil) (by show 1 ≤ BIG; decide))) ?_
    show DS K B _ [.val m, .val (show L Str from [fmtJ ["module ", m.n]]), .no, .no, .no, .no, .no, .no] _
    have fl : ∀ j, j ≤ 3 → (((nmSecs m).take j).flatMap fun q => nmLine q.1 q.2).length ≤ 3 := fun j hj => by
      have a1 := one "in" m.i
      have a2 := one "out" m.o
      have a3 := one "at" m.s
      match j, hj with
      | 0, _ => exact Nat.zero_le _
      | 1, _ =>
        show (nmLine "in" m.i ++ []).length ≤ 3
        rw [List.append_nil]
        omega
      | 2, _ =>
        show (nmLine "in" m.i ++ (nmLine "out" m.o ++ [])).length ≤ 3
        rw [List.append_nil, List.length_append]
        omega
      | 3, _ =>
        show (nmLine "in" m.i ++ (nmLine "out" m.o ++ (nmLine "at" m.s ++ []))).length ≤ 3
        rw [List.append_nil, List.length_append, List.length_append]
        omega
    refine dq_for (α := Str × Str) (xs := [("in", "inlets"), ("out", "outlets"), ("at", "stations")]) (di_seq (d_Uq (d_tupU (dl_cons (d_pair d_str d_str) (dl_cons (d_pair d_str d_str) (dl_cons (d_pair d_str d_str) dl_nil))) (show 3 ≤ BIG by decide)))) (fun j r => ∃ s2 s3 : Slot, r = [.val m, .val (show L Str from [fmtJ ["module ", m.n]] ++ ((nmSecs m).take j).flatMap fun q => nmLine q.1 q.2), s2, s3, .no, .no, .no, .no]) ⟨.no, .no, rfl⟩ (fun j x r hx hI => ?_) fun r hI => ?_
    · obtain ⟨s2, s3, rfl⟩ := hI
      obtain ⟨ns, g1, g2, g3⟩ := sec_at (m := m) j x hx
      obtain ⟨z, key⟩ := x
      have jl : j < 3 := (List.getElem?_eq_some_iff.mp hx).1
      have zl : z.length ≤ 10 := by
        match j, hx with
        | 0, hx => cases hx; decide
        | 1, hx => cases hx; decide
        | 2, hx => cases hx; decide
      have nl : ns.length ≤ 100 ∧ ∀ y ∈ ns, y.length ≤ 100 := by
        rcases g3 with rfl | rfl | rfl
        · exact ⟨h.il, fun y hy => h.nl y (List.mem_append_left _ (List.mem_append_left _ hy))⟩
        · exact ⟨h.ol, fun y hy => h.nl y (List.mem_append_left _ (List.mem_append_right _ hy))⟩
        · exact ⟨h.sl, fun y hy => h.nl y (List.mem_append_right _ hy)⟩
      have et : (nmSecs m).take (j + 1) = (nmSecs m).take j ++ [(z, (show U Str from ns))] := by rw [List.take_add_one, g2]; rfl
      refine ⟨_, _, DG.pair (e_α := inferInstance) (e_β := inferInstance) dg_name dg_name, ?_⟩
      show DS K B _ [.val m, .val (show L Str from [fmtJ ["module ", m.n]] ++ ((nmSecs m).take j).flatMap fun q => nmLine q.1 q.2), .val z, .val key, .no, .no, .no, .no] _
      have dn : ∀ {ρ : List Slot}, ρ[0]? = some (.val m) → ρ[3]? = some (.val key) → DE K B (tDGet (tVar 0) (tVar 3)) ρ (show L Str from ns) := fun a b => d_va (α := L Str) (d_getD (d := m.dc) (a := strsA ns) (dv a) (d_var b) g1)
      have el : DE K B (tIf (tTest (tOp (rEmp K true) (tDGet (tVar 0) (tVar 3)) (tLst tNil))) (tLst (tCons (tM1 (rJoin K) (tC (.str " ")) (tOp rCat (tLst (tCons (tVar 2) tNil)) (tDGet (tVar 0) (tVar 3)))) tNil)) (tLst tNil)) [.val m, .val (show L Str from [fmtJ ["module ", m.n]] ++ ((nmSecs m).take j).flatMap fun q => nmLine q.1 q.2), .val z, .val key, .no, .no, .no, .no] (show L Str from nmLine z ns) := by
        refine d_ifE (c := !ns.isEmpty) (dt_test (d_neE (dn rfl rfl))) (fun c => ?_) (fun c => ?_)
        · have n0 : 0 < ns.length := by cases ns with | nil => cases c | cons _ _ => simp
          refine DE.is (DO.l (do_lst (dl_cons (d_join (ws := z :: ns) d_str (d_Lq (DO.l (do_cat (xs := [z]) (ys := ns) (DO.l (do_lst (dl_cons (d_var rfl) dl_nil) (by show 1 ≤ BIG; decide))) (dn rfl rfl) (b18 (by show 1 + ns.length ≤ _; omega))))) (Nat.le_trans (nmLine_len zl nl.1 nl.2).1 (by decide))) dl_nil) (by show 1 ≤ BIG; decide))) ?_
          unfold nmLine
          rw [if_pos n0]
        · have n0 : ns = [] := by cases ns with | nil => rfl | cons _ _ => cases c
          refine DE.is (DO.l (do_nil Str)) ?_
          unfold nmLine
          rw [n0]
          rfl
      refine ds_asg (α := L Str) (DO.l (do_cat (xs := [fmtJ ["module ", m.n]] ++ ((nmSecs m).take j).flatMap fun q => nmLine q.1 q.2) (ys := nmLine z ns) (d_var rfl) el ?_)) ⟨.val z, .val key, ?_⟩
      · have := one z ns
        have := fl j (by omega)
        refine b18 ?_
        rw [List.length_append]
        show 1 + _ + _ ≤ _
        omega
      · rw [et, List.flatMap_append, List.flatMap_cons, List.flatMap_nil, List.append_nil, ← List.append_assoc]
        rfl
    · obtain ⟨s2, s3, rfl⟩ := hI
      have x3 := fl 3 (Nat.le_refl _)
      rw [show ((nmSecs m).take 3).flatMap (fun q => nmLine q.1 q.2) = (nmSecs m).flatMap (fun q => nmLine q.1 q.2) from rfl] at x3
      show DS K B _ [.val m, .val (show L Str from [fmtJ ["module ", m.n]] ++ (nmSecs m).flatMap fun q => nmLine q.1 q.2), s2, s3, .no, .no, .no, .no] _
      generalize hX : (([fmtJ ["module ", m.n]] : List Str) ++ (nmSecs m).flatMap fun q => nmLine q.1 q.2) = X
      have xl : X.length ≤ 4 := by
        rw [← hX, List.length_append]
        show 1 + _ ≤ 4
        omega
      refine ds_seq (ds_asg (α := L Str) (DO.l (do_cat (xs := X) (ys := m.c.map useLine) (d_var rfl) (DO.l (do_map (fun t : Str × Str => useLine t) (di_seq (d_Lq (d_va (α := L (Str × Str)) (d_getD (d := m.dc) (a := callsA m.c) (dv rfl) d_str rfl)))) (b18 (by show m.c.length ≤ _; omega)) fun t ht => ⟨_, _, DG.pair dg_name dg_name, by simp, DE.is (d_addS (d_addS (d_addS d_str (d_var (n := 4) (a := t.1) rfl) ?_) d_str ?_) (d_var (n := 5) (a := t.2) rfl) ?_) (use_add t)⟩)) (b18 (by rw [List.length_map]; omega)))) ?_)
      · have := (h.cn t ht).1
        have e : ("use " : Str).length = 4 := by decide
        rw [e]
        exact b18 (by omega)
      · have := (h.cn t ht).1
        have e : ("use " : Str).length = 4 := by decide
        have e2 : (" " : Str).length = 1 := by decide
        rw [str_app_len, e, e2]
        exact b18 (by omega)
      · have := (h.cn t ht).1
        have := (h.cn t ht).2
        have e : ("use " : Str).length = 4 := by decide
        have e2 : (" " : Str).length = 1 := by decide
        rw [str_app_len, str_app_len, e, e2]
        exact b18 (by omega)
      show DS K B _ [.val m, .val (show L Str from X ++ m.c.map useLine), s2, s3, .no, .no, .no, .no] _
      refine ds_ret (α := Str) (a := modText m) (DE.is (d_join (ws := X ++ m.c.map useLine ++ m.l.map lnkLine) d_str (d_Lq (DO.l (do_cat (xs := X ++ m.c.map useLine) (ys := m.l.map lnkLine) (d_var rfl) (DO.l (do_map (fun t : Lk => lnkLine t) (di_seq (d_Lq (d_va (α := L Lk) (d_getD (d := m.dc) (a := linksA m.l) (dv rfl) d_str rfl)))) (b18 (by show m.l.length ≤ _; omega)) fun t ht => ⟨_, _, dg_name, by simp, DE.is (d_join (ws := (["link", t.a, t.b, numS t.c, numS t.d] : List Str)) d_str (d_Lq (DO.l (do_cat (xs := (["link"] : List Str)) (ys := ([t.a, t.b, numS t.c, numS t.d] : List Str)) (DO.l (do_lst (dl_cons d_str dl_nil) (by show 1 ≤ BIG; decide))) (DO.l (do_map strOf (di_seq (xs := [AV.str t.a, .str t.b, .int t.c, .int t.d]) (d_asSeq (d_av (α := Lk) (d_var (n := 6) (a := t) rfl)) rfl)) (by show 4 ≤ BIG; decide) fun x hx => ⟨_, _, dg_name, by simp, ?_⟩)) (by show 1 + 4 ≤ BIG; decide)))) ?_) (line_link t).symm⟩)) (b18 ?_)))) ?_) ?_) q
      · have h1 : t.c.natAbs < 10 ^ 9 := (h.ln t ht).2.2.1
        have h2 : t.d.natAbs < 10 ^ 9 := (h.ln t ht).2.2.2
        have lg : ∀ {i : Int}, i.natAbs < 10 ^ 9 → i.natAbs.log2 < 1920 := fun {i} hi => by
          by_cases c : i.natAbs = 0
          · rw [c]; decide
          · exact (Nat.log2_lt c).mpr (Nat.lt_of_lt_of_le hi (by exact Nat.le_trans (show 10 ^ 9 ≤ 2 ^ 30 by decide) (Nat.pow_le_pow_right (by decide) (by decide))))
        simp only [List.mem_cons, List.mem_nil_iff, or_false] at hx
        rcases hx with rfl | rfl | rfl | rfl
        · exact d_strE1 (d_var rfl)
        · exact d_strE1 (d_var rfl)
        · exact d_strE2 (d_var rfl) (lg h1)
        · exact d_strE2 (d_var rfl) (lg h2)
      · have l1 := (h.ln t ht).1
        have l2 := (h.ln t ht).2.1
        have n1 := num_len (h.ln t ht).2.2.1
        have n2 := num_len (h.ln t ht).2.2.2
        have e : ("link" : Str).length = 4 := by decide
        have e2 : (" " : Str).length = 1 := by decide
        simp only [List.map_cons, List.map_nil, List.sum_cons, List.sum_nil, List.length_cons, List.length_nil, e, e2]
        show 4 + (t.a.length + (t.b.length + ((Str.ofString (toString t.c)).length + ((Str.ofString (toString t.d)).length + 0)))) + _ ≤ 16777216
        omega
      · rw [List.length_append, List.length_map, List.length_map]
        omega
      · have := h.sum
        unfold modLines at this
        rw [← hX]
        exact Nat.le_trans this (by decide)
      · rw [← hX]
        rfl
end
end WW
set_option Elab.async false
set_option linter.all false
set_option maxRecDepth 100000
set_option maxHeartbeats 4000000
namespace WW
open PySem PySem.Spec PyProof.Rows L2
section
variable {α : Type} [Enc α] {K : PySem.W.Frag} {S H S' H' : Hp}
def RgV (K : PySem.W.Frag) (S H : Hp) : List Addr → List (List α) → Prop
  | [], [] => True
  | p :: ps, ys :: yss => (∃ vs, H p = some (.lst vs) ∧ Paired (Enc.rep K S) vs ys ∧ ys.length ≤ 1000) ∧ RgV K S H ps yss
  | _, _ => False
theorem RgV.to : ∀ {ps : List Addr} {xs : List (List α)}, RgV K S H ps xs → Same S S' → (∀ p ∈ ps, H' p = H p) → RgV K S' H' ps xs
  | [], [], _, _, _ => trivial
  | p :: ps, x :: xs, ⟨⟨vs, h1, h2, h3⟩, r⟩, s, e => ⟨⟨vs, by rw [e p List.mem_cons_self]; exact h1, Paired.mono (fun _ _ => Enc.mono s) h2, h3⟩, r.to s fun q hq => e q (List.mem_cons_of_mem _ hq)⟩
  | [], _ :: _, h, _, _ => h.elim
  | _ :: _, [], h, _, _ => h.elim
theorem RgV.lst : ∀ {ps : List Addr} {xs : List (List α)}, RgV K S H ps xs → ∀ p ∈ ps, ∃ vs, H p = some (.lst vs) ∧ vs.length ≤ 1000
  | [], [], _, p, h => nomatch h
  | q :: ps, x :: xs, ⟨⟨vs, h1, h2, h3⟩, r⟩, p, h => by
    rcases List.mem_cons.mp h with rfl | h
    · exact ⟨_, h1, by rw [h2.length]; exact h3⟩
    · exact r.lst p h
  | [], _ :: _, h, _, _ => h.elim
  | _ :: _, [], h, _, _ => h.elim
theorem RgV.frz : ∀ {ps : List Addr} {xs : List (List α)}, RgV K S H ps xs → Same S S' → (∀ p ∈ ps, S' p = H p) → Paired (fun v (ys : List α) => Enc.rep K S' v (show L α from ys)) (ps.map V.ref) xs
  | [], [], _, _, _ => .nil
  | p :: ps, x :: xs, ⟨⟨vs, h1, h2, h3⟩, r⟩, s, e => .cons ⟨Nat.le_trans h3 (by decide), p, vs, rfl, by rw [e p List.mem_cons_self]; exact h1, Paired.mono (fun _ _ => Enc.mono s) h2⟩ (r.frz s fun q hq => e q (List.mem_cons_of_mem _ hq))
  | [], _ :: _, h, _, _ => h.elim
  | _ :: _, [], h, _, _ => h.elim
theorem RgV.len : ∀ {ps : List Addr} {xs : List (List α)}, RgV K S H ps xs → ps.length = xs.length
  | [], [], _ => rfl
  | p :: ps, x :: xs, ⟨_, r⟩ => by rw [List.length_cons, List.length_cons, r.len]
  | [], _ :: _, h => h.elim
  | _ :: _, [], h => h.elim
theorem RgV.snoc : ∀ {ps : List Addr} {xs : List (List α)} {p : Addr} {ys : List α}, RgV K S H ps xs → (∃ vs, H p = some (.lst vs) ∧ Paired (Enc.rep K S) vs ys ∧ ys.length ≤ 1000) → RgV K S H (ps ++ [p]) (xs ++ [ys])
  | [], [], p, ys, _, h => ⟨h, trivial⟩
  | q :: ps, x :: xs, p, ys, ⟨h1, r⟩, h => ⟨h1, r.snoc h⟩
  | [], _ :: _, _, _, h, _ => h.elim
  | _ :: _, [], _, _, h, _ => h.elim
end
structure LsO (α : Type) where
  xs : List (List α)
instance {α : Type} [Enc α] : Enc (LsO α) where
  rep K S v o := Enc.rep K S v (show L (L α) from o.xs)
  mono e h := Enc.mono (α := L (L α)) e h
instance {α : Type} [Enc α] : Reg (LsO α) where
  rep K S H x as o := ∃ ps, as = x :: ps ∧ (x :: ps).Nodup ∧ H x = some (.lst (ps.map V.ref)) ∧ RgV K S H ps o.xs ∧ o.xs.length ≤ 1000
  live h := by
    obtain ⟨ps, rfl, nd, hx, r, l⟩ := h
    intro a ha
    rcases List.mem_cons.mp ha with rfl | ha
    · exact ⟨_, hx⟩
    · obtain ⟨vs, h, _⟩ := r.lst a ha
      exact ⟨_, h⟩
  to h s e := by
    obtain ⟨ps, rfl, nd, hx, r, l⟩ := h
    exact ⟨ps, rfl, nd, by rw [e _ List.mem_cons_self]; exact hx, r.to s fun q hq => e q (.tail _ hq), l⟩
  frz h s e := by
    obtain ⟨ps, rfl, nd, hx, r, l⟩ := h
    exact ⟨Nat.le_trans l (by decide), _, _, rfl, by rw [e _ List.mem_cons_self]; exact hx, r.frz s fun q hq => e q (.tail _ hq)⟩
theorem LsO.lst {α : Type} [Enc α] {K : PySem.W.Frag} {S H : Hp} {x : Addr} {as : List Addr} {w : LsO α} (h : Reg.rep K S H x as w) : ∀ a ∈ as, ∃ xs, H a = some (.lst xs) := by
  obtain ⟨ps, rfl, nd, hx, r, l⟩ := h
  intro a ha
  rcases List.mem_cons.mp ha with rfl | ha
  · exact ⟨_, hx⟩
  · obtain ⟨vs, h, _⟩ := r.lst a ha
    exact ⟨_, h⟩
section
variable {α : Type} [Enc α] {K : PySem.W.Frag} {B : Addr → Prop} {S0 H0 S H : Hp} {x : Addr} {σ : L2.St} {ρ : List Slot} {t : Nat}
theorem LsO.frz {w : LsO α} (h : RgG K H0 S H x w σ ρ) (E : En K B S0 H0 S H σ ρ) (ht : ρ[t]? = some .no) (hσ : σ[t]? = some (some (.ref x))) :
    ∃ S1, Same S S1 ∧ En K B S0 H0 S1 H σ (ρ.set t (.val w)) ∧ (∀ S2 H2, Ext B S1 H S2 H2 → ∃ S3, Ext B S H S3 H2 ∧ RgG K H0 S3 H2 x w σ ρ ∧ ∀ p o, S2 p = some o → (∀ xs, o ≠ .lst xs) → S3 p = some o) := by
  obtain ⟨as, h1, h2, h3⟩ := h
  let S1 : Hp := fun a => if a ∈ as then H a else S a
  have hb : ∀ q, B q → H0 q ≠ none := fun q hq => (E.bx q hq).2.2
  have inR : ∀ a, a ∈ as → S1 a = H a := fun a ha => if_pos ha
  have outR : ∀ a, a ∉ as → S1 a = S a := fun a ha => if_neg ha
  have s1 : Same S S1 := fun a o e => by
    by_cases c : a ∈ as
    · rw [(h2 a c).1] at e
      cases e
    · rw [outR a c]
      exact e
  have i1 : Same S1 H := fun a o e => by
    by_cases c : a ∈ as
    · rw [inR a c] at e
      exact e
    · rw [outR a c] at e
      exact E.i _ _ e
  have old : ∀ a, H0 a ≠ none → S1 a = S a := fun a ha => outR a fun c => ha (h2 a c).2
  have rep : Enc.rep K S1 (.ref x) w := Reg.frz h1 s1 inR
  refine ⟨S1, s1, ⟨E.i0, fun p hp => ?_, ⟨E.ext.s.trans s1, i1, fun a q1 q2 => ?_⟩, by rw [List.length_set]; exact E.len, fun i s hs => ?_, fun i j s u n hi hj o1 o2 => ?_⟩, fun S2 H2 e => ?_⟩
  · obtain ⟨q1, q2, q3⟩ := E.bx p hp
    exact ⟨by rw [old p q3]; exact q1, q2, q3⟩
  · rw [old a q2]
    exact E.ext.p a q1 q2
  · rw [List.getElem?_set] at hs
    by_cases c : t = i
    · subst c
      rw [if_pos rfl] at hs
      split at hs
      · cases hs
        exact ⟨_, hσ, rep⟩
      · cases hs
    · rw [if_neg c] at hs
      obtain ⟨o, q1, q2⟩ := E.at' i s hs
      refine ⟨o, q1, ?_⟩
      have sm := List.mem_of_getElem? hs
      cases s with
      | no => cases o <;> trivial
      | box =>
        cases o with
        | none => cases q2
        | some v => exact q2
      | val a =>
        cases o with
        | none => cases q2
        | some v => exact Enc.mono s1 q2
      | obj P =>
        cases o with
        | none => cases q2
        | some v =>
          obtain ⟨p, u, r, g0, gs, gh, gp⟩ := q2
          subst r
          exact ⟨p, u, rfl, g0, by rw [outR p (h3 i _ p hs rfl q1)]; exact gs, gh, P.mono s1 gp⟩
      | out P =>
        cases o with
        | none => cases q2
        | some v =>
          obtain ⟨p, u, r, nb, g0, gs, gh, gp⟩ := q2
          exact ⟨p, u, r, nb, g0, by rw [old p g0]; exact gs, gh, P.mono s1 gp⟩
  · have old' : ∀ (k : Nat) (s : Slot), (ρ.set t (.val w))[k]? = some s → s.isOwn = true → ρ[k]? = some s := fun k s hs ho => by
      rw [List.getElem?_set] at hs
      by_cases c : t = k
      · rw [if_pos c] at hs
        split at hs
        · cases hs
          cases ho
        · cases hs
      · rw [if_neg c] at hs
        exact hs
    exact E.ne i j s u n (old' i s hi o1) (old' j u hj o2) o1 o2
  · let S3 : Hp := fun a => if a ∈ as then none else S2 a
    have in3 : ∀ a, a ∈ as → S3 a = none := fun a ha => if_pos ha
    have out3 : ∀ a, a ∉ as → S3 a = S2 a := fun a ha => if_neg ha
    have ext : Ext B S H S3 H2 := by
      refine ⟨fun a o q => ?_, fun a o q => ?_, fun a q1 q2 => ?_⟩
      · have c : a ∉ as := fun c => by
          rw [(h2 a c).1] at q
          cases q
        rw [out3 a c]
        exact e.s _ _ (s1 _ _ q)
      · have c : a ∉ as := fun c => by
          rw [in3 a c] at q
          cases q
        rw [out3 a c] at q
        exact e.i _ _ q
      · by_cases c : a ∈ as
        · refine ⟨in3 a c, .inl ?_⟩
          obtain ⟨o, ho⟩ := Reg.live h1 a c
          rw [ho]
          exact e.i _ _ (e.s _ _ (by rw [inR a c]; exact ho))
        · rw [out3 a c]
          exact e.p a (by rw [outR a c]; exact q1) q2
    refine ⟨S3, ext, RgG.ext ⟨as, h1, h2, h3⟩ ext hb, fun p o q nl => ?_⟩
    have c : p ∉ as := fun c => by
      obtain ⟨xs, hxs⟩ := LsO.lst h1 p c
      have := e.s _ _ (show S1 p = some (.lst xs) by rw [inR p c]; exact hxs)
      rw [q] at this
      cases this
      exact nl xs rfl
    rw [out3 p c]
    exact q
end
class NoL (α : Type) [Enc α] : Prop where
  keep : ∀ {K : PySem.W.Frag} {S S' : Hp} {v : V} {a : α}, Enc.rep K S v a → (∀ p o, S p = some o → (∀ xs, o ≠ .lst xs) → S' p = some o) → Enc.rep K S' v a
theorem sqt_keep {K : PySem.W.Frag} {S S' : Hp} {p : Addr} {vs : List V} (h : SqT K S p vs) (f : ∀ p o, S p = some o → (∀ xs, o ≠ .lst xs) → S' p = some o) : SqT K S' p vs := by
  rcases h with h | h
  · rcases h with h | ⟨o, h⟩
    · exact .inl (.inl (f _ _ h fun xs z => nomatch z))
    · exact .inl (.inr ⟨o, f _ _ h fun xs z => nomatch z⟩)
  · exact .inr h
instance : NoL Str := ⟨fun h _ => h⟩
instance : NoL Int := ⟨fun h _ => h⟩
instance {α β : Type} [Enc α] [Enc β] [NoL α] [NoL β] : NoL (α × β) := ⟨fun h f => by
  obtain ⟨p, v1, v2, r, hq, h1, h2⟩ := h
  exact ⟨p, v1, v2, r, sqt_keep hq f, NoL.keep h1 f, NoL.keep h2 f⟩⟩
instance {α β γ δ : Type} [Enc α] [Enc β] [Enc γ] [Enc δ] [NoL α] [NoL β] [NoL γ] [NoL δ] : NoL (T4 α β γ δ) := ⟨fun h f => by
  obtain ⟨p, v1, v2, v3, v4, r, hq, h1, h2, h3, h4⟩ := h
  exact ⟨p, v1, v2, v3, v4, r, sqt_keep hq f, NoL.keep h1 f, NoL.keep h2 f, NoL.keep h3 f, NoL.keep h4 f⟩⟩
instance {α : Type} [Enc α] [NoL α] : NoL (U α) := ⟨fun h f => by
  obtain ⟨hl, p, vs, r, hq, hp⟩ := h
  exact ⟨hl, p, vs, r, sqt_keep hq f, Paired.mono (fun _ _ z => NoL.keep z f) hp⟩⟩
instance : NoL MOb := ⟨fun h f => by
  obtain ⟨x, dx, v1, v2, v3, v4, v5, z, hx, h1, h2, h3, h4, h5⟩ := h
  exact ⟨x, dx, v1, v2, v3, v4, v5, z, f _ _ hx (fun xs z => nomatch z), NoL.keep h1 f, NoL.keep h2 f, NoL.keep h3 f, NoL.keep h4 f, NoL.keep h5 f⟩⟩
section
variable {α β γ : Type} [Enc α] [Enc β] [Enc γ] {K : PySem.W.Frag} {B : Addr → Prop} {ρ : List Slot} {te tl tm : TE} {tz : TS} {b : γ}
theorem ls_new {wi : TI} {g : TG} {vs : List Nat} {xs : List β} (f : β → List α) (hi : DI K B wi ρ xs) (hl : xs.length ≤ 1000)
    (h : ∀ x ∈ xs, ∃ ρ' js, DG K B g x (wipeS ρ vs) ρ' js ∧ (∀ i ∈ js, i ∈ vs) ∧ DO K B te ρ' (f x) ∧ (f x).length ≤ 1000) : DOG K B (tLc wi g tYes te vs) ρ (fun w : LsO α => w = ⟨xs.map f⟩) := by
  intro S0 H0 S H σ E Q q
  refine hi S0 H0 S H σ E _ fun J S1 H1 e1 y D hD => ?_
  have hD0 : H D = none := e1.free E.i hD
  have nB : ¬ B D := fun z => (E.bx D z).2.2 (E.ext.free E.i0 hD0)
  let Pv : Nat → Hp → Prop := fun i Hc => ∃ Sc ps, Ext B S1 H1 Sc Hc ∧ (D :: ps).Nodup ∧ (∀ q ∈ D :: ps, Sc q = none ∧ H q = none) ∧ Hc D = some (.lst (ps.map V.ref)) ∧ RgV K Sc Hc ps ((xs.take i).map f)
  refine ⟨fun i m Hc => m = xs.length - i ∧ i ≤ xs.length ∧ Pv i Hc, ⟨xs.length, by simp, Nat.zero_le _, S1, [], Ext.priv e1.i hD, (List.pairwise_singleton _ _), fun q hq => by rw [List.mem_singleton.mp hq]; exact ⟨e1.i.free hD, hD0⟩, upd_same, trivial⟩, ?_⟩
  rintro i m Hc ⟨rfl, hle, Sc, ps, ex, pn, pf, hh, pr⟩
  have yy := y Sc Hc ex.s (E.ext.trans (e1.trans ex))
  by_cases hlt : i < xs.length
  · refine .inr ?_
    obtain ⟨x, hx⟩ : ∃ x, xs[i]? = some x := ⟨_, List.getElem?_eq_getElem hlt⟩
    obtain ⟨hgo, hy⟩ := yy.1 i x hx
    refine ⟨hgo, Pv (i + 1), fun H' hp => ⟨xs.length - (i + 1), by omega, rfl, hlt, hp⟩, fun w H' hyl => ?_⟩
    obtain ⟨S2, e2, r2⟩ := hy w H' hyl
    obtain ⟨ρ', js, hg, hjs, hte, fl⟩ := h x (List.mem_of_getElem? hx)
    refine hg S0 H0 S2 H' (wipe σ vs) w ((E.go ((e1.trans ex).trans e2)).wp vs) r2 _ fun σ2 E2 l2 f2 => ⟨?_, ?_⟩
    · have z := wipe_eq (vs := vs) l2 fun i hi => f2 i fun z => hi (hjs i z)
      rw [z, wipe_wipe]
    · show tYes σ2 H' _
      refine hte S0 H0 S2 H' σ2 E2 _ fun p us S3 H3 e5 hp hs hh3 rr hl3 => ?_
      have e25 := e2.trans e5
      have eAll := ex.trans e25
      have st : ∀ q ∈ D :: ps, S3 q = none ∧ H3 q = Hc q := fun q hq => by
        have hn : Hc q ≠ none := by
          rcases List.mem_cons.mp hq with rfl | hq
          · rw [hh]; exact fun z => nomatch z
          · obtain ⟨o, ho, _⟩ := pr.lst q hq
            rw [ho]; exact fun z => nomatch z
        obtain ⟨q1, q2⟩ := e25.p q (pf q hq).1 hn
        refine ⟨q1, ?_⟩
        rcases q2 with q2 | ⟨q2, _⟩
        · exact q2
        · exact absurd ((E.ext.free E.i0 (pf q hq).2)) (E.bx q q2).2.2
      have hpc : Hc p = none := e2.free ex.i hp
      have hp0 : H p = none := (e1.trans ex).free E.i hpc
      have np : ∀ q ∈ D :: ps, q ≠ p := fun q hq z => by
        subst z
        rcases List.mem_cons.mp hq with rfl | hq
        · rw [hh] at hpc; cases hpc
        · obtain ⟨o, ho, _⟩ := pr.lst q hq
          rw [ho] at hpc; cases hpc
      have kl : (ps.map V.ref).length < sizeLine := by
        rw [List.length_map, pr.len, List.length_map, List.length_take]
        exact Nat.lt_of_lt_of_le (show min i xs.length < BIG from Nat.lt_of_le_of_lt (Nat.min_le_right _ _) (Nat.lt_of_le_of_lt hl (by decide))) big_line
      refine ⟨ps.map V.ref, by rw [(st D List.mem_cons_self).2]; exact hh, kl, S3, ps ++ [p], eAll.mut hD (st D List.mem_cons_self).1, ?_, fun q hq => ?_, ?_, ?_⟩
      · rw [← List.cons_append, List.nodup_append]
        exact ⟨pn, List.pairwise_singleton _ _, fun a ha b hb => by rw [List.mem_singleton.mp hb]; exact np a ha⟩
      · rw [← List.cons_append] at hq
        rcases List.mem_append.mp hq with h1 | h1
        · exact ⟨(st q h1).1, (pf q h1).2⟩
        · rw [List.mem_singleton.mp h1]
          exact ⟨hs, hp0⟩
      · rw [upd_same, List.map_append]
        rfl
      · rw [List.take_add_one, hx, List.map_append]
        refine RgV.snoc (pr.to e25.s fun q hq => ?_) ⟨us, ?_, rr, fl⟩
        · rw [upd_ne (fun z => (List.nodup_cons.mp pn).1 (by rw [← z]; exact hq))]
          exact (st q (List.mem_cons_of_mem _ hq)).2
        · rw [upd_ne (np D List.mem_cons_self).symm]
          exact hh3
  · refine .inl ⟨?_, ?_⟩
    · rw [show i = xs.length by omega]
      exact yy.2
    · rw [show i = xs.length by omega, List.take_length] at pr
      exact q D ⟨xs.map f⟩ Sc Hc rfl (e1.trans ex) ⟨D :: ps, ⟨ps, rfl, pn, hh, pr, by rw [List.length_map]; exact hl⟩, pf, fun i s p hi _ _ => nomatch hi⟩
theorem ds_lists [NoL γ] {Φ : Post} {t n k : Nat} {z : Str} {w : LsO α} (h1 : DOG K B tl ρ fun o => o = w) (h2 : DE K B tm (ρ.set t (.val w)) b) (ht : ρ[t]? = some .no) (hk : ρ[k]? = some .no) (hn : n ≠ t) (hkt : k ≠ t) (hnk : n ≠ k) (hz : DS K B tz (ρ.set n (.val b)) Φ) :
    DS K B (tSeq (tAsg tl (gName t)) (tSeq (tAsg tm (gName n)) (tSeq (tFor (iSeq K (tVar t)) (gName k) (tDrop (tBM K "list" rAppend (tVar k) (tCons (tC (.str z)) tNil)))) tz))) ρ Φ := fun S0 H0 S H σ D E px nx rt bk ct =>
  h1 S0 H0 S H σ E _ fun x w' S1 H1 pw e1 r1 => by
    rw [pw] at r1
    have hb : ∀ q, B q → H0 q ≠ none := fun q hq => (E.bx q hq).2.2
    have hl : t < σ.length := by rw [E.len]; exact (List.getElem?_eq_some_iff.mp ht).1
    have E1 := (E.go e1).setNo (v := .ref x) ht
    have R1 : RgG K H0 S1 H1 x w (σ.set t (some (.ref x))) ρ := (r1.new E).setNo ht
    have hσ : (σ.set t (some (V.ref x)))[t]? = some (some (.ref x)) := List.getElem?_set_self hl
    obtain ⟨S2, s2, E2, un⟩ := LsO.frz R1 E1 ht hσ
    refine h2 S0 H0 S2 H1 _ E2 _ fun v S3 H3 e3 r3 => ?_
    obtain ⟨S4, e4, R4, ke⟩ := un S3 H3 e3
    have rb : Enc.rep K S4 v b := NoL.keep r3 ke
    have E4 : En K B S0 H0 S4 H3 ((σ.set t (some (.ref x))).set n (some v)) (ρ.set n (.val b)) := (E1.go e4).setV rb
    have R4 : RgG K H0 S4 H3 x w ((σ.set t (some (.ref x))).set n (some v)) (ρ.set n (.val b)) := R4.set rfl
    have hσ4 : ((σ.set t (some (V.ref x))).set n (some v))[t]? = some (some (.ref x)) := by rw [List.getElem?_set_ne hn]; exact hσ
    have hk4 : (ρ.set n (.val b))[k]? = some .no := by rw [List.getElem?_set_ne hnk]; exact hk
    have ht4 : (ρ.set n (.val b))[t]? = some .no := by rw [List.getElem?_set_ne hn]; exact ht
    show (tSeq (tFor (iSeq K (tVar t)) (gName k) (tDrop (tBM K "list" rAppend (tVar k) (tCons (tC (.str z)) tNil)))) tz) D ((σ.set t (some (V.ref x))).set n (some v)) H3
    generalize (σ.set t (some (V.ref x))).set n (some v) = σ4 at E4 R4 hσ4 ⊢
    generalize ρ.set n (.val b) = ρ4 at E4 R4 hk4 ht4 hz
    obtain ⟨as, ⟨ps, rfl, nd, hx, rr, ll⟩, p1, p2⟩ := R4
    have fin : ∀ {σ' Hc}, En K B S0 H0 S4 Hc σ' ρ4 → tz D σ' Hc := fun {σ' Hc} E' => hz S0 H0 S4 Hc σ' D E' px (fun ρ' σ' S' H' q s E'' => nx ρ' σ' S' H' q ((e1.s.trans e4.s).trans s) E'') rt (fun ρ' σ' S' H' q s E'' => bk ρ' σ' S' H' q ((e1.s.trans e4.s).trans s) E'') (fun ρ' σ' S' H' q s E'' => ct ρ' σ' S' H' q ((e1.s.trans e4.s).trans s) E'')
    refine ⟨_, hσ4, x, rfl, .inl ⟨⟨_, SqL.of hx⟩, ?_⟩⟩
    refine ⟨fun i m σ' Hc => m = ps.length - i ∧ i ≤ ps.length ∧ En K B S0 H0 S4 Hc σ' ρ4 ∧ σ'[t]? = some (some (.ref x)) ∧ OwnOff σ' ρ4 (x :: ps) ∧ Hc x = some (.lst (ps.map V.ref)) ∧ ∀ p ∈ ps, ∃ vs, Hc p = some (.lst vs) ∧ vs.length ≤ 1000 + i, ⟨ps.length, by simp, Nat.zero_le _, E4, hσ4, p2, hx, fun p hp => rr.lst p hp⟩, ?_⟩
    rintro i m σ' Hc ⟨rfl, hle, E', hσ', p2', hx', hps⟩
    have lm : (ps.map V.ref).length = ps.length := List.length_map ..
    have il : ps.length ≤ 1000 := by rw [rr.len]; exact ll
    by_cases hlt : i < ps.length
    · refine .inr ⟨⟨_, .ref ps[i], SqL.of hx', by rw [List.getElem?_map, List.getElem?_eq_getElem hlt]; rfl⟩, fun σ2 H2 => En K B S0 H0 S4 H2 σ2 ρ4 ∧ σ2[t]? = some (some (.ref x)) ∧ OwnOff σ2 ρ4 (x :: ps) ∧ H2 x = some (.lst (ps.map V.ref)) ∧ ∀ p ∈ ps, ∃ vs, H2 p = some (.lst vs) ∧ vs.length ≤ 1000 + (i + 1), fun σ2 H2 hp => ⟨ps.length - (i + 1), by omega, rfl, hlt, hp⟩, fun v2 H2 hyl => ?_⟩
      obtain ⟨rfl, hv⟩ := hyl
      have hv := hv _ (SqL.of hx')
      rw [List.getElem?_map, List.getElem?_eq_getElem hlt] at hv
      cases hv
      have pm : ps[i] ∈ ps := List.getElem_mem hlt
      have pm' : ps[i] ∈ x :: ps := .tail _ pm
      have kl : k < σ'.length := by rw [E'.len]; exact (List.getElem?_eq_some_iff.mp hk4).1
      obtain ⟨vs, hvs, vl⟩ := hps _ pm
      have E5 := E'.setNo (v := .ref ps[i]) hk4
      have p25 : OwnOff (σ'.set k (some (.ref ps[i]))) ρ4 (x :: ps) := fun j s p hi ho hp => by
        rw [List.getElem?_set] at hp
        by_cases c : k = j
        · subst c
          rw [hk4] at hi
          cases hi
          cases ho
        · rw [if_neg c] at hp
          exact p2' j s p hi ho hp
      refine ⟨_, List.getElem?_set_self kl, .inl ⟨rfl, vs, SqL.of hvs⟩, ?_⟩
      refine ⟨ps[i], vs, .str z, rfl, rfl, hvs, Nat.lt_of_le_of_lt vl (Nat.lt_of_lt_of_le (show 1000 + i < BIG from Nat.lt_of_lt_of_le (show 1000 + i < 2001 by omega) (by decide)) big_line), ?_⟩
      refine ⟨E5.updP (fun j s hi ho hp => p25 j s _ hi ho hp pm') (p1 _ pm').1 (p1 _ pm').2, by rw [List.getElem?_set_ne hkt]; exact hσ', p25, by rw [upd_ne (fun e => (List.nodup_cons.mp nd).1 (by rw [e]; exact pm))]; exact hx', fun p hp => ?_⟩
      by_cases c : p = ps[i]
      · rw [c, upd_same]
        exact ⟨_, rfl, by rw [List.length_append]; show vs.length + 1 ≤ _; omega⟩
      · rw [upd_ne c]
        obtain ⟨us, h1, h2⟩ := hps p hp
        exact ⟨us, h1, by omega⟩
    · refine .inl ⟨⟨_, SqL.of hx', by rw [lm]; omega⟩, fin E'⟩
end
end WW
set_option Elab.async false
set_option linter.all false
set_option maxRecDepth 100000
set_option maxHeartbeats 4000000
namespace WW
open PySem PySem.Spec PyProof.Rows L2
section
variable {P : Program} {w : World} {A : Around} {Er : Value → Shared → Prop} {s : Shared}
theorem sliceApplied_back {c : Addr} {u3 : Value} {n : Nat} {Q : Int × Int × Nat → Shared → Prop} (hc : s.heap.IsSliceOf c .none .none u3) (p3 : IsPart u3 (some (-1))) (q : Q ((n : Int) - 1, -1, n) s) : wpAny (model P w) A (Builtin.Slice.sliceApplied (.ref c) (pure (n : Int))) Q Er s := by
  obtain ⟨oc, e1, e2, e3⟩ := id hc
  unfold Builtin.Slice.sliceApplied Builtin.Slice.sliceFields
  refine wpAny_bind (wpAny_bind (wpAny_field e1 e3 (x := .none) rfl (wpAny_bind (wpAny_field e1 e3 (x := .none) rfl (wpAny_bind (wpAny_field e1 e3 (x := u3) rfl (wpAny_pure ?_)))))))
  refine wpAny_bind (HT.slicePart_ p3 ?_)
  show wpAny _ _ (if ((-1 : Int) == 0) = true then _ else _) _ _ s
  rw [if_neg (by decide)]
  refine wpAny_bind (HT.slicePart_ .none (wpAny_bind (HT.slicePart_ .none (wpAny_bind (wpAny_pure ?_)))))
  have pl : Builtin.Slice.slicePlaces ((n : Int) - 1) (-1) (-1) = n := by
    unfold Builtin.Slice.slicePlaces
    rw [if_neg (by decide)]
    by_cases c : n = 0
    · subst c
      rfl
    · rw [if_pos (by omega), show -(-1 : Int) = 1 by decide, Int.ediv_one]
      omega
  show wpAny _ _ (pure ((n : Int) - 1, (-1 : Int), Builtin.Slice.slicePlaces ((n : Int) - 1) (-1) (-1))) _ _ s
  rw [pl]
  exact wpAny_pure q
theorem fm_map {α β : Type} {f : α → Option β} {g : α → β} : ∀ {l : List α}, (∀ m ∈ l, f m = some (g m)) → l.filterMap f = l.map g
  | [], _ => rfl
  | x :: l, h => by
    rw [List.filterMap_cons, h x List.mem_cons_self, List.map_cons, fm_map fun m hm => h m (List.mem_cons_of_mem _ hm)]
theorem pick_back (xs : Array Value) : ((List.range xs.size).filterMap fun (m : Nat) => xs[((xs.size : Int) - 1 + (m : Int) * -1).toNat]?) = xs.toList.reverse := by
  refine List.ext_getElem? fun i => ?_
  have e : ((List.range xs.size).filterMap fun (m : Nat) => xs[((xs.size : Int) - 1 + (m : Int) * -1).toNat]?) = (List.range xs.size).map fun m => xs.toList.getD (xs.size - 1 - m) .none := by
    refine fm_map fun m hm => ?_
    have hm := List.mem_range.mp hm
    rw [show ((xs.size : Int) - 1 + (m : Int) * -1).toNat = xs.size - 1 - m by omega]
    show xs[xs.size - 1 - m]? = some _
    rw [List.getD_eq_getElem?_getD, Array.getElem?_toList, Array.getElem?_eq_getElem (by omega)]
    rfl
  rw [e, List.getElem?_map]
  by_cases hi : i < xs.size
  · rw [List.getElem?_range hi, List.getElem?_reverse (by rw [Array.length_toList]; exact hi), Array.length_toList]
    show some (xs.toList.getD (xs.size - 1 - i) .none) = _
    rw [List.getD_eq_getElem?_getD, Array.getElem?_toList, Array.getElem?_eq_getElem (by omega)]
    rfl
  · rw [List.getElem?_eq_none (by rw [List.length_range]; omega), List.getElem?_eq_none (by rw [List.length_reverse, Array.length_toList]; omega)]
    rfl
theorem getItem_tuple_back {a c : Addr} {its : Array Value} {u3 : Value} {R : Value → Shared → Prop} (hT : IsTup s.heap a its) (hc : s.heap.IsSliceOf c .none .none u3) (p3 : IsPart u3 (some (-1))) (hz : its.size ≤ sizeLine)
    (q : R (.ref s.heap.objs.size) { s with heap := s.heap.push { cls := .type "tuple", data := .seq its.toList.reverse.toArray } }) : wpAny (model P w) A (getItem (.ref a) (.ref c)) R Er s := by
  have hr : sizeOk (.seq its.toList.reverse.toArray) := by show its.toList.reverse.toArray.size ≤ sizeLine; rw [List.size_toArray, List.length_reverse, Array.length_toList]; exact hz
  obtain ⟨oc, e1, e2, e3⟩ := id hc
  have tc : s.TypeIs (.ref c) "slice" := ⟨oc, e1, e2⟩
  unfold getItem
  try with_reducible refine wpAny_holding ?_
  first | (refine wpAny_bind (wpAny_pure ?_)) | skip
  refine wpAny_bind (wpAny_sequenceKey hT.typeIs (by decide) ?_)
  refine wpAny_bind (wpAny_callSpecial?_slot (name := Str.ofString "__getitem__") hT.typeIs slot_tuple_getitem (wpAny_call_entry slot_tuple_getitem hT.typeIs PyProof.Rows.entry_tuple_getitem ?_ (PyProof.Rows.args_tuple_getitem _ _)))
  show wpAny _ _ (Builtin.Tuple.tupleItemsOf (.ref a) >>= _) _ _ s
  refine wpAny_bind (tupleItemsOf_ hT (wpAny_bind (wpAny_typeOf tc ?_)))
  rw [if_pos (by decide)]
  refine wpAny_bind (sliceApplied_back hc p3 ?_)
  have hno : ¬ ((((its.size : Int) - 1) == 0 && (-1 : Int) == 1 && its.size == its.size) = true) := by
    rw [show ((-1 : Int) == 1) = false by decide, Bool.and_false, Bool.false_and]
    decide
  show wpAny _ _ (if (((its.size : Int) - 1) == 0 && (-1 : Int) == 1 && its.size == its.size) = true then _ else _) _ _ s
  rw [if_neg hno, pick_back]
  first
    | exact wpAny_bind (m := Builtin.Tuple.tupleExact _) (wpAny_newObj_type (wpAny_pure ⟨_, rfl, wpAny_pure q⟩) hr)
    | exact wpAny_bind (m := Builtin.Tuple.tupleExact _) (wpAny_newObj_type (wpAny_bind (wpAny_pure (wpAny_pure ⟨_, rfl, wpAny_pure q⟩))) hr)
    | exact wpAny_bind (wpAny_bind (m := Builtin.Tuple.tupleExact _) (wpAny_newObj_type (wpAny_pure (wpAny_pure ⟨_, rfl, wpAny_pure q⟩)) hr))
    | exact wpAny_bind (wpAny_bind (m := Builtin.Tuple.tupleExact _) (wpAny_newObj_type (wpAny_pure ⟨_, rfl, wpAny_pure q⟩) hr))
end
def tRevT (K : PySem.W.Frag) (te : TE) : TE := fun σ H Q => te σ H fun x H1 => ∃ a xs, x = .ref a ∧ SqT K H1 a xs ∧ ∀ p, H1 p = none → Q (.ref p) (upd H1 p (.tup xs.reverse))
section
variable {X : Cx}
theorem pe_revT {e : Expr} {te : TE} {k k2 : Nat} {p1 p2 p3 p4 pos : Pos} (K : PySem.W.Frag) (he : PE X e te) (hK : X.K = K := by rfl) : PE X (.Subscript e (.Slice none none (some (.BinOp (.Constant (.int 0) k p1) .Sub (.Constant (.int 1) k2 p4) p2)) p3) pos) (tRevT K te) := by
  subst hK
  refine ⟨fun pins s σ H Q I h => ?_⟩
  refine Subscript_ (thn (he.run pins s σ H _ I h) fun v s1 ⟨x, H1, I1, r1, q1⟩ => ?_)
  obtain ⟨a, xs, ex, hx, q⟩ := q1
  subst ex
  cases r1
  have hst : PO X (some (.BinOp (.Constant (.int 0) k p1) .Sub (.Constant (.int 1) k2 p4) p2)) (tPart (tOp (rI0 fun i j => .int (i - j)) (tC (.int 0)) (tC (.int 1)))) := po_some (pe_op op_sub pe_int pe_int)
  refine wpAny_Slice (thn (po_none.run pins s1 σ H1 (fun o H2 => o = none ∧ H2 = H1) I1 ⟨rfl, rfl⟩) fun vl s2 ⟨l, H2, I2, pl, el, e2⟩ => ?_)
  subst el e2
  refine thn (po_none.run pins s2 σ H2 (fun o H3 => o = none ∧ H3 = H2) I2 ⟨rfl, rfl⟩) fun vu s3 ⟨u, H3, I3, pu, eu, e3⟩ => ?_
  subst eu e3
  refine thn (hst.run pins s3 σ H3 (fun o H4 => o = some (-1) ∧ H4 = H3) I3 ⟨0, 1, rfl, rfl, -1, rfl, rfl, rfl⟩) fun vs s4 ⟨o, H4, I4, ps, eo, e4⟩ => ?_
  subst eo e4
  cases pl
  cases pu
  have I5 : Inv X pins σ H4 { s4 with heap := s4.heap.push { cls := .type "slice", data := .fields #[.none, .none, vs] } } := I4.kept (t' := s4.toks) fun b ob q => Heap.get?_push_of_some _ q
  obtain ⟨its, r, ht, hz⟩ := I5.tuple hx
  have hlen := r.length
  show wpAny (model X.prog X.w) X.A (subscriptTail e (.Slice none none (some (.BinOp (.Constant (.int 0) k p1) .Sub (.Constant (.int 1) k2 p4) p2)) p3) (.ref a) (.ref s4.heap.objs.size)) (EP X pins σ Q) X.xe { s4 with heap := s4.heap.push { cls := .type "slice", data := .fields #[.none, .none, vs] } }
  refine tail_any (ops := [.ref a, .ref s4.heap.objs.size]) ht.typeIs (slot_tuple_getitem.lookup) ?_ (by with_unfolding_all rfl)
  refine getItem_tuple_back ht (Heap.IsSliceOf.new _ .none .none vs) ps (by rw [List.size_toArray]; omega) ?_
  rw [show its.toArray.toList.reverse = its.reverse by simp]
  refine ⟨.ref _, _, I5.laid (t' := s4.toks) (o := .tup xs.reverse) (fun b ob q => Heap.get?_push_of_some _ q) (Nat.le_refl _) ?_, rfl, q _ (I5.hok.fresh (Nat.le_refl _))⟩
  exact ⟨by rw [List.length_reverse]; exact hz, _, r.reverse, IsTup.new _ _⟩
end
section
variable {K : PySem.W.Frag} {B : Addr → Prop} {ρ : List Slot} {te : TE} {α : Type} {e_α : Enc α}
theorem d_revT {xs : List α} (h : DE K B te ρ (α := U α) xs) : DE K B (tRevT K te) ρ (α := U α) xs.reverse := fun S0 H0 S H σ E Q q =>
  h S0 H0 S H σ E _ fun v S1 H1 e1 ⟨hl, p, vs, ev, hq, r⟩ => by
    subst ev
    refine ⟨p, vs, rfl, Evl.ex_t e1.i hq, fun w hw => ?_⟩
    have e2 : Ext B S1 H1 (upd S1 w (.tup vs.reverse)) (upd H1 w (.tup vs.reverse)) := Ext.new e1.i hw
    exact q _ _ _ (e1.trans e2) ⟨by show List.length (List.reverse xs) ≤ BIG; rw [List.length_reverse]; exact hl, w, _, rfl, .inl (.inl upd_same), Paired.mono (fun _ _ => Enc.mono e2.s) (paired_rev r)⟩
end
end WW
set_option Elab.async false
set_option linter.all false
set_option maxRecDepth 100000
set_option maxHeartbeats 4000000
namespace WW
open PySem PySem.Spec PyProof.Rows L2
theorem wt_int {i : Int} (h : i.natAbs < 10 ^ 12) : (AV.int i).dat.weight ≤ 40 := by
  rw [AV.dat, PyData.weight]
  split
  · exact Nat.zero_le _
  · rename_i c
    have c : i.natAbs ≠ 0 := fun e => c (by
      have : i = 0 := Int.natAbs_eq_zero.mp e
      rw [this]
      rfl)
    have := (Nat.log2_lt c).mpr (Nat.lt_of_lt_of_le h (show 10 ^ 12 ≤ 2 ^ 40 by decide))
    omega
theorem wt_str {z : Str} : (AV.str z).dat.weight = z.length := by
  rw [AV.dat, PyData.weight]
  rfl
theorem wt_all {c : Nat} : ∀ {xs : List AV}, (∀ x ∈ xs, x.dat.weight ≤ c) → PyData.weightAll (AV.dats xs) ≤ xs.length * (c + 1)
  | [], _ => by simp [AV.dats, PyData.weightAll]
  | x :: xs, h => by
    rw [AV.dats, PyData.weightAll, List.length_cons, Nat.add_mul, Nat.one_mul]
    have h1 := h x List.mem_cons_self
    have h2 := wt_all (xs := xs) fun y hy => h y (List.mem_cons_of_mem _ hy)
    omega
theorem wt_tup {c : Nat} {xs : List AV} (h : ∀ x ∈ xs, x.dat.weight ≤ c) : (AV.tup xs).dat.weight ≤ xs.length * (c + 1) := by
  rw [AV.dat, PyData.weight]
  exact wt_all h
theorem ishs_iff : ∀ {xs : List AV}, AV.ishs xs = true ↔ ∀ x ∈ xs, x.ish = true
  | [] => by simp [AV.ishs]
  | x :: xs => by rw [AV.ishs, Bool.and_eq_true, ishs_iff (xs := xs), List.forall_mem_cons]
end WW
set_option Elab.async false
set_option linter.all false
set_option maxRecDepth 100000
set_option maxHeartbeats 4000000
namespace WW
open PySem PySem.Spec PyProof.Rows L2
open TL (tl)
def shpA (m : DMd) : AV := .tup (sixT m)
theorem sixT_len (m : DMd) : (sixT m).length = 6 := rfl
theorem strOk_of {z : Str} (h : ∀ c ∈ tl z, c < 256) : PyData.strOk z = true := by
  unfold PyData.strOk
  rw [Array.all_eq_true']
  intro c hc
  exact decide_eq_true (Nat.lt_trans (h c (Array.mem_toList_iff.mpr hc)) (by decide))
theorem name_ok {z : Str} (h : nameB z = true) : PyData.strOk z = true := strOk_of fun c hc => by have := name_signs h c hc; omega
theorem end_ok {z : Str} (h : endB z = true) : PyData.strOk z = true := by
  unfold endB at h
  rw [Bool.and_eq_true] at h
  have al := List.all_eq_true.mp h.2
  have sj := congrArg tl (PySem.StrLaws.join_split z ".")
  rw [TL.tl_join] at sj
  refine strOk_of fun c hc => ?_
  rw [← sj] at hc
  rcases mem_joinL hc with h | ⟨p, hp, h⟩
  · have e : tl "." = [46] := by decide
    rw [e] at h
    rw [List.mem_singleton.mp h]
    decide
  · obtain ⟨y, hy, rfl⟩ := List.mem_map.mp hp
    have := name_signs (al y hy) c h
    omega
structure Shw (x : AV) : Prop where
  i : x.ish = true
  g : x.Gd 3
  w : x.dat.weight ≤ 2 ^ 20
theorem Fn.shw {m : DMd} (g : Fn m) : Shw (shpA m) := by
  obtain ⟨n1, n2, n3, n4⟩ := g.nms
  obtain ⟨s1, s2, s3, s4⟩ := g.sz
  have ss := g.ll
  have sq5 : ∀ {zs : List Str}, (∀ z ∈ zs, nameB z = true) → zs.length ≤ 100 → (tupd (strsA zs)).ish = true ∧ (tupd (strsA zs)).Gd 2 ∧ (tupd (strsA zs)).dat.weight ≤ 10000 := fun {zs} h hl => by
    have e : tupd (strsA zs) = .tup (zs.map AV.str) := rfl
    rw [e]
    refine ⟨?_, gd_tup.mpr fun x hx => ?_, ?_⟩
    · rw [AV.ish, ishs_iff]
      intro x hx
      obtain ⟨z, hz, rfl⟩ := List.mem_map.mp hx
      rfl
    · obtain ⟨z, hz, rfl⟩ := List.mem_map.mp hx
      exact gd_str (name_ok (h z hz))
    · have := wt_tup (c := 5) (xs := zs.map AV.str) fun x hx => by
        obtain ⟨z, hz, rfl⟩ := List.mem_map.mp hx
        rw [wt_str]
        exact nameB_len (h z hz)
      rw [List.length_map] at this
      omega
  have lk : (tupd (linksA m.l)).ish = true ∧ (tupd (linksA m.l)).Gd 2 ∧ (tupd (linksA m.l)).dat.weight ≤ 100000 := by
    have e : tupd (linksA m.l) = .tup (m.l.map fun t => AV.tup [.str t.a, .str t.b, .int t.c, .int t.d]) := rfl
    rw [e]
    refine ⟨?_, gd_tup.mpr fun x hx => ?_, ?_⟩
    · rw [AV.ish, ishs_iff]
      intro x hx
      obtain ⟨t, ht, rfl⟩ := List.mem_map.mp hx
      obtain ⟨c0, c1, d0, d1, al, bl⟩ := g.lc t ht
      rw [AV.ish, ishs_iff]
      intro y hy
      simp only [List.mem_cons, List.mem_nil_iff, or_false] at hy
      rcases hy with rfl | rfl | rfl | rfl
      · rfl
      · rfl
      · rw [AV.ish]; exact decide_eq_true (by omega)
      · rw [AV.ish]; exact decide_eq_true (by omega)
    · obtain ⟨t, ht, rfl⟩ := List.mem_map.mp hx
      exact gd_tup.mpr (Gds.cons (gd_str (end_ok (there_end (g.la t ht)))) (Gds.cons (gd_str (end_ok (there_end (g.lb t ht)))) (Gds.cons gd_int (Gds.cons gd_int Gds.nil))))
    · have := wt_tup (c := 200) (xs := m.l.map fun t => AV.tup [.str t.a, .str t.b, .int t.c, .int t.d]) fun x hx => by
        obtain ⟨t, ht, rfl⟩ := List.mem_map.mp hx
        obtain ⟨c0, c1, d0, d1, al, bl⟩ := g.lc t ht
        refine Nat.le_trans (wt_tup (c := 40) fun y hy => ?_) (by show 4 * 41 ≤ 200; decide)
        simp only [List.mem_cons, List.mem_nil_iff, or_false] at hy
        rcases hy with rfl | rfl | rfl | rfl
        · rw [wt_str]; omega
        · rw [wt_str]; omega
        · exact wt_int (by omega)
        · exact wt_int (by omega)
      rw [List.length_map] at this
      omega
  have cs : (tupd (callsA m.c)).ish = true ∧ (tupd (callsA m.c)).Gd 2 ∧ (tupd (callsA m.c)).dat.weight ≤ 100000 := by
    have e : tupd (callsA m.c) = .tup (m.c.map fun t => AV.tup [.str t.1, .str t.2]) := rfl
    have l1 : ∀ t ∈ m.c, nameB t.1 = true := fun t ht => n4 t.1 (List.mem_map.mpr ⟨t, ht, rfl⟩)
    rw [e]
    refine ⟨?_, gd_tup.mpr fun x hx => ?_, ?_⟩
    · rw [AV.ish, ishs_iff]
      intro x hx
      obtain ⟨t, ht, rfl⟩ := List.mem_map.mp hx
      rfl
    · obtain ⟨t, ht, rfl⟩ := List.mem_map.mp hx
      exact gd_tup.mpr (Gds.cons (gd_str (name_ok (l1 t ht))) (Gds.cons (gd_str (name_ok (g.cn t ht))) Gds.nil))
    · have := wt_tup (c := 200) (xs := m.c.map fun t => AV.tup [.str t.1, .str t.2]) fun x hx => by
        obtain ⟨t, ht, rfl⟩ := List.mem_map.mp hx
        refine Nat.le_trans (wt_tup (c := 40) fun y hy => ?_) (by show 2 * 41 ≤ 200; decide)
        simp only [List.mem_cons, List.mem_nil_iff, or_false] at hy
        rcases hy with rfl | rfl
        · rw [wt_str]; have := nameB_len (l1 t ht); omega
        · rw [wt_str]; have := nameB_len (g.cn t ht); omega
      rw [List.length_map] at this
      omega
  obtain ⟨a1, a2, a3⟩ := sq5 n1 s1
  obtain ⟨b1, b2, b3⟩ := sq5 n2 s2
  obtain ⟨c1, c2, c3⟩ := sq5 n3 s3
  obtain ⟨d1, d2, d3⟩ := lk
  obtain ⟨e1, e2, e3⟩ := cs
  have mem : ∀ {P : AV → Prop}, P (.str m.n) → P (tupd (strsA m.i)) → P (tupd (strsA m.o)) → P (tupd (strsA m.s)) → P (tupd (linksA m.l)) → P (tupd (callsA m.c)) → ∀ x ∈ sixT m, P x := fun {P} p1 p2 p3 p4 p5 p6 x hx => by
    unfold sixT at hx
    simp only [List.mem_cons, List.mem_nil_iff, or_false] at hx
    rcases hx with rfl | rfl | rfl | rfl | rfl | rfl
    · exact p1
    · exact p2
    · exact p3
    · exact p4
    · exact p5
    · exact p6
  refine ⟨?_, gd_tup.mpr (mem (gd_str (name_ok g.n)) a2 b2 c2 d2 e2), ?_⟩
  · show (AV.tup (sixT m)).ish = true
    rw [AV.ish, ishs_iff]
    exact mem rfl a1 b1 c1 d1 e1
  · have := wt_tup (c := 100000) (xs := sixT m) (mem (by rw [wt_str]; have := nameB_len g.n; omega) (by omega) (by omega) (by omega) d3 e3)
    rw [sixT_len] at this
    exact Nat.le_trans this (by decide)
section
variable {P : Program} {w : World} {K : PySem.W.Frag} {mg : Str → Option Value} {base : Heap} {f : Addr} {fd : FuncData}
abbrev N_l_shape : List Str := ["_law_made"]
theorem sc_l_shape : FnScope N_l_shape ["_law_made"] (defScope s_l_shape) := ⟨rfl, rfl, rfl, by decide +kernel, rfl, by decide +kernel, by decide +kernel⟩
theorem ok_lshape (F : FnP K "_law_shape" s_l_shape f fd) (MC : ModC K (He.ga K "Module")) (m_repr : mg "repr" = none) : FnOkG P w K mg base CX0 3 f fd ["_law_made"] (spT K (dp1 (fun o : MOb => Fn o.m) fun o => (shpA o.m).dat.shown)) := by
  refine okTG F sc_l_shape (fun ss R h => ?_) (fun cdv A outer s H E gu hr => ⟨_, (pss_one (ps_ret (pe_callB (call_reprD K gu hr) rfl m_repr (by decide +kernel) (pa_cons (pe_tup (pa_cons (pe_fldK K (pv 0) rfl) (pa_cons (pe_fldK K (pv 0) rfl) (pa_cons (pe_fldK K (pv 0) rfl) (pa_cons (pe_fldK K (pv 0) rfl) (pa_cons (pe_fldK K (pv 0) rfl) (pa_cons (pe_fldK K (pv 0) rfl) (pa_nil)))))))) (pa_nil))))), fun B ss R h => ?_⟩)
  · obtain ⟨x, rfl, _⟩ := h
    rfl
  · obtain ⟨o, rfl, g, q⟩ := h
    have g : Fn o.m := g
    show DS K B _ [.val o] _
    have dv : DE K B (tVar 0) [.val o] o := d_var rfl
    refine ds_ret (d_reprA (x := shpA o.m) (k := 3) (d_tupA (xs := sixT o.m) (dl_cons (a := AV.str o.m.n) (d_avS (d_mname MC dv)) (dl_cons (a := tupd (strsA o.m.i)) (d_av (α := U Str) (d_minlets MC dv)) (dl_cons (a := tupd (strsA o.m.o)) (d_av (α := U Str) (d_moutlets MC dv)) (dl_cons (a := tupd (strsA o.m.s)) (d_av (α := U Str) (d_mstations MC dv)) (dl_cons (a := tupd (linksA o.m.l)) (d_av (α := U Lk) (d_mlinks MC dv)) (dl_cons (a := tupd (callsA o.m.c)) (d_av (α := U (Str × Str)) (d_mcalls MC dv)) dl_nil)))))) (by show 6 ≤ BIG; decide)) g.shw.i g.shw.g (by decide) g.shw.w) q
end
end WW
set_option Elab.async false
set_option linter.all false
set_option maxRecDepth 100000
set_option maxHeartbeats 4000000
namespace WW
open PySem PySem.Spec PyProof.Rows L2
abbrev QX : Str := "qx"
abbrev ZZ : Str := "zz"
def spotQ (m : DMd) (j : Nat) : List Str := if j = 1 then m.i else if j = 2 then m.o else m.s
def setQ (m : DMd) (j : Nat) (q : List Str) : DMd := if j = 1 then { m with i := q } else if j = 2 then { m with o := q } else { m with s := q }
def bentA (m : DMd) : List DMd := [{ m with n := ZZ }, { m with c := m.c ++ [(QX, ZZ)] }]
def bentS (m : DMd) (j : Nat) : List DMd := [setQ m j (spotQ m j ++ [QX])] ++ (if 1 < (spotQ m j).length then [setQ m j (spotQ m j).reverse] else [])
def bentM (m : DMd) (n : Nat) : List DMd := bentA m ++ (List.range n).flatMap fun j => bentS m (j + 1)
structure UnOk (m : DMd) : Prop where
  f : Fn m
  q : QX ∉ m.all
  l : m.all.length ≤ 90
  z : m.n ≠ ZZ
theorem there_mono {z : Str} {ns ls ns' ls' : List Str} (h : thereB (.str z) ns ls = true) (h1 : ∀ y ∈ ns, y ∈ ns') (h2 : ∀ y ∈ ls, y ∈ ls') : thereB (.str z) ns' ls' = true := by
  have h : ((true && endB z) && (if decide ((Txt.partition z ".").2.1 = dot) = true then decide ((Txt.partition z ".").1 ∈ ls) else decide (z ∈ ns))) = true := h
  show ((true && endB z) && (if decide ((Txt.partition z ".").2.1 = dot) = true then decide ((Txt.partition z ".").1 ∈ ls') else decide (z ∈ ns'))) = true
  rw [Bool.and_eq_true] at h ⊢
  refine ⟨h.1, ?_⟩
  have q := h.2
  split
  · rename_i c
    rw [if_pos c] at q
    exact decide_eq_true (h2 _ (of_decide_eq_true q))
  · rename_i c
    rw [if_neg c] at q
    exact decide_eq_true (h1 _ (of_decide_eq_true q))
theorem Fn.alt {m m' : DMd} (g : Fn m) (pm : m'.all.Perm m.all ∨ m'.all.Perm (QX :: m.all)) (q : QX ∉ m.all) (l : m.all.length ≤ 90) (hn : nameB m'.n = true) (hc : ∀ t ∈ m'.c, nameB t.2 = true) (hl : m'.l = m.l) (h1 : ∀ y ∈ m.i ++ m.s, y ∈ m'.i ++ m'.s) (h2 : ∀ y ∈ m.s ++ m.o, y ∈ m'.s ++ m'.o) (h3 : ∀ y ∈ m.labels, y ∈ m'.labels) : Fn m' := by
  have nd : m'.all.Nodup ∧ (∀ z ∈ m'.all, nameB z = true) ∧ m'.all.length ≤ 100 := by
    rcases pm with p | p
    · exact ⟨p.nodup_iff.mpr g.nd, fun z hz => g.al z (p.mem_iff.mp hz), by rw [p.length_eq]; omega⟩
    · refine ⟨p.nodup_iff.mpr (List.nodup_cons.mpr ⟨q, g.nd⟩), fun z hz => ?_, by rw [p.length_eq, List.length_cons]; omega⟩
      rcases List.mem_cons.mp (p.mem_iff.mp hz) with rfl | hz
      · decide +kernel
      · exact g.al z hz
  refine ⟨hn, nd.1, nd.2.1, nd.2.2, hc, ?_, ?_, ?_, ?_⟩
  · rw [hl]
    exact fun t ht => there_mono (g.la t ht) h1 h3
  · rw [hl]
    exact fun t ht => there_mono (g.lb t ht) h2 h3
  · rw [hl]
    exact g.lc
  · rw [hl]
    exact g.ll
theorem rev_ne {l : List Str} (nd : l.Nodup) (h : 1 < l.length) : l.reverse ≠ l := fun e => by
  match l, nd, h, e with
  | a :: r, nd, h, e =>
    have r0 : r ≠ [] := fun z => by rw [z] at h; simp at h
    have e1 : (a :: r).reverse.head? = (a :: r).head? := by rw [e]
    rw [List.head?_reverse, List.head?_cons, List.getLast?_cons_of_ne_nil r0] at e1
    exact (List.nodup_cons.mp nd).1 (List.mem_of_getLast? e1)
theorem app_ne {α : Type} {l : List α} {x : α} : l ++ [x] ≠ l := fun e => by
  have := congrArg List.length e
  simp at this
theorem UnOk.fn {m : DMd} (g : UnOk m) : ∀ m' ∈ bentM m 3, Fn m' ∧ m' ≠ m := by
  have f := g.f
  have spot : ∀ j, ∀ m' ∈ bentS m (j + 1), Fn m' ∧ m' ≠ m := by
    intro j m' hm
    have key : (Fn (setQ m (j + 1) (spotQ m (j + 1) ++ [QX])) ∧ setQ m (j + 1) (spotQ m (j + 1) ++ [QX]) ≠ m) ∧ (1 < (spotQ m (j + 1)).length → Fn (setQ m (j + 1) (spotQ m (j + 1)).reverse) ∧ setQ m (j + 1) (spotQ m (j + 1)).reverse ≠ m) := by
      obtain ⟨p1, p2, p3, _⟩ := f.parts
      unfold setQ spotQ
      by_cases c1 : j + 1 = 1
      · rw [if_pos c1, if_pos c1, if_pos c1]
        refine ⟨⟨f.alt (.inr ?_) g.q g.l f.n f.cn rfl (fun y hy => ?_) (fun y hy => hy) (fun y hy => hy), fun e => app_ne (congrArg DMd.i e)⟩, fun h => ⟨f.alt (.inl ?_) g.q g.l f.n f.cn rfl (fun y hy => ?_) (fun y hy => hy) (fun y hy => hy), fun e => rev_ne p1 h (congrArg DMd.i e)⟩⟩
        · show (m.i ++ [QX] ++ m.o ++ m.s ++ m.labels).Perm (QX :: (m.i ++ m.o ++ m.s ++ m.labels))
          simp only [List.append_assoc, List.singleton_append]
          exact List.perm_middle
        · rcases List.mem_append.mp hy with hy | hy
          · exact List.mem_append_left _ (List.mem_append_left _ hy)
          · exact List.mem_append_right _ hy
        · show (m.i.reverse ++ m.o ++ m.s ++ m.labels).Perm (m.i ++ m.o ++ m.s ++ m.labels)
          exact ((List.reverse_perm m.i).append_right m.o |>.append_right m.s).append_right m.labels
        · rcases List.mem_append.mp hy with hy | hy
          · exact List.mem_append_left _ (List.mem_reverse.mpr hy)
          · exact List.mem_append_right _ hy
      · rw [if_neg c1, if_neg c1, if_neg c1]
        by_cases c2 : j + 1 = 2
        · rw [if_pos c2, if_pos c2, if_pos c2]
          refine ⟨⟨f.alt (.inr ?_) g.q g.l f.n f.cn rfl (fun y hy => hy) (fun y hy => ?_) (fun y hy => hy), fun e => app_ne (congrArg DMd.o e)⟩, fun h => ⟨f.alt (.inl ?_) g.q g.l f.n f.cn rfl (fun y hy => hy) (fun y hy => ?_) (fun y hy => hy), fun e => rev_ne p2 h (congrArg DMd.o e)⟩⟩
          · show (m.i ++ (m.o ++ [QX]) ++ m.s ++ m.labels).Perm (QX :: (m.i ++ m.o ++ m.s ++ m.labels))
            simp only [List.append_assoc, List.singleton_append]
            rw [← List.append_assoc, ← List.append_assoc m.i m.o]
            exact List.perm_middle
          · rcases List.mem_append.mp hy with hy | hy
            · exact List.mem_append_left _ hy
            · exact List.mem_append_right _ (List.mem_append_left _ hy)
          · show (m.i ++ m.o.reverse ++ m.s ++ m.labels).Perm (m.i ++ m.o ++ m.s ++ m.labels)
            exact (((List.reverse_perm m.o).append_left m.i).append_right m.s).append_right m.labels
          · rcases List.mem_append.mp hy with hy | hy
            · exact List.mem_append_left _ hy
            · exact List.mem_append_right _ (List.mem_reverse.mpr hy)
        · rw [if_neg c2, if_neg c2, if_neg c2]
          refine ⟨⟨f.alt (.inr ?_) g.q g.l f.n f.cn rfl (fun y hy => ?_) (fun y hy => ?_) (fun y hy => hy), fun e => app_ne (congrArg DMd.s e)⟩, fun h => ⟨f.alt (.inl ?_) g.q g.l f.n f.cn rfl (fun y hy => ?_) (fun y hy => ?_) (fun y hy => hy), fun e => rev_ne p3 h (congrArg DMd.s e)⟩⟩
          · show (m.i ++ m.o ++ (m.s ++ [QX]) ++ m.labels).Perm (QX :: (m.i ++ m.o ++ m.s ++ m.labels))
            have e1 : m.i ++ m.o ++ (m.s ++ [QX]) ++ m.labels = (m.i ++ m.o ++ m.s) ++ QX :: m.labels := by simp only [List.append_assoc, List.singleton_append]
            rw [e1]
            exact List.perm_middle
          · rcases List.mem_append.mp hy with hy | hy
            · exact List.mem_append_left _ hy
            · exact List.mem_append_right _ (List.mem_append_left _ hy)
          · rcases List.mem_append.mp hy with hy | hy
            · exact List.mem_append_left _ (List.mem_append_left _ hy)
            · exact List.mem_append_right _ hy
          · show (m.i ++ m.o ++ m.s.reverse ++ m.labels).Perm (m.i ++ m.o ++ m.s ++ m.labels)
            exact ((List.reverse_perm m.s).append_left (m.i ++ m.o)).append_right m.labels
          · rcases List.mem_append.mp hy with hy | hy
            · exact List.mem_append_left _ hy
            · exact List.mem_append_right _ (List.mem_reverse.mpr hy)
          · rcases List.mem_append.mp hy with hy | hy
            · exact List.mem_append_left _ (List.mem_reverse.mpr hy)
            · exact List.mem_append_right _ hy
    unfold bentS at hm
    rcases List.mem_append.mp hm with hm | hm
    · rw [List.mem_singleton.mp hm]
      exact key.1
    · by_cases c : 1 < (spotQ m (j + 1)).length
      · rw [if_pos c] at hm
        rw [List.mem_singleton.mp hm]
        exact key.2 c
      · rw [if_neg c] at hm
        cases hm
  intro m' hm
  unfold bentM at hm
  rcases List.mem_append.mp hm with hm | hm
  · unfold bentA at hm
    simp only [List.mem_cons, List.mem_nil_iff, or_false] at hm
    rcases hm with rfl | rfl
    · exact ⟨f.alt (.inl (List.Perm.refl _)) g.q g.l (show nameB ZZ = true by decide +kernel) f.cn rfl (fun y hy => hy) (fun y hy => hy) (fun y hy => hy), fun e => g.z (congrArg DMd.n e).symm⟩
    · refine ⟨f.alt (.inr ?_) g.q g.l f.n (fun t ht => ?_) rfl (fun y hy => hy) (fun y hy => hy) (fun y hy => ?_), fun e => app_ne (congrArg DMd.c e)⟩
      · show (m.i ++ m.o ++ m.s ++ (m.c ++ [(QX, ZZ)]).map (·.1)).Perm (QX :: (m.i ++ m.o ++ m.s ++ m.labels))
        rw [List.map_append]
        show (m.i ++ m.o ++ m.s ++ (m.labels ++ [QX])).Perm _
        rw [← List.append_assoc]
        exact List.perm_append_comm
      · rcases List.mem_append.mp (show t ∈ m.c ++ [(QX, ZZ)] from ht) with ht | ht
        · exact f.cn t ht
        · rw [List.mem_singleton.mp ht]
          decide +kernel
      · show y ∈ (m.c ++ [(QX, ZZ)]).map (·.1)
        rw [List.map_append]
        exact List.mem_append_left _ hy
  · obtain ⟨j, hj, hm⟩ := List.mem_flatMap.mp hm
    exact spot j m' hm
theorem six_spot {m : DMd} : ∀ j, 1 ≤ j → j ≤ 3 → (six m)[j]? = some (strsA (spotQ m j)) ∧ ∀ q, (six m).take j ++ [strsA q] ++ (six m).drop (j + 1) = six (setQ m j q) := fun j h1 h3 => by
  match j, h1, h3 with
  | 1, _, _ => exact ⟨rfl, fun q => rfl⟩
  | 2, _, _ => exact ⟨rfl, fun q => rfl⟩
  | 3, _, _ => exact ⟨rfl, fun q => rfl⟩
theorem bent_len {m : DMd} (j : Nat) : (bentS m j).length ≤ 2 := by
  unfold bentS
  split <;> simp
abbrev sixL (m : DMd) : L AV := six m
def dpUnl : List Slot → (Slot → Prop) → Prop := fun ss R => ∃ m : DMd, ss = [.val m, .val (MOb.mk m)] ∧ UnOk m ∧ R (.val true)
section
variable {P : Program} {w : World} {K : PySem.W.Frag} {mg : Str → Option Value} {base : Heap} {f : Addr} {fd : FuncData}
abbrev N_l_is_unlike_others : List Str := ["_law_module_here", "_law_made", "_law_some", "_law_bent", "_law_spot", "_law_one", "_law_other", "_law_word"]
theorem sc_l_is_unlike_others : FnScope N_l_is_unlike_others ["_law_module_here", "_law_made"] (defScope s_l_is_unlike_others) := ⟨rfl, rfl, rfl, by decide +kernel, rfl, by decide +kernel, by decide +kernel⟩
theorem ok_lunl (F : FnP K "_law_is_unlike_others" s_l_is_unlike_others f fd) (MC : ModC K (He.ga K "Module")) (T : TyC K (He.ga K "Module")) (m_len : mg "len" = none) (gX_Module : MkAtX P w K mg base 5 "Module" ["self", "name", "inlets", "outlets", "stations", "links", "calls"] (spInitMod K (He.ga K "Module") (He.ga K "InvalidModule")) [])
    (g_meq : EqAtC P w K mg base CX0 7 (He.ga K "Module") ["self", "other"] (spMEq K)) : FnOk P w K mg base CX0 10 f fd ["_law_module_here", "_law_made"] (spT K dpUnl) := by
  refine okT F sc_l_is_unlike_others (fun ss R h => ?_) (fun cdv A outer s H E hr => ⟨_, (pss_cons (ps_setLc (i := 2) (own := [("_law_word", 7)]) rfl sc_l_is_unlike_others.nd rfl rfl (sw_true rfl rfl rfl (by decide +kernel)) (pi_seqK K (pe_tup (pa_cons (pe_str) (pa_cons (pe_str) (pa_cons (pe_str) (pa_cons (pe_str) (pa_cons (pe_str) (pa_cons (pe_str) (pa_nil))))))))) (blkOk_by (N := N_l_is_unlike_others) (sc := defScope s_l_is_unlike_others) (by decide +kernel)) (fun _ _ _ _ _ => pg_name (i := 7) sc_l_is_unlike_others.nd rfl (.inl rfl)) (fun _ _ _ _ _ => pts_nil) (fun _ _ _ _ _ => pe_dget (hu_of hr) (pv 0) (pv 7) (fun _ _ => rfl)))
 (pss_cons (ps_set (i := 3) sc_l_is_unlike_others.nd rfl (.inl rfl) (pe_lst (pa_cons (pe_op op_cat (pe_lst (pa_cons (pe_str) (pa_nil))) (pe_slice (sl_sqK K) (pv 2) (po_some (pe_int)) (po_none))) (pa_cons (pe_op op_cat (pe_slice (sl_sqK K) (pv 2) (po_none) (po_some (pe_int))) (pe_lst (pa_cons (pe_op op_cat (pe_ix (ix_sqK K) (pv 2) (pe_int) (fun _ _ => rfl)) (pe_lst (pa_cons (pe_tup (pa_cons (pe_str) (pa_cons (pe_str) (pa_nil)))) (pa_nil)))) (pa_nil)))) (pa_nil)))))
 (pss_cons (ps_for PassesOwn.never rfl (pi_seqK K (pe_tup (pa_cons (pe_int) (pa_cons (pe_int) (pa_cons (pe_int) (pa_nil)))))) (pg_name (i := 4) sc_l_is_unlike_others.nd rfl (.inl rfl)) (pss_cons (ps_expr (pe_bmK K PySem.F.plainAttrs_list PySem.F.slot_list_append PySem.F.type_list_append mt_append (pv 3) (pa_cons (pe_op op_cat (pe_op op_cat (pe_slice (sl_sqK K) (pv 2) (po_none) (po_some (pv 4))) (pe_lst (pa_cons (pe_op op_cat (pe_ix (ix_sqK K) (pv 2) (pv 4) (fun _ _ => rfl)) (pe_lst (pa_cons (pe_str) (pa_nil)))) (pa_nil)))) (pe_slice (sl_sqK K) (pv 2) (po_some (pe_op op_add (pv 4) (pe_int))) (po_none))) (pa_nil))))
 (pss_one (ps_if (pt_cmpR op_gt (pe_callB (call_lenK K) rfl m_len (by decide +kernel) (pa_cons (pe_ix (ix_sqK K) (pv 2) (pv 4) (fun _ _ => rfl)) (pa_nil))) (pe_int) (nomark _)) (pss_one (ps_expr (pe_bmK K PySem.F.plainAttrs_list PySem.F.slot_list_append PySem.F.type_list_append mt_append (pv 3) (pa_cons (pe_op op_cat (pe_op op_cat (pe_slice (sl_sqK K) (pv 2) (po_none) (po_some (pv 4))) (pe_lst (pa_cons (pe_revS K (pe_ix (ix_sqK K) (pv 2) (pv 4) (fun _ _ => rfl))) (pa_nil)))) (pe_slice (sl_sqK K) (pv 2) (po_some (pe_op op_add (pv 4) (pe_int))) (po_none))) (pa_nil))))) (pss_nil)))))
 (pss_cons (ps_for PassesOwn.never rfl (pi_seqK K (pv 3)) (pg_name (i := 5) sc_l_is_unlike_others.nd rfl (.inl rfl)) (pss_cons (ps_set (i := 6) sc_l_is_unlike_others.nd rfl (.inl rfl) (pe_mkrX (x := "Module") K gX_Module takes_no hr rfl (pa_cons (pe_ix (ix_sqK K) (pv 5) (pe_int) (fun _ _ => rfl)) (pa_cons (pe_ix (ix_sqK K) (pv 5) (pe_int) (fun _ _ => rfl)) (pa_cons (pe_ix (ix_sqK K) (pv 5) (pe_int) (fun _ _ => rfl)) (pa_cons (pe_ix (ix_sqK K) (pv 5) (pe_int) (fun _ _ => rfl)) (pa_cons (pe_ix (ix_sqK K) (pv 5) (pe_int) (fun _ _ => rfl)) (pa_cons (pe_ix (ix_sqK K) (pv 5) (pe_int) (fun _ _ => rfl)) (pa_nil)))))))))
 (pss_one (ps_if (PW.pt (pw_or (pt_cmpR (op_eqO K g_meq hr) (pv 6) (pv 1) (nomark _)) (pw_or1 (pt_cmpR (op_eqO K g_meq hr) (pv 1) (pv 6) (nomark _))))) (pss_one (ps_ret (pe_bl))) (pss_nil)))))
 (pss_one (ps_ret (pe_bl))))))), fun B ss R h => ?_⟩)
  · obtain ⟨m, rfl, _⟩ := h
    rfl
  · obtain ⟨m, rfl, g, q⟩ := h
    have b18 : ∀ {n : Nat}, n ≤ 100000 → n ≤ BIG := fun h => Nat.le_trans h (by decide)
    have gl := g.l
    obtain ⟨s1, s2, s3, s4⟩ := g.f.sz
    show DS K B _ [.val m, .val (MOb.mk m), .no, .no, .no, .no, .no, .no] _
    refine dq_asgI (δ := L AV) (six m) (DE.is (DO.l (do_map (fun x => (m.dc.get x).getD .non) (di_seq (xs := W6) (d_Uq (d_tupU (dl_cons d_str (dl_cons d_str (dl_cons d_str (dl_cons d_str (dl_cons d_str (dl_cons d_str dl_nil)))))) (by decide)))) (by decide) fun x hx => ⟨_, _, dg_name, by simp, d_getD (d := m.dc) (d_dc (d_var rfl)) (d_var rfl) (by obtain ⟨v, hv⟩ := six_get (m := m) x hx; rw [hv]; rfl)⟩)) six_map) ?_
    show DS K B _ [.val m, .val (MOb.mk m), .val (show L AV from six m), .no, .no, .no, .no, .no] _
    have ds : ∀ {ρ : List Slot}, ρ[2]? = some (.val (show L AV from six m)) → DE K B (tVar 2) ρ (show L AV from six m) := fun h => d_var h
    have six6 : ∀ m' : DMd, (six m').length ≤ BIG := fun m' => by show 6 ≤ BIG; decide
    refine dq_asgO (α := L AV) (xs := (bentA m).map sixL) (do_lst (dl_cons (a := (show L AV from six { m with n := ZZ })) (DO.l (do_cat (xs := [AV.str ZZ]) (ys := (six m).drop 1) (DO.l (do_lst (dl_cons (d_avS d_str) dl_nil) (by show 1 ≤ BIG; decide))) ((DO.l (do_slice (xs := six m) (ds rfl) (dp_some d_int) dp_none)).is (cutA_drop (t := 1))) (by show 1 + 5 ≤ BIG; decide)))
      (dl_cons (a := (show L AV from six { m with c := m.c ++ [(QX, ZZ)] })) (DO.l (do_cat (xs := (six m).take 5) (ys := [callsA (m.c ++ [(QX, ZZ)])]) ((DO.l (do_slice (xs := six m) (ds rfl) dp_none (dp_some d_int))).is (cutA_take (t := 5))) (DO.l (do_lst (dl_cons (d_av (α := L (Str × Str)) (DO.l (do_cat (xs := m.c) (ys := [(QX, ZZ)]) (d_va (α := L (Str × Str)) (d_ix (xs := six m) (x := callsA m.c) (d_Lq (ds rfl)) d_int rfl)) (DO.l (do_lst (dl_cons (d_pair d_str d_str) dl_nil) (by show 1 ≤ BIG; decide))) (b18 (by show m.c.length + 1 ≤ _; omega))))) dl_nil) (by show 1 ≤ BIG; decide))) (by show 5 + 1 ≤ BIG; decide))) dl_nil)) (by show 2 ≤ BIG; decide)) ?_
    show DS K B _ [.val m, .val (MOb.mk m), .val (show L AV from six m), .own (α := L AV) ((bentM m 0).map sixL), .no, .no, .no, .no] _
    have bl : ∀ j, j ≤ 3 → (bentM m j).length ≤ 8 := fun j hj => by
      unfold bentM
      rw [List.length_append]
      have h0 : (bentA m).length = 2 := rfl
      have h1 := bent_len (m := m) 1
      have h2 := bent_len (m := m) 2
      have h3 := bent_len (m := m) 3
      have : ((List.range j).flatMap fun j => bentS m (j + 1)).length ≤ 6 := by
        match j, hj with
        | 0, _ => simp
        | 1, _ => show (bentS m 1 ++ []).length ≤ 6; rw [List.append_nil]; omega
        | 2, _ => show (bentS m 1 ++ (bentS m 2 ++ [])).length ≤ 6; rw [List.append_nil, List.length_append]; omega
        | 3, _ => show (bentS m 1 ++ (bentS m 2 ++ (bentS m 3 ++ []))).length ≤ 6; rw [List.append_nil, List.length_append, List.length_append]; omega
      omega
    refine dq_for (xs := ([1, 2, 3] : List Int)) (di_seq (d_Uq (d_tupU (dl_cons d_int (dl_cons d_int (dl_cons d_int dl_nil))) (show 3 ≤ BIG by decide)))) (fun i r => ∃ s4 : Slot, r = [.val m, .val (MOb.mk m), .val (show L AV from six m), .own (α := L AV) ((bentM m i).map sixL), s4, .no, .no, .no]) ⟨.no, rfl⟩ (fun i x r hx hI => ?_) fun r hI => ?_
    · obtain ⟨s4', rfl⟩ := hI
      have hi : i < 3 := (List.getElem?_eq_some_iff.mp hx).1
      have ex : x = ((i + 1 : Nat) : Int) := by
        match i, hx with
        | 0, hx => cases hx; rfl
        | 1, hx => cases hx; rfl
        | 2, hx => cases hx; rfl
      subst ex
      obtain ⟨sp1, sp2⟩ := six_spot (m := m) (i + 1) (by omega) (by omega)
      have eb : bentM m (i + 1) = bentM m i ++ bentS m (i + 1) := by
        unfold bentM
        rw [List.range_succ, List.flatMap_append, ← List.append_assoc]
        simp
      have ql : (spotQ m (i + 1)).length ≤ 100 := by
        unfold spotQ
        split
        · exact s1
        · split
          · exact s2
          · exact s3
      have bi := bl i (by omega)
      have bm1 : ((bentM m i).map sixL).length < BIG := by
        rw [List.length_map]
        exact Nat.lt_of_le_of_lt bi (by decide)
      have bm2 : ((bentM m i).map sixL ++ [sixL (setQ m (i + 1) (spotQ m (i + 1) ++ [QX]))]).length < BIG := by
        rw [List.length_append, List.length_map]
        exact Nat.lt_of_le_of_lt (Nat.add_le_add_right bi 1) (by decide)
      refine ⟨_, _, dg_name, ?_⟩
      show DS K B _ [.val m, .val (MOb.mk m), .val (show L AV from six m), .own (α := L AV) ((bentM m i).map sixL), .val ((i + 1 : Nat) : Int), .no, .no, .no] _
      have dq : ∀ {ρ : List Slot}, ρ[2]? = some (.val (show L AV from six m)) → ρ[4]? = some (.val ((i + 1 : Nat) : Int)) → DE K B (tOp (rIxQ K) (tVar 2) (tVar 4)) ρ (show L Str from spotQ m (i + 1)) := fun h1 h2 => d_va (α := L Str) (d_ix (xs := six m) (x := strsA (spotQ m (i + 1))) (d_Lq (ds h1)) (d_var h2) (atI_nat sp1))
      have one : ∀ {ρ : List Slot} {te : TE} {q' : List Str}, ρ[2]? = some (.val (show L AV from six m)) → ρ[4]? = some (.val ((i + 1 : Nat) : Int)) → DE K B te ρ (show L Str from q') → DE K B (tOp rCat (tOp rCat (tSl (rSlQ K) (tVar 2) tNoPart (tPart (tVar 4))) (tLst (tCons te tNil))) (tSl (rSlQ K) (tVar 2) (tPart (tOp (rI0 fun i j => .int (i + j)) (tVar 4) (tC (.int 1)))) tNoPart)) ρ (show L AV from six (setQ m (i + 1) q')) := fun {ρ te q'} h1 h2 h => by
        have := DO.l (do_cat (xs := (six m).take (i + 1) ++ [strsA q']) (ys := (six m).drop (i + 1 + 1)) (DO.l (do_cat (xs := (six m).take (i + 1)) (ys := [strsA q']) ((DO.l (do_slice (xs := six m) (ds h1) dp_none (dp_some (d_var h2)))).is (cutA_take (t := i + 1))) (DO.l (do_lst (dl_cons (a := strsA q') (d_av (α := L Str) h) dl_nil) (by show 1 ≤ BIG; decide))) (b18 (by rw [List.length_take]; show min _ 6 + 1 ≤ _; omega)))) ((DO.l (do_slice (xs := six m) (ds h1) (dp_some ((d_add (d_var h2) d_int).is (show ((i + 1 : Nat) : Int) + 1 = ((i + 1 + 1 : Nat) : Int) by omega))) dp_none)).is (cutA_drop (t := i + 1 + 1))) (b18 (by rw [List.length_append, List.length_take, List.length_drop]; show min _ 6 + 1 + (6 - _) ≤ _; omega)))
        exact DE.is this (sp2 q')
      refine ds_seq (ds_append (α := L AV) (a := (show L AV from six (setQ m (i + 1) (spotQ m (i + 1) ++ [QX])))) rfl (one rfl rfl (DO.l (do_cat (xs := spotQ m (i + 1)) (ys := [QX]) (dq rfl rfl) (DO.l (do_lst (dl_cons d_str dl_nil) (by show 1 ≤ BIG; decide))) (b18 (by show (spotQ m (i + 1)).length + 1 ≤ _; omega))))) bm1 ?_)
      show DS K B _ [.val m, .val (MOb.mk m), .val (show L AV from six m), .own (α := L AV) ((bentM m i).map sixL ++ [sixL (setQ m (i + 1) (spotQ m (i + 1) ++ [QX]))]), .val ((i + 1 : Nat) : Int), .no, .no, .no] _
      refine ds_if (c := decide (1 < (spotQ m (i + 1)).length)) (DT.is (dt_test (d_gt (d_len (d_Lq (dq rfl rfl))) d_int)) (decide_eq_decide.mpr (show (1 : Int) < (((spotQ m (i + 1)).length : Nat) : Int) ↔ 1 < (spotQ m (i + 1)).length by omega))) (fun c => ?_) (fun c => ?_)
      · have c := of_decide_eq_true c
        refine ds_append (α := L AV) (a := (show L AV from six (setQ m (i + 1) (spotQ m (i + 1)).reverse))) rfl (one rfl rfl (DO.l (do_rev (dq rfl rfl)))) bm2 ⟨.val ((i + 1 : Nat) : Int), ?_⟩
        have e : (bentM m (i + 1)).map sixL = (bentM m i).map sixL ++ [sixL (setQ m (i + 1) (spotQ m (i + 1) ++ [QX]))] ++ [sixL (setQ m (i + 1) (spotQ m (i + 1)).reverse)] := by
          rw [eb]
          unfold bentS
          rw [if_pos c, List.map_append, List.map_append, ← List.append_assoc]
          rfl
        rw [e]
        rfl
      · have c := of_decide_eq_false c
        refine ds_next ⟨.val ((i + 1 : Nat) : Int), ?_⟩
        have e : (bentM m (i + 1)).map sixL = (bentM m i).map sixL ++ [sixL (setQ m (i + 1) (spotQ m (i + 1) ++ [QX]))] := by
          rw [eb]
          unfold bentS
          rw [if_neg c, List.append_nil, List.map_append]
          rfl
        rw [e]
    · obtain ⟨s4', rfl⟩ := hI
      have b3 := bl 3 (by omega)
      have gf := g.fn
      show DS K B _ [.val m, .val (MOb.mk m), .val (show L AV from six m), .own (α := L AV) ((bentM m 3).map sixL), s4', .no, .no, .no] _
      generalize bentM m 3 = bs at gf b3
      refine ds_frz (n := 3) rfl ?_
      show DS K B _ [.val m, .val (MOb.mk m), .val (show L AV from six m), .val (show L (L AV) from bs.map sixL), s4', .no, .no, .no] _
      refine dq_for (α := L AV) (xs := bs.map sixL) (di_seq (d_Lq (d_var (n := 3) (a := (show L (L AV) from bs.map sixL)) rfl))) (fun i r => ∃ s5 s6 : Slot, r = [.val m, .val (MOb.mk m), .val (show L AV from six m), .val (show L (L AV) from bs.map sixL), s4', s5, s6, .no]) ⟨.no, .no, rfl⟩ (fun i x r hx hI => ?_) fun r hI => ?_
      · obtain ⟨s5, s6, rfl⟩ := hI
        obtain ⟨m', hm', rfl⟩ := List.mem_map.mp (List.mem_of_getElem? hx)
        obtain ⟨fm, nm⟩ := gf m' hm'
        refine ⟨_, _, dg_name, ?_⟩
        show DS K B _ [.val m, .val (MOb.mk m), .val (show L AV from six m), .val (show L (L AV) from bs.map sixL), s4', .val (show L AV from six m'), s6, .no] _
        have dx : ∀ {ρ : List Slot} {k : Nat} {a : AV}, ρ[5]? = some (.val (show L AV from six m')) → (six m')[k]? = some a → DE K B (tOp (rIxQ K) (tVar 5) (tC (.int ((k : Nat) : Int)))) ρ a := fun h1 h2 => d_ix (xs := six m') (d_Lq (d_var h1)) d_int (atI_nat h2)
        refine ds_seq (ds_asg (α := MOb) (a := MOb.mk m') (d_mkMod (g := m6L (six m')) (da_cons (a := AV.str m'.n) (dx (k := 0) rfl rfl) (da_cons (a := strsA m'.i) (dx (k := 1) rfl rfl) (da_cons (a := strsA m'.o) (dx (k := 2) rfl rfl) (da_cons (a := strsA m'.s) (dx (k := 3) rfl rfl) (da_cons (a := linksA m'.l) (dx (k := 4) rfl rfl) (da_cons (a := callsA m'.c) (dx (k := 5) rfl rfl) da_nil)))))) fm.md) ?_)
        show DS K B _ [.val m, .val (MOb.mk m), .val (show L AV from six m), .val (show L (L AV) from bs.map sixL), s4', .val (show L AV from six m'), .val (MOb.mk m'), .no] _
        have n1 : decide (modText m' = modText m) = false := decide_eq_false fun e => nm ((text_inj fm g.f).mp e)
        have n2 : decide (modText m = modText m') = false := decide_eq_false fun e => nm ((text_inj g.f fm).mp e).symm
        refine ds_if (c := false) (dt_or (b := false) (c := false) (DT.is (dt_test (d_eqMM MC T false (d_var (n := 6) (a := MOb.mk m') rfl) (d_var (n := 1) (a := MOb.mk m) rfl) fm.txt g.f.txt)) n1) fun _ => DT.is (dt_test (d_eqMM MC T false (d_var (n := 1) (a := MOb.mk m) rfl) (d_var (n := 6) (a := MOb.mk m') rfl) g.f.txt fm.txt)) n2) (fun h => nomatch h) fun _ => ds_next ⟨_, _, rfl⟩
      · obtain ⟨s5, s6, rfl⟩ := hI
        exact ds_ret d_bl q
end
end WW
set_option Elab.async false
set_option linter.all false
set_option maxRecDepth 100000
set_option maxHeartbeats 4000000
namespace WW
open PySem PySem.Spec PyProof.Rows L2
structure FnAtR (P : Program) (w : World) (K : PySem.W.Frag) (mg : Str → Option Value) (base : Heap) (CX : CXT) (k : Nat) (x : Str) (ps : List Str) (sp : Sp) : Prop where
  ex : ∃ fd, FnOk P w K mg base CX k (He.ga K x) fd ps sp ∧ KBn K fd ps 0 ps.reverse (fun us ws => us ++ ws.reverse) (fun vs zs => vs ++ zs.reverse)
  kp : PySem.W.keepIn K (.ref (He.ga K x)) = true
  g : mg x = some (.ref (He.ga K x))
theorem ArgsOk.app {K : PySem.W.Frag} {B : Addr → Prop} {H0 S H : Hp} : ∀ {vs ws : List V} {ss ts : List Slot}, ArgsOk K B H0 S H vs ss → ArgsOk K B H0 S H ws ts → ArgsOk K B H0 S H (vs ++ ws) (ss ++ ts)
  | _, _, _, _, .nil, h => h
  | _, _, _, _, .cons a b c, h => .cons a b (c.app h)
theorem ArgsOk.rev {K : PySem.W.Frag} {B : Addr → Prop} {H0 S H : Hp} : ∀ {vs : List V} {ss : List Slot}, ArgsOk K B H0 S H vs ss → ArgsOk K B H0 S H vs.reverse ss.reverse
  | _, _, .nil => .nil
  | _, _, .cons a b c => by
    rw [List.reverse_cons, List.reverse_cons]
    exact c.rev.app (.cons a b .nil)
end WW
set_option Elab.async false
set_option linter.all false
set_option maxRecDepth 100000
set_option maxHeartbeats 4000000
namespace WW
open PySem PySem.Spec PyProof.Rows L2
theorem ModOf.tup5 {m : DMd} (e : m.c = []) (h : ModOf (m6L (six m)) m) : ModOf ⟨.str m.n, strsA m.i, strsA m.o, strsA m.s, linksA m.l, .tup []⟩ m := by
  obtain ⟨h1, h2, h3, h4, h5, h6, h7, h8⟩ := h
  obtain ⟨n, i, o, s, c, l⟩ := m
  have e : c = [] := e
  subst e
  exact ⟨h1, h2, h3, h4, h5, rfl, ⟨h7.n, h7.i, h7.o, h7.s, h7.l, rfl⟩, h8⟩
structure FMd where
  m : DMd
instance : Enc FMd where
  rep K S v t := ∃ p v1 v2 v3 v4 v5, v = .ref p ∧ SqT K S p [v1, v2, v3, v4, v5] ∧ Enc.rep K S v1 t.m.n ∧ Enc.rep K S v2 (show L Str from t.m.i) ∧ Enc.rep K S v3 (show L Str from t.m.o) ∧ Enc.rep K S v4 (show L Str from t.m.s) ∧ Enc.rep K S v5 (show L Lk from t.m.l)
  mono e h := by
    obtain ⟨p, v1, v2, v3, v4, v5, r, hq, h1, h2, h3, h4, h5⟩ := h
    exact ⟨p, v1, v2, v3, v4, v5, r, Evl.ex_t e hq, Enc.mono e h1, Enc.mono e h2, Enc.mono e h3, Enc.mono e h4, Enc.mono e h5⟩
section
variable {K : PySem.W.Frag} {B : Addr → Prop} {ρ : List Slot} {te : TE} {t : TA}
theorem EmT.av {a : Addr} (h : EmT K a) (S : Hp) : AV.rep K S (.ref a) (.tup []) := by
  obtain ⟨o, n, h1, h2, h3⟩ := h.ex
  rw [AV.rep]
  exact ⟨Nat.zero_le _, a, [], rfl, .inr ⟨o, #[], n, h1, h2, h3, Nat.zero_le _, .nil⟩, by first | exact .nil | (rw [AV.reps]) | rfl⟩
def tApp1 (t : TA) (a : Addr) : TA := fun σ H Q => t σ H fun vs H' => Q (vs ++ [.ref a]) H'
theorem make_app {C a : Addr} {sp : Sp} {E : L2.St → XK} {t : TA} : tMakeS C sp [.ref a] E t = tMakeS C sp [] E (tApp1 t a) := by
  funext σ H Q
  show t σ H _ = t σ H _
  congr 1
  funext vs H1
  simp only [List.append_nil]
theorem da_app {t : TA} {a : Addr} {ss : List Slot} (h : DA K B t ρ ss) (e : EmT K a) : DA K B (tApp1 t a) ρ (ss ++ [.val (AV.tup [])]) := fun S0 H0 S H σ E Q q =>
  h S0 H0 S H σ E _ fun vs S1 H1 e1 r1 => q _ S1 H1 e1 (r1.app (.cons (e.av S1) rfl .nil))
theorem d_mkMod5 {a : Addr} {CI : Addr} {W : WX} {g : M6} {m : DMd} (e : EmT K a) (h : DA K B t ρ [.val g.n, .val g.i, .val g.o, .val g.s, .val g.l]) (gc : g.c = .tup []) (hg : ModOf g m) : DE K B (tMakeS (He.ga K "Module") (spInitMod K (He.ga K "Module") CI) [.ref a] (WE W) t) ρ (MOb.mk m) := by
  rw [make_app]
  refine d_mkMod (g := g) ?_ hg
  have := da_app h e
  rw [← gc] at this
  exact this
end
end WW
set_option Elab.async false
set_option linter.all false
set_option maxRecDepth 100000
set_option maxHeartbeats 4000000
namespace WW
open PySem PySem.Spec PyProof.Rows L2
def spLaw (K : PySem.W.Frag) : Sp := fun vs H Q _ => ∃ (a : Addr) (ns : List Int), vs = [.ref a] ∧ SqL K H a (ns.map V.int) ∧ ns.length ≤ 63 ∧ ∀ H', Q (.bl true) H'
theorem imp_law {K : PySem.W.Frag} (vs : List V) (H : Hp) (Q : VK) (E : XK) (h : spLaw K vs H Q E) : spT K (dp1 (fun x : Scr => x.ns.length ≤ 63) fun _ => true) vs H Q E := by
  obtain ⟨a, ns, rfl, hs, hl, q⟩ := h
  refine ⟨fun _ => False, H, [.val (Scr.mk ns)], fun s => s = .val true, Same.refl H, fun p hp => hp.elim, .cons ⟨a, rfl, hs⟩ rfl .nil, ⟨⟨ns⟩, rfl, hl, rfl⟩, fun s v S' H' hs e ok => ?_⟩
  cases hs
  cases (show v = .bl true from ok)
  exact q H'
theorem Good.ofH {n : Int} {ms : List DMd} (h : HouseOk n ms) {i : Nat} {m : DMd} (hm : ms[i]? = some m) : Good m (ms.take i) := by
  obtain ⟨h1, h2, _⟩ := h.all i m hm
  refine ⟨h1, (h.pre i ?_).ks.1, List.mem_of_getElem? h2, fun d hd => ?_⟩
  · exact Nat.le_of_lt (List.getElem?_eq_some_iff.mp hm).1
  · obtain ⟨j, hj, rfl⟩ := List.getElem_of_mem hd
    have e : (ms.take i)[j]? = some ((ms.take i)[j]) := List.getElem?_eq_getElem hj
    exact List.mem_of_getElem? (h.all j _ (take_at e).1).2.1
theorem Good.un {m : DMd} {ks : List DMd} (g : Good m ks) : UnOk m := by
  refine ⟨g.fn, fun h => ?_, by have := g.f.ok.ln; omega, fun e => ?_⟩
  · exact absurd (g.f.ok.al _ h) (by decide +kernel)
  · exact absurd (show ZZ ∈ NM by rw [← e]; exact g.n) (by decide +kernel)
def revL (m : DMd) : DMd := { m with l := m.l.reverse }
theorem Fn.rev {m : DMd} (g : Fn m) : Fn (revL m) :=
  ⟨g.n, g.nd, g.al, g.ln, g.cn, fun t ht => g.la t (List.mem_reverse.mp ht), fun t ht => g.lb t (List.mem_reverse.mp ht), fun t ht => g.lc t (List.mem_reverse.mp ht), by show m.l.reverse.length ≤ 100; rw [List.length_reverse]; exact g.ll⟩
theorem rev_iff {m : DMd} : revL m = m ↔ m.l = m.l.reverse := by
  constructor
  · intro h
    exact (congrArg DMd.l h).symm
  · intro h
    unfold revL
    rw [← h]
def W5 : List Str := ["inlets", "outlets", "stations", "links", "calls"]
def five (m : DMd) : List AV := [strsA m.i, strsA m.o, strsA m.s, linksA m.l, callsA m.c]
def fiveT (m : DMd) : List AV := [tupd (strsA m.i), tupd (strsA m.o), tupd (strsA m.s), tupd (linksA m.l), tupd (callsA m.c)]
theorem five_get {m : DMd} : ∀ x ∈ W5, ∃ v, m.dc.get x = some v ∧ v.isSeq = true ∧ v ∈ five m := fun x hx => by
  have : ∀ x ∈ W5, x = "inlets" ∨ x = "outlets" ∨ x = "stations" ∨ x = "links" ∨ x = "calls" := by decide +kernel
  rcases this x hx with rfl | rfl | rfl | rfl | rfl
  · exact ⟨strsA m.i, rfl, rfl, by simp [five]⟩
  · exact ⟨strsA m.o, rfl, rfl, by simp [five]⟩
  · exact ⟨strsA m.s, rfl, rfl, by simp [five]⟩
  · exact ⟨linksA m.l, rfl, rfl, by simp [five]⟩
  · exact ⟨callsA m.c, rfl, rfl, by simp [five]⟩
theorem five_map {m : DMd} : (W5.map fun x => tupd ((m.dc.get x).getD .non)) = fiveT m := rfl
theorem Fn.five {m : DMd} (g : Fn m) : ∀ v ∈ five m, v.items.length ≤ 100 := fun v hv => by
  obtain ⟨s1, s2, s3, s4⟩ := g.sz
  unfold WW.five at hv
  simp only [List.mem_cons, List.mem_nil_iff, or_false] at hv
  rcases hv with rfl | rfl | rfl | rfl | rfl
  · show (m.i.map AV.str).length ≤ 100; rw [List.length_map]; exact s1
  · show (m.o.map AV.str).length ≤ 100; rw [List.length_map]; exact s2
  · show (m.s.map AV.str).length ≤ 100; rw [List.length_map]; exact s3
  · show (List.map _ m.l).length ≤ 100; rw [List.length_map]; exact g.ll
  · show (List.map _ m.c).length ≤ 100; rw [List.length_map]; exact s4
def noneM : DMd := ⟨"a", [], [], [], [], []⟩
theorem none_fn : Fn noneM := by
  refine ⟨by decide +kernel, by decide +kernel, ?_, by decide +kernel, ?_, ?_, ?_, ?_, by decide +kernel⟩
  · intro z h
    cases (show z ∈ ([] : List Str) from h)
  · intro z h
    cases (show z ∈ ([] : List (Str × Str)) from h)
  · intro z h
    cases (show z ∈ ([] : List Lk) from h)
  · intro z h
    cases (show z ∈ ([] : List Lk) from h)
  · intro z h
    cases (show z ∈ ([] : List Lk) from h)
section
variable {K : PySem.W.Frag} {B : Addr → Prop} {ρ : List Slot} {ta tb te : TE} {tr : TA}
theorem d_othS {z : Str} (h : DE K B te ρ z) : DE K B te ρ (OthT.mk (.type "str")) := h.conv fun S v r => by cases r; exact .base (.str z)
theorem d_othI {i : Int} (h : DE K B te ρ i) : DE K B te ρ (OthT.mk (.type "int")) := h.conv fun S v r => by cases r; exact .base (.int i)
theorem d_othH {o : HOb} (HC : HouC K (He.ga K "House")) (T : TyC K (He.ga K "House")) (h : DE K B te ρ o) : DE K B te ρ (OthT.mk (.ref (He.ga K "House"))) := h.conv fun S v r => by
  obtain ⟨x, dx, v1, v2, v3, z, hx, _⟩ := r
  subst z
  exact .base (.ins hx HC.cls T.cl T.ge T.tk T.ob)
theorem d_house0 {W : WX} : DE K B (tMakeS (He.ga K "House") (spInitT K (He.ga K "House") (dpHouI K)) [] (WE W) (tCons (tLst tNil) tNil)) ρ (HOb.mk []) :=
  d_house (ms := []) (da_cons (α := L MOb) (a := ([] : List DMd).map MOb.mk) (DO.l (do_nil MOb)) da_nil) ⟨fun i m h => by simp at h, by decide⟩ ⟨fun i m h => by simp at h, List.nodup_nil, by decide⟩ (fun i m h => by simp at h) fun i m rg h => by simp at h
theorem d_mreadT {z : Str} {m : DMd} (hc : DE K B ta ρ (V.ref (He.ga K "Module"))) (h : DE K B tb ρ z) (g : Fn m) (e : z = modText m) : DE K B (ClX.tCMeth (He.ga K "Module") (spT K (dpMRead K)) E0 ta (tCons tb tNil)) ρ (MOb.mk m) := fun S0 H0 S H σ E Q q =>
  hc S0 H0 S H σ E _ fun v S1 H1 e1 r1 => by
    cases (show v = V.ref (He.ga K "Module") from r1)
    refine ⟨rfl, h S0 H0 S1 H1 σ (E.go e1) _ fun w S2 H2 e2 r2 => ?_⟩
    cases r2
    have E2 := (E.go e1).go e2
    subst e
    refine ⟨B, S2, [.val (V.ref (He.ga K "Module")), .val (modText m)], fun s => s = .val (MOb.mk m), E2.i, fun p hp => ⟨(E2.bx p hp).1, (E2.bx p hp).2.1⟩, .cons rfl rfl (.cons rfl rfl .nil), ⟨modText m, m, [], rfl, g.tin, g.read, g.md.tup, rfl⟩, fun s v S' H' es ex ok => ?_⟩
    subst es
    exact q v S' H' ((e1.trans e2).trans ex) ok
theorem ds_forIN {α : Type} {e_α : Enc α} {Φ : Post} {wi : TI} {g : TG} {ts : TS} {P : List α → Prop} (hi : DIN K B wi ρ P) (I : Nat → List Slot → Prop) (h0 : I 0 ρ)
    (hs : ∀ xs, P xs → ∀ i x ρ1, xs[i]? = some x → I i ρ1 → ∃ ρ2 js, DG K B g x ρ1 ρ2 js ∧ DS K B ts ρ2 ⟨I (i + 1), Φ.rt, Φ.nx, I (i + 1), Φ.px⟩) (hd : ∀ xs, P xs → ∀ ρ1, I xs.length ρ1 → Φ.nx ρ1) : DS K B (tFor wi g ts) ρ Φ := fun S0 H0 S H σ D E px n r b c => by
  refine hi S0 H0 S H σ E _ fun J xs S1 H1 pxs e1 y => ?_
  refine ⟨fun i m σ' Hc => m = xs.length - i ∧ i ≤ xs.length ∧ ∃ ρ' Sc, I i ρ' ∧ Same S1 Sc ∧ En K B S0 H0 Sc Hc σ' ρ', ⟨xs.length, by simp, Nat.zero_le _, ρ, S1, h0, Same.refl _, E.go e1⟩, ?_⟩
  rintro i m σ' Hc ⟨rfl, hle, ρ', Sc, hI, sm, E'⟩
  have yy := y Sc Hc sm E'.ext
  by_cases hlt : i < xs.length
  · refine .inr ?_
    obtain ⟨x, hx⟩ : ∃ x, xs[i]? = some x := ⟨_, List.getElem?_eq_getElem hlt⟩
    obtain ⟨hgo, hy⟩ := yy.1 i x hx
    refine ⟨hgo, fun σ2 H2 => ∃ ρ2 S2, I (i + 1) ρ2 ∧ Same S1 S2 ∧ En K B S0 H0 S2 H2 σ2 ρ2, fun σ2 H2 hp => ⟨xs.length - (i + 1), by omega, rfl, hlt, hp⟩, fun v H' hyl => ?_⟩
    obtain ⟨S2, e2, r2⟩ := hy v H' hyl
    obtain ⟨ρ2, js, hg, hb⟩ := hs xs pxs i x ρ' hx hI
    refine hg S0 H0 S2 H' σ' v (E'.go e2) r2 _ fun σ2 E2 _ _ => ?_
    refine hb S0 H0 S2 H' σ2 _ E2 px (fun ρ3 σ3 S3 H3 q s E3 => ⟨ρ3, S3, q, (sm.trans e2.s).trans s, E3⟩) r (fun ρ3 σ3 S3 H3 q s E3 => n ρ3 σ3 S3 H3 q (((e1.s.trans sm).trans e2.s).trans s) E3) (fun ρ3 σ3 S3 H3 q s E3 => ⟨ρ3, S3, q, (sm.trans e2.s).trans s, E3⟩)
  · refine .inl ⟨?_, ?_⟩
    · rw [show i = xs.length by omega]
      exact yy.2
    · rw [show i = xs.length by omega] at hI
      exact n ρ' σ' Sc Hc (hd xs pxs ρ' hI) (e1.s.trans sm) E'
end
def kp (m : DMd) : Str × MOb := (modText m, MOb.mk m)
end WW
set_option Elab.async false
set_option linter.all false
set_option maxRecDepth 100000
set_option maxHeartbeats 4000000
namespace WW
open PySem PySem.Spec PyProof.Rows L2
section
variable {P : Program} {w : World} {K : PySem.W.Frag} {mg : Str → Option Value} {base : Heap} {f : Addr} {fd : FuncData}
abbrev N_law : List Str := ["_law_script", "_law_k", "_law_box_here", "_law_kept", "_law_turn", "_law_text_here", "_law_made", "_law_module_here", "_law_lists", "_law_one", "_law_due", "_law_turned", "_law_word", "_law_other", "_law_mate"]
theorem sc_law : FnScope N_law ["_law_script"] (defScope s_law) := ⟨rfl, rfl, rfl, by decide +kernel, rfl, by decide +kernel, by decide +kernel⟩
theorem ok_law {d0 : Addr} (F : FnP K "law" s_law f fd) (eT : EmT K d0) (MC : ModC K (He.ga K "Module")) (T : TyC K (He.ga K "Module")) (HC : HouC K (He.ga K "House")) (TH : TyC K (He.ga K "House")) (a1 : ApT K (He.ga K "Module") (.type "str")) (a2 : ApT K (He.ga K "Module") (.type "int")) (a3 : ApT K (He.ga K "Module") (.ref (He.ga K "House")))
    (m_Module : mg "Module" = some (.ref (He.ga K "Module"))) (m_range : mg "range" = none) (m_max : mg "max" = none) (m_min : mg "min" = none) (m_len : mg "len" = none) (m_tuple : mg "tuple" = none) (m_list : mg "list" = none) (m_repr : mg "repr" = none) (m_str : mg "str" = none)
    (g_l_box : FnAt P w K mg base CX0 1 "_law_box" ["_law_script", "_law_k", "_law_own"] (spBox3 K))
    (g_l_house : FnAt P w K mg base CX0 5 "_law_house" ["_law_box_here", "_law_many"] (spT K (dpb1 (fun n : Int => 0 ≤ n ∧ n ≤ 3) (fun n (ms : L DMd) => HouseOk n ms))))
    (gX_Module : MkAtX P w K mg base 5 "Module" ["self", "name", "inlets", "outlets", "stations", "links", "calls"] (spInitMod K (He.ga K "Module") (He.ga K "InvalidModule")) [])
    (gX_Module5 : MkAtX P w K mg base 5 "Module" ["self", "name", "inlets", "outlets", "stations", "links", "calls"] (spInitMod K (He.ga K "Module") (He.ga K "InvalidModule")) [.ref d0])
    (gX_House : MkAtX P w K mg base 4 "House" ["self", "modules"] (spInitT K (He.ga K "House") (dpHouI K)) [])
    (g_l_shape : FnAtG P w K mg base CX0 3 "_law_shape" ["_law_made"] (spT K (dp1 (fun o : MOb => Fn o.m) fun o => (shpA o.m).dat.shown)))
    (g_l_text : FnAt P w K mg base CX0 1 "_law_text" ["_law_module_here"] (spT K (dp1 (fun m : DMd => TxtM m) modText)))
    (g_l_is_unlike_others : FnAt P w K mg base CX0 10 "_law_is_unlike_others" ["_law_module_here", "_law_made"] (spT K dpUnl))
    (CM : CmAt P w K mg base CX0 8 (He.ga K "Module") "read" (spT K (dpMRead K)))
    (g_mstr : StrAtC P w K mg base CX0 4 (He.ga K "Module") ["self"] (spMStr K)) (g_meq : EqAtC P w K mg base CX0 7 (He.ga K "Module") ["self", "other"] (spMEq K)) : FnOkG P w K mg base CX0 11 f fd ["_law_script"] (spT K (dp1 (fun x : Scr => x.ns.length ≤ 63) fun _ => true)) := by
  refine okTG F sc_law (fun ss R h => ?_) (fun cdv A outer s H E gu hr => ⟨_, (pss_cons (ps_for PassesOwn.never rfl (pi_range1 rfl m_range (pa_cons (pe_callB (call_max2 rfl) rfl m_max (by decide +kernel) (pa_cons (pe_int) (pa_cons (pe_callB (call_min2 rfl) rfl m_min (by decide +kernel) (pa_cons (pe_int) (pa_cons (pe_callB (call_lenK K) rfl m_len (by decide +kernel) (pa_cons (pv 0) (pa_nil))) (pa_nil)))) (pa_nil)))) (pa_nil))) (pg_name (i := 1) sc_law.nd rfl (.inl rfl)) (pss_cons (ps_set (i := 2) sc_law.nd rfl (.inl rfl) (pe_fn g_l_box hr rfl (pa_cons (pv 0) (pa_cons (pv 1) (pa_cons (pe_int) (pa_nil))))))
 (pss_cons (ps_set (i := 3) sc_law.nd rfl (.inl rfl) (pe_lst (pa_nil)))
 (pss_cons (ps_for PassesOwn.never rfl (pi_range1 rfl m_range (pa_cons (pe_int) (pa_nil))) (pg_name (i := 4) sc_law.nd rfl (.inl rfl)) (pss_one (ps_for PassesOwn.never rfl (pi_seqK K (pe_fn g_l_house hr rfl (pa_cons (pv 2) (pa_cons (pe_int) (pa_nil))))) (pg_name (i := 7) sc_law.nd rfl (.inr rfl)) (pss_cons (ps_setLc (i := 8) (own := [("_law_word", 12)]) rfl sc_law.nd rfl rfl (sw_true rfl rfl rfl (by decide +kernel)) (pi_seqK K (pe_tup (pa_cons (pe_str) (pa_cons (pe_str) (pa_cons (pe_str) (pa_cons (pe_str) (pa_cons (pe_str) (pa_nil)))))))) (blkOk_by (N := N_law) (sc := defScope s_law) (by decide +kernel)) (fun _ _ _ _ _ => pg_name (i := 12) sc_law.nd rfl (.inl rfl)) (fun _ _ _ _ _ => pts_nil) (fun _ _ _ _ _ => pe_callTy (call_listK K) rfl m_list (by decide +kernel) (pa_cons (pe_dget (hu_of hr) (pv 7) (pv 12) (fun _ _ => rfl)) (pa_nil))))
 (pss_cons (ps_set (i := 6) sc_law.nd rfl (.inr rfl) (pe_mkrX (x := "Module") K gX_Module takes_no hr rfl (pa_cons (pe_dget (hu_of hr) (pv 7) (pe_str) (fun _ _ => rfl)) (pa_cons (pe_ix (ix_sqK K) (pv 8) (pe_int) (fun _ _ => rfl)) (pa_cons (pe_ix (ix_sqK K) (pv 8) (pe_int) (fun _ _ => rfl)) (pa_cons (pe_ix (ix_sqK K) (pv 8) (pe_int) (fun _ _ => rfl)) (pa_cons (pe_ix (ix_sqK K) (pv 8) (pe_int) (fun _ _ => rfl)) (pa_cons (pe_ix (ix_sqK K) (pv 8) (pe_int) (fun _ _ => rfl)) (pa_nil)))))))))
 (pss_cons (ps_for PassesOwn.never rfl (pi_seqK K (pv 8)) (pg_name (i := 9) sc_law.nd rfl (.inl rfl)) (pss_one (ps_expr (pe_bmK K PySem.F.plainAttrs_list PySem.F.slot_list_append PySem.F.type_list_append mt_append (pv 9) (pa_cons (pe_str) (pa_nil))))))
 (pss_cons (ps_setLc (i := 10) (own := [("_law_word", 12)]) rfl sc_law.nd rfl rfl (sw_true rfl rfl rfl (by decide +kernel)) (pi_seqK K (pe_tup (pa_cons (pe_str) (pa_cons (pe_str) (pa_cons (pe_str) (pa_cons (pe_str) (pa_cons (pe_str) (pa_nil)))))))) (blkOk_by (N := N_law) (sc := defScope s_law) (by decide +kernel)) (fun _ _ _ _ _ => pg_name (i := 12) sc_law.nd rfl (.inl rfl)) (fun _ _ _ _ _ => pts_nil) (fun _ _ _ _ _ => pe_callTy (call_tupleK K) rfl m_tuple (by decide +kernel) (pa_cons (pe_dget (hu_of hr) (pv 7) (pv 12) (fun _ _ => rfl)) (pa_nil))))
 (pss_cons (ps_if (PW.pt (pw_or (pt_cmpR op_ne (pe_fnG K g_l_shape gu hr rfl (pa_cons (pv 6) (pa_nil))) (pe_callB (call_reprD K gu hr) rfl m_repr (by decide +kernel) (pa_cons (pe_op (op_catAK K) (pe_tup (pa_cons (pe_dget (hu_of hr) (pv 7) (pe_str) (fun _ _ => rfl)) (pa_nil))) (pe_callTy (call_tupleK K) rfl m_tuple (by decide +kernel) (pa_cons (pv 10) (pa_nil)))) (pa_nil))) (nomark _)) (pw_or1 (pt_cmpR op_ne (pe_callTy (call_strO g_mstr hr) rfl m_str (by decide +kernel) (pa_cons (pv 6) (pa_nil))) (pe_fn g_l_text hr rfl (pa_cons (pv 7) (pa_nil))) (nomark _))))) (pss_one (ps_ret (pe_bl))) (pss_nil))
 (pss_cons (ps_if (pt_cmpR (op_neO K g_meq hr) (pe_cm K CM hr (pe_glob (v := .ref (He.ga K "Module")) rfl m_Module rfl) (pa_cons (pe_fn g_l_text hr rfl (pa_cons (pv 7) pa_nil)) pa_nil)) (pv 6) (nomark _)) (pss_one (ps_ret (pe_bl))) (pss_nil))
 (pss_cons (ps_if (pt_cmpR (op_neO K g_meq hr) (pe_mkrX (x := "Module") K gX_Module takes_no hr rfl (pa_cons (pe_dget (hu_of hr) (pv 7) (pe_str) (fun _ _ => rfl)) (pa_cons (pe_ix (ix_sqK K) (pv 10) (pe_int) (fun _ _ => rfl)) (pa_cons (pe_ix (ix_sqK K) (pv 10) (pe_int) (fun _ _ => rfl)) (pa_cons (pe_ix (ix_sqK K) (pv 10) (pe_int) (fun _ _ => rfl)) (pa_cons (pe_ix (ix_sqK K) (pv 10) (pe_int) (fun _ _ => rfl)) (pa_cons (pe_ix (ix_sqK K) (pv 10) (pe_int) (fun _ _ => rfl)) (pa_nil)))))))) (pv 6) (nomark _)) (pss_one (ps_ret (pe_bl))) (pss_nil))
 (pss_cons (ps_if (PW.pt (pw_or (pt_cmpR (op_eqO K g_meq hr) (pv 6) (pe_callTy (call_strO g_mstr hr) rfl m_str (by decide +kernel) (pa_cons (pv 6) (pa_nil))) (nomark _)) (pw_or (pt_cmpR (op_eqO K g_meq hr) (pv 6) (pe_int) (nomark _)) (pw_or1 (pt_cmpR (op_eqO K g_meq hr) (pv 6) (pe_mkrX (x := "House") K gX_House takes_no hr rfl (pa_cons (pe_lst (pa_nil)) (pa_nil))) (nomark _)))))) (pss_one (ps_ret (pe_bl))) (pss_nil))
 (pss_cons (ps_set (i := 11) sc_law.nd rfl (.inl rfl) (pe_mkrX (x := "Module") K gX_Module takes_no hr rfl (pa_cons (pe_dget (hu_of hr) (pv 7) (pe_str) (fun _ _ => rfl)) (pa_cons (pe_ix (ix_sqK K) (pv 10) (pe_int) (fun _ _ => rfl)) (pa_cons (pe_ix (ix_sqK K) (pv 10) (pe_int) (fun _ _ => rfl)) (pa_cons (pe_ix (ix_sqK K) (pv 10) (pe_int) (fun _ _ => rfl)) (pa_cons (pe_revT K (pe_ix (ix_sqK K) (pv 10) (pe_int) (fun _ _ => rfl))) (pa_cons (pe_ix (ix_sqK K) (pv 10) (pe_int) (fun _ _ => rfl)) (pa_nil)))))))))
 (pss_cons (ps_if (pt_cmpR op_ne (pe_cmpR (op_eqO K g_meq hr) (pv 11) (pv 6) (nomark _)) (pe_cmpR (op_eqDK K hr) (pe_ix (ix_sqK K) (pv 10) (pe_int) (fun _ _ => rfl)) (pe_revT K (pe_ix (ix_sqK K) (pv 10) (pe_int) (fun _ _ => rfl))) (nomark _)) (nomark _)) (pss_one (ps_ret (pe_bl))) (pss_nil))
 (pss_cons (ps_if (pt_not (pt_val (pe_fn g_l_is_unlike_others hr rfl (pa_cons (pv 7) (pa_cons (pv 6) (pa_nil)))))) (pss_one (ps_ret (pe_bl))) (pss_nil))
 (pss_one (ps_expr (pe_bmK K PySem.F.plainAttrs_list PySem.F.slot_list_append PySem.F.type_list_append mt_append (pv 3) (pa_cons (pe_tup (pa_cons (pe_fn g_l_text hr rfl (pa_cons (pv 7) (pa_nil))) (pa_cons (pv 6) (pa_nil)))) (pa_nil)))))))))))))))))))
 (pss_one (ps_for PassesOwn.never rfl (pi_seqK K (pv 3)) (pg_tupK (n := 2) K rfl (pgs_cons (pg_name (i := 5) sc_law.nd rfl (.inr rfl)) (pgs_cons (pg_name (i := 6) sc_law.nd rfl (.inr rfl)) (pgs_nil)))) (pss_one (ps_if (pt_cmpR (op_neE K hr) (pe_lc (own := [("_law_other", 13), ("_law_mate", 14)]) rfl sc_law.nd (pi_seqK K (pv 3)) (blkOk_by (N := N_law) (sc := defScope s_law) (by decide +kernel)) (fun _ _ _ _ _ => pg_tupK (n := 2) K rfl (pgs_cons (pg_name (i := 13) sc_law.nd rfl (.inl rfl)) (pgs_cons (pg_name (i := 14) sc_law.nd rfl (.inl rfl)) (pgs_nil)))) (fun _ _ _ _ _ => pts_one (pt_cmpR op_ne (pe_cmpR (op_eqO K g_meq hr) (pv 6) (pv 14) (nomark _)) (pe_cmpR op_eq (pv 5) (pv 13) (nomark _)) (nomark _))) (fun _ _ _ _ _ => pe_int)) (pe_lst (pa_nil)) (nomark _)) (pss_one (ps_ret (pe_bl))) (pss_nil)))))))))
 (pss_one (ps_ret (pe_cmpR (op_eqO K g_meq hr) (pe_mkrX (x := "Module") K gX_Module5 takes_no hr rfl (pa_cons pe_str (pa_cons (pe_lst pa_nil) (pa_cons (pe_lst pa_nil) (pa_cons (pe_lst pa_nil) (pa_cons (pe_lst pa_nil) pa_nil)))))) (pe_mkrX (x := "Module") K gX_Module takes_no hr rfl (pa_cons (pe_str) (pa_cons (pe_tup (pa_nil)) (pa_cons (pe_tup (pa_nil)) (pa_cons (pe_tup (pa_nil)) (pa_cons (pe_tup (pa_nil)) (pa_cons (pe_tup (pa_nil)) (pa_nil)))))))) (nomark _))))), fun B ss R h => ?_⟩)
  · obtain ⟨x, rfl, _⟩ := h
    rfl
  · obtain ⟨scr, rfl, hl, q⟩ := h
    show DS K B _ [.val scr, .no, .no, .no, .no, .no, .no, .no, .no, .no, .no, .no, .no, .no, .no] _
    have sb : scr.ns.length ≤ BIG := Nat.le_trans hl (by decide)
    have b18 : ∀ {n : Nat}, n ≤ 1000 → n ≤ BIG := fun h => Nat.le_trans h (by decide)
    have one1 : (1 : Nat) ≤ BIG := by decide
    refine dq_forW [.val scr, .no, .no, .no, .no, .no, .no, .no, .no, .no, .no, .no, .no, .no, .no] (di_rng1 (d_max2 d_int (d_min2 d_int (d_len (d_scr (d_var rfl) sb)))) (by omega) (by omega)) (Wk.refl _) (fun k hk => ⟨_, _, dg_name, ?_⟩) ?_
    · have hk := rg_mem.mp hk
      refine dq_boxG (d_box3 (x := scr) (k := k) (o := 9) (d_var rfl) (d_var rfl) d_int hk.1 (by omega) (by decide)) (by simp [Slot.isOwn]) rfl fun p => ?_
      show DS K (fun q => q = p ∨ B q) _ [.val scr, .val k, .box, .no, .no, .no, .no, .no, .no, .no, .no, .no, .no, .no, .no] _
      generalize (fun q => q = p ∨ B q) = B'
      refine dq_asgO (α := Str × MOb) (do_nil (Str × MOb)) ?_
      show DS K B' _ [.val scr, .val k, .box, .own (α := Str × MOb) [], .no, .no, .no, .no, .no, .no, .no, .no, .no, .no, .no] _
      refine dq_for (di_rng1 d_int (by omega) (by omega)) (fun i r => ∃ (ks : List DMd) (s4 s6 s7 s10 s11 : Slot), r = [.val scr, .val k, .box, .own (α := Str × MOb) (ks.map kp), s4, .no, s6, s7, .no, .no, s10, s11, .no, .no, .no] ∧ ks.length ≤ 3 * i ∧ ∀ m ∈ ks, Fn m) ⟨[], .no, .no, .no, .no, .no, rfl, Nat.zero_le _, fun m h => nomatch h⟩ (fun i x r hx hI => ?_) fun r hI => ?_
      · obtain ⟨ks, s4, s6, s7, s10, s11, rfl, kl, kf⟩ := hI
        have i1 : i < 1 := by
          have := (List.getElem?_eq_some_iff.mp hx).1
          rw [rg_len] at this
          omega
        refine ⟨_, _, dg_name, ?_⟩
        show DS K B' _ [.val scr, .val k, .box, .own (α := Str × MOb) (ks.map kp), .val x, .no, s6, s7, .no, .no, s10, s11, .no, .no, .no] _
        refine ds_forIN (P := fun ms : List DMd => HouseOk 2 ms) (din_seq (dn_callb1 rfl d_int ⟨by decide, by decide⟩)) (fun j r => ∃ (ks : List DMd) (s6 s7 s10 s11 : Slot), r = [.val scr, .val k, .box, .own (α := Str × MOb) (ks.map kp), .val x, .no, s6, s7, .no, .no, s10, s11, .no, .no, .no] ∧ ks.length ≤ 3 * i + j ∧ ∀ m ∈ ks, Fn m) ⟨ks, s6, s7, s10, s11, rfl, kl, kf⟩ (fun ms hms j m r hm hI => ?_) fun ms hms r hI => ?_
        · obtain ⟨ks, s6, s7, s10, s11, rfl, kl, kf⟩ := hI
          have g := (Good.ofH hms hm).un
          have jl : j < 2 := by
            have := (List.getElem?_eq_some_iff.mp hm).1
            have := hms.len
            omega
          clear hms hm
          have f := g.f
          have fl := f.five
          refine ⟨_, _, dg_name, ?_⟩
          show DS K B' _ [.val scr, .val k, .box, .own (α := Str × MOb) (ks.map kp), .val x, .no, s6, .val m, .no, .no, s10, s11, .no, .no, .no] _
          have d5 : ∀ {B' : Addr → Prop} {ρ : List Slot}, DE K B' (tTup (tCons (tC (.str "inlets")) (tCons (tC (.str "outlets")) (tCons (tC (.str "stations")) (tCons (tC (.str "links")) (tCons (tC (.str "calls")) tNil)))))) ρ W5 := d_Uq (d_tupU (dl_cons d_str (dl_cons d_str (dl_cons d_str (dl_cons d_str (dl_cons d_str dl_nil))))) (by decide))
          have dn : ∀ {B' : Addr → Prop} {ρ : List Slot}, ρ[7]? = some (.val m) → DE K B' (tDGet (tVar 7) (tC (.str "name"))) ρ (AV.str m.n) := fun h => d_getD (d := m.dc) (a := AV.str m.n) (d_dc (d_var h)) d_str rfl
          refine ds_lists (α := AV) (γ := MOb) (b := MOb.mk m) (w := ⟨W5.map fun x => ((m.dc.get x).getD .non).items⟩) (ls_new (fun x => ((m.dc.get x).getD .non).items) (di_seq d5) (by decide) fun x hx => ?_) ?_ rfl rfl (by decide) (by decide) (by decide) ?_
          · obtain ⟨v, hv, hs, hf⟩ := five_get (m := m) x hx
            refine ⟨_, _, dg_name, by simp, ?_, ?_⟩
            · rw [hv]
              exact do_list (d_asSeq (d_getD (d := m.dc) (a := v) (d_dc (d_var rfl)) (d_var rfl) hv) hs)
            · rw [hv]
              exact Nat.le_trans (fl v hf) (by decide)
          · have hz : ∀ (i : Nat) (v : AV), (five m)[i]? = some v → ((five m).map AV.items)[i]? = some v.items := fun i v h => by
              rw [List.getElem?_map, h]
              rfl
            have dl : ∀ {i : Nat} {v : AV}, (five m)[i]? = some v → v = .lst v.items → DE K B' (tOp (rIxQ K) (tVar 8) (tC (.int ((i : Nat) : Int)))) (([.val scr, .val k, .box, .own (α := Str × MOb) (ks.map kp), .val x, .no, s6, .val m, .no, .no, s10, s11, .no, .no, .no] : List Slot).set 8 (.val (LsO.mk (W5.map fun x => ((m.dc.get x).getD .non).items)))) v := fun {i v} h e => by
              rw [e]
              refine d_lstOf (d_ix (α := L AV) (xs := (five m).map AV.items) (d_Lq (d_var (n := 8) (a := (LsO.mk (W5.map fun x => ((m.dc.get x).getD .non).items))) rfl)) d_int (atI_nat (hz i v h)))
            exact d_mkMod (g := m6L (six m)) (da_cons (a := AV.str m.n) (dn rfl) (da_cons (a := strsA m.i) (dl (i := 0) rfl rfl) (da_cons (a := strsA m.o) (dl (i := 1) rfl rfl) (da_cons (a := strsA m.s) (dl (i := 2) rfl rfl) (da_cons (a := linksA m.l) (dl (i := 3) rfl rfl) (da_cons (a := callsA m.c) (dl (i := 4) rfl rfl) da_nil)))))) f.md
          show DS K B' _ [.val scr, .val k, .box, .own (α := Str × MOb) (ks.map kp), .val x, .no, .val (MOb.mk m), .val m, .no, .no, s10, s11, .no, .no, .no] _
          refine dq_asgI (δ := L AV) (fiveT m) (DE.is (DO.l (do_map (fun x => tupd ((m.dc.get x).getD .non)) (di_seq d5) (by decide) fun x hx => ⟨_, _, dg_name, by simp, by
            obtain ⟨v, hv, hs, hf⟩ := five_get (m := m) x hx
            rw [hv]
            exact d_tupOf (d_tuple (d_asSeq (d_getD (d := m.dc) (a := v) (d_dc (d_var rfl)) (d_var rfl) hv) hs))⟩)) five_map) ?_
          show DS K B' _ [.val scr, .val k, .box, .own (α := Str × MOb) (ks.map kp), .val x, .no, .val (MOb.mk m), .val m, .no, .no, .val (show L AV from fiveT m), s11, .no, .no, .no] _
          have dd : ∀ {ρ : List Slot} {i : Nat} {v : AV}, ρ[10]? = some (.val (show L AV from fiveT m)) → (fiveT m)[i]? = some v → DE K B' (tOp (rIxQ K) (tVar 10) (tC (.int ((i : Nat) : Int)))) ρ v := fun h h2 => d_ix (xs := fiveT m) (d_Lq (d_var h)) d_int (atI_nat h2)
          have dm : ∀ {ρ : List Slot}, ρ[6]? = some (.val (MOb.mk m)) → DE K B' (tVar 6) ρ (MOb.mk m) := fun h => d_var h
          have dt : ∀ {ρ : List Slot}, ρ[7]? = some (.val m) → DE K B' (tCall (spT K (dp1 (fun m : DMd => TxtM m) modText)) [] E0 (tCons (tVar 7) tNil)) ρ (modText m) := fun h => d_call1 (d_var h) f.txt
          -- the shape, the text
          refine dq_when (c := false) (DT.is (dt_or (dt_test (d_ne (d_callG (a := (shpA m).dat.shown) (da_cons (dm rfl) da_nil) ⟨MOb.mk m, rfl, f, rfl⟩) (d_reprA (x := shpA m) (k := 3) (d_tupOf (d_catU (xs := [AV.str m.n]) (ys := fiveT m) (d_tupU (dl_cons (dn rfl) dl_nil) one1) (d_tuple (d_Lq (d_var (a := (show L AV from fiveT m)) rfl))) (by show 1 + 5 ≤ BIG; decide))) f.shw.i f.shw.g (by decide) f.shw.w) inferInstance inferInstance)) fun _ => dt_test (d_ne (d_strM (dm rfl) f.txt) (dt rfl) inferInstance inferInstance)) (by rw [decide_eq_true rfl, decide_eq_true rfl]; rfl)) (fun h => nomatch h) fun _ => ?_
          -- read again
          refine dq_when (c := false) (DT.is (dt_test (d_eqMM MC T true (d_mreadT (m := m) (show DE K B' (tC (.ref (He.ga K "Module"))) _ (V.ref (He.ga K "Module")) from fun S0 H0 S H σ E Q q => q _ S H (Ext.refl E.i) rfl) (dt rfl) f rfl) (dm rfl) f.txt f.txt)) (by rw [decide_eq_true rfl]; rfl)) (fun h => nomatch h) fun _ => ?_
          refine dq_when (c := false) (DT.is (dt_test (d_eqMM MC T true (d_mkMod (m := m) (g := m6L (sixT m)) (da_cons (a := AV.str m.n) (dn rfl) (da_cons (a := tupd (strsA m.i)) (dd (i := 0) rfl rfl) (da_cons (a := tupd (strsA m.o)) (dd (i := 1) rfl rfl) (da_cons (a := tupd (strsA m.s)) (dd (i := 2) rfl rfl) (da_cons (a := tupd (linksA m.l)) (dd (i := 3) rfl rfl) (da_cons (a := tupd (callsA m.c)) (dd (i := 4) rfl rfl) da_nil)))))) f.md.tup) (dm rfl) f.txt f.txt)) (by rw [decide_eq_true rfl]; rfl)) (fun h => nomatch h) fun _ => ?_
          -- to nothing else
          refine dq_when (c := false) (DT.is (dt_or (b := false) (dt_test (d_eqMO false (dm rfl) (d_othS (d_strM (dm rfl) f.txt)) a1)) fun _ => dt_or (b := false) (c := false) (dt_test (d_eqMO false (dm rfl) (d_othI (d_int (i := 0))) a2)) fun _ => dt_test (d_eqMO false (dm rfl) (d_othH HC TH d_house0) a3)) rfl) (fun h => nomatch h) fun _ => ?_
          -- links turned
          have fr := f.rev
          have d3 : ∀ {ρ : List Slot}, ρ[10]? = some (.val (show L AV from fiveT m)) → DE K B' (tOp (rIxQ K) (tVar 10) (tC (.int 3))) ρ (show U Lk from m.l) := fun h => d_va (α := U Lk) (dd (i := 3) (v := tupd (linksA m.l)) h rfl)
          refine ds_seq (ds_asg (α := MOb) (a := MOb.mk (revL m)) (d_mkMod (g := m6L (sixT (revL m))) (da_cons (a := AV.str m.n) (dn rfl) (da_cons (a := tupd (strsA m.i)) (dd (i := 0) rfl rfl) (da_cons (a := tupd (strsA m.o)) (dd (i := 1) rfl rfl) (da_cons (a := tupd (strsA m.s)) (dd (i := 2) rfl rfl) (da_cons (a := tupd (linksA m.l.reverse)) (d_av (α := U Lk) (d_revT (d3 rfl))) (da_cons (a := tupd (callsA m.c)) (dd (i := 4) rfl rfl) da_nil)))))) fr.md.tup) ?_)
          show DS K B' _ [.val scr, .val k, .box, .own (α := Str × MOb) (ks.map kp), .val x, .no, .val (MOb.mk m), .val m, .no, .no, .val (show L AV from fiveT m), .val (MOb.mk (revL m)), .no, .no, .no] _
          have cq : ∀ t ∈ m.l, canQ t := fun t ht => can4.mpr ⟨canS.mpr (end_ok (there_end (f.la t ht))), canS.mpr (end_ok (there_end (f.lb t ht))), canI _, canI _⟩
          refine dq_when (c := false) (DT.is (dt_test (d_ne (α := Bool) (d_eqMM MC T false (d_var (n := 11) (a := MOb.mk (revL m)) rfl) (dm rfl) fr.txt f.txt) (d_eqQ (α := U Lk) (d3 rfl) (d_revT (d3 rfl)) (fun _ _ => Classical.propDecidable _) inferInstance (by decide) (canU.mpr cq) (canU.mpr fun t ht => cq t (List.mem_reverse.mp ht))) inferInstance inferInstance)) ?_) (fun h => nomatch h) fun _ => ?_
          · have e1 : (if (false : Bool) = true then !decide (modText (revL m) = modText m) else decide (modText (revL m) = modText m)) = decide (modText (revL m) = modText m) := rfl
            have e2 : decide (modText (revL m) = modText m) = @decide ((show U Lk from m.l) = (show U Lk from List.reverse m.l)) (Classical.propDecidable _) := decide_eq_decide.mpr ((text_inj fr f).trans rev_iff)
            rw [e1, e2, decide_eq_true rfl]
            rfl
          refine dq_when (c := false) (DT.is (dt_not (dt_B (d_call (a := true) (da_cons (d_var (n := 7) (a := m) rfl) (da_cons (dm rfl) da_nil)) ⟨m, rfl, g, rfl⟩))) rfl) (fun h => nomatch h) fun _ => ?_
          refine ds_append (α := Str × MOb) (a := kp m) rfl (d_pair (dt rfl) (dm rfl)) (by rw [List.length_map]; exact Nat.lt_of_le_of_lt kl (Nat.lt_of_lt_of_le (show 3 * i + j < 10 by omega) (by decide))) ⟨ks ++ [m], _, _, _, _, by rw [List.map_append]; rfl, by rw [List.length_append]; show ks.length + 1 ≤ _; omega, fun m' hm' => ?_⟩
          rcases List.mem_append.mp hm' with hm' | hm'
          · exact kf m' hm'
          · rw [List.mem_singleton.mp hm']
            exact f
        · obtain ⟨ks, s6, s7, s10, s11, rfl, kl, kf⟩ := hI
          have := hms.len
          exact ⟨ks, _, _, _, _, _, rfl, by omega, kf⟩
      · obtain ⟨ks, s4, s6, s7, s10, s11, rfl, kl, kf⟩ := hI
        rw [rg_len] at kl
        have kl : ks.length ≤ 3 := by omega
        refine ds_frz (n := 3) rfl ?_
        show DS K B' _ [.val scr, .val k, .box, .val (show L (Str × MOb) from ks.map kp), s4, .no, s6, s7, .no, .no, s10, s11, .no, .no, .no] _
        refine ds_forW (α := Str × MOb) (xs := ks.map kp) [.val scr, .val k, .box, .val (show L (Str × MOb) from ks.map kp), .no, .no, .no, .no, .no, .no, .no, .no, .no, .no, .no] (di_seq (d_Lq (d_var (n := 3) (a := (show L (Str × MOb) from ks.map kp)) rfl))) (by (repeat' first | exact Wk.nil | exact Wk.refl _ | apply Wk.keep | apply Wk.drop)) (fun y hy => ⟨_, _, DG.pair (e_α := inferInstance) (e_β := inferInstance) dg_name dg_name, ?_⟩) (fun r hr => hr.unbox.trans (by (repeat' first | exact Wk.nil | exact Wk.refl _ | apply Wk.keep | apply Wk.drop)))
        obtain ⟨m, hm, rfl⟩ := List.mem_map.mp hy
        have f := kf m hm
        show DS K B' _ [.val scr, .val k, .box, .val (show L (Str × MOb) from ks.map kp), .no, .val (modText m), .val (MOb.mk m), .no, .no, .no, .no, .no, .no, .no, .no] _
        refine ds_if (c := false) (DT.is (dt_test (d_neE (α := Int) (e_α := inferInstance) (DO.l (do_lc (α := Str × MOb) (e_β := inferInstance) (fun _ => false) (fun _ => (1 : Int)) (di_seq (xs := ks.map kp) (d_Lq (d_var (n := 3) (a := (show L (Str × MOb) from ks.map kp)) rfl))) (by rw [List.length_map]; exact b18 (by omega)) fun z hz => ?_)))) ?_) (fun h => nomatch h) fun _ => ds_next (by (repeat' first | exact Wk.nil | exact Wk.refl _ | apply Wk.keep | apply Wk.drop))
        · obtain ⟨m', hm', rfl⟩ := List.mem_map.mp hz
          have f' := kf m' hm'
          refine ⟨_, _, DG.pair (e_α := inferInstance) (e_β := inferInstance) dg_name dg_name, by simp, ?_, fun h => nomatch h⟩
          refine DT.is (dt_test (d_ne (α := Bool) (d_eqMM MC T false (d_var (n := 6) (a := MOb.mk m) rfl) (d_var (n := 14) (a := MOb.mk m') rfl) f.txt f'.txt) (d_eq (d_var (n := 5) (a := modText m) rfl) (d_var (n := 13) (a := modText m') rfl) inferInstance inferInstance) inferInstance inferInstance)) ?_
          show (!decide (decide (modText m = modText m') = decide (modText m = modText m'))) = false
          rw [decide_eq_true rfl]
          rfl
        · have e : (ks.map kp).filter (fun _ => false) = [] := List.filter_eq_nil_iff.mpr fun _ _ h => nomatch h
          rw [e]
          rfl
    · have ng : ModOf ⟨.str "a", .lst [], .lst [], .lst [], .lst [], .tup []⟩ noneM := by
        have h := none_fn.md
        exact ModOf.tup5 (m := noneM) rfl h
      have eL : ∀ {B : Addr → Prop} {ρ : List Slot}, DE K B (tLst tNil) ρ (AV.lst []) := d_lstOf (DO.l (do_nil AV))
      have eU : ∀ {B : Addr → Prop} {ρ : List Slot}, DE K B (tTup tNil) ρ (AV.tup []) := d_tupA dl_nil (Nat.zero_le _)
      refine ds_retE q (d_eqMM MC T false (d_mkMod5 (m := noneM) (g := ⟨.str "a", .lst [], .lst [], .lst [], .lst [], .tup []⟩) eT (da_cons (a := AV.str "a") (d_avS d_str) (da_cons eL (da_cons eL (da_cons eL (da_cons eL da_nil))))) rfl ng) (d_mkMod (m := noneM) (g := m6L (sixT noneM)) (da_cons (a := AV.str "a") (d_avS d_str) (da_cons (a := tupd (strsA [])) eU (da_cons (a := tupd (strsA [])) eU (da_cons (a := tupd (strsA [])) eU (da_cons (a := tupd (linksA [])) eU (da_cons (a := tupd (callsA [])) eU da_nil)))))) none_fn.md.tup) none_fn.txt none_fn.txt) ?_
      show decide (modText noneM = modText noneM) = true
      exact decide_eq_true rfl
end
end WW
set_option Elab.async false
set_option linter.all false
set_option maxRecDepth 100000
set_option maxHeartbeats 0
namespace WW
open PySem PySem.Spec PyProof.Rows L2
theorem binds_Module___init__ {K : PySem.W.Frag} {f : Addr} {fd : FuncData} {v0 : V} (F : FunD K "__init__" "Module.__init__" (defArgs s_Module___init__) (defBody s_Module___init__) (defScope s_Module___init__) [v0] [] f fd) : Binds K fd ["self", "name", "inlets", "outlets", "stations", "links", "calls"] [] := by
  obtain ⟨ds, v, b⟩ := F.binds1 (ps := ["self", "name", "inlets", "outlets", "stations", "links", "calls"]) 7 1 (List.cons_ne_nil _ _) rfl fun T kV doc pm an cdv ct us its hu hi => by
    match us, hu, its, hi with
    | [u0, u1, u2, u3, u4, u5, u6], _, [i0], _ => exact ⟨_, rfl, rfl⟩
  cases v
  exact b
theorem facts {P : Program} {w : World} {K : PySem.W.Frag} {h : Heap} {mg : Str → Option Value} {f : Addr} (X : K.In h) (G : h.Ns mainGlobals mg) (hfa : mg ("law" : Str) = some (.ref f)) (c : SaysS fa fn exK cs vsS K) (hP1 : (P.main.file : Str) = fileS) (hP2 : (P.main.scope.names.lookup ("super" : Str)).isSome = false) :
    ∃ fd : FuncData, (∀ (s : Shared) (v : Value), BindsTo s fd ⟨[v], []⟩ [("_law_script", v)]) ∧ ∀ base : Heap, K.In base → base.Ns mainGlobals mg → FnOkG P w K mg base CX0 11 f fd ["_law_script"] (spLaw K) := by
  obtain ⟨⟨c, cx⟩, cv⟩ := c
  obtain ⟨x_sup_InvalidModule, cx⟩ := He.ba cx
  obtain ⟨x_exc_InvalidModule, cx⟩ := He.ba cx
  obtain ⟨x_nf_InvalidModule_word, cx⟩ := He.ba cx
  obtain ⟨x_sup_InvalidHouse, cx⟩ := He.ba cx
  obtain ⟨x_exc_InvalidHouse, cx⟩ := He.ba cx
  obtain ⟨x_nf_InvalidHouse_at, cx⟩ := He.ba cx
  obtain ⟨x_sup_NeverGoes, cx⟩ := He.ba cx
  obtain ⟨x_exc_NeverGoes, cx⟩ := He.ba cx
  obtain ⟨x_nf_NeverGoes_ring, cx⟩ := He.ba cx
  obtain ⟨x_str_Module, cx⟩ := He.ba cx
  obtain ⟨x_eq_Module, cx⟩ := He.ba cx
  obtain ⟨x_cm_Module_read, cx⟩ := He.ba cx
  obtain ⟨x_ty_Module, cx⟩ := He.ba cx
  obtain ⟨x_ty_House, cx⟩ := He.ba cx
  obtain ⟨x_emT, cx⟩ := He.ba cx
  obtain ⟨x_oC, cx⟩ := He.ba cx
  obtain ⟨x_a1, cx⟩ := He.ba cx
  obtain ⟨x_a2, cx⟩ := He.ba cx
  have x_a3 := cx
  have m_int := He.free_ok X G (c.fact 42 (f := .free "int") rfl)
  have m_len := He.free_ok X G (c.fact 43 (f := .free "len") rfl)
  have m_isinstance := He.free_ok X G (c.fact 44 (f := .free "isinstance") rfl)
  have m_bool := He.free_ok X G (c.fact 45 (f := .free "bool") rfl)
  have m_list := He.free_ok X G (c.fact 46 (f := .free "list") rfl)
  have m_tuple := He.free_ok X G (c.fact 47 (f := .free "tuple") rfl)
  have m_any := He.free_ok X G (c.fact 48 (f := .free "any") rfl)
  have m_all := He.free_ok X G (c.fact 49 (f := .free "all") rfl)
  have m_range := He.free_ok X G (c.fact 50 (f := .free "range") rfl)
  have m_abs := He.free_ok X G (c.fact 51 (f := .free "abs") rfl)
  have m_super := He.free_ok X G (c.fact 52 (f := .free "super") rfl)
  have m_str := He.free_ok X G (c.fact 53 (f := .free "str") rfl)
  have m_max := He.free_ok X G (c.fact 54 (f := .free "max") rfl)
  have m_min := He.free_ok X G (c.fact 55 (f := .free "min") rfl)
  have m_set := He.free_ok X G (c.fact 56 (f := .free "set") rfl)
  have m_dict := He.free_ok X G (c.fact 57 (f := .free "dict") rfl)
  have m_enumerate := He.free_ok X G (c.fact 58 (f := .free "enumerate") rfl)
  have m_sorted := He.free_ok X G (c.fact 59 (f := .free "sorted") rfl)
  have m_repr := He.free_ok X G (c.fact 60 (f := .free "repr") rfl)
  have m_Module := He.glo_ok X G (c.fact 69 (f := .glo "Module") rfl)
  have m_House := He.glo_ok X G (c.fact 75 (f := .glo "House") rfl)
  have m_Told := He.glo_ok X G (c.fact 82 (f := .glo "Told") rfl)
  have m_InvalidModule := He.glo_ok X G (c.fact 83 (f := .glo "InvalidModule") rfl)
  have m_InvalidHouse := He.glo_ok X G (c.fact 84 (f := .glo "InvalidHouse") rfl)
  have m_NeverGoes := He.glo_ok X G (c.fact 85 (f := .glo "NeverGoes") rfl)
  have m_ORDER := He.glo_ok X G (c.fact 86 (f := .glo "ORDER") rfl)
  have v_SMALL : ∃ u, mg "SMALL" = some u ∧ RelV (.str "abcdefghijklmnopqrstuvwxyz") u := by obtain ⟨t, e⟩ := He.str_ok X G (c.fact 87 (f := .str "SMALL" "abcdefghijklmnopqrstuvwxyz") rfl); exact ⟨_, e, t, rfl⟩
  have v_DIGITS : ∃ u, mg "DIGITS" = some u ∧ RelV (.str "0123456789") u := by obtain ⟨t, e⟩ := He.str_ok X G (c.fact 88 (f := .str "DIGITS" "0123456789") rfl); exact ⟨_, e, t, rfl⟩
  have v_MOST_DIGITS : ∃ u, mg "MOST_DIGITS" = some u ∧ RelV (.int (3)) u := by obtain ⟨t, e⟩ := He.int_ok X G (c.fact 89 (f := .int "MOST_DIGITS" (3)) rfl); exact ⟨_, e, t, rfl⟩
  have c_Module := He.cls_ok (c.fact 61 (f := .cls "Module") rfl)
  have na_Module_name := He.noat_ok (c.fact 62 (f := .noat "Module" "name") rfl)
  have na_Module_inlets := He.noat_ok (c.fact 63 (f := .noat "Module" "inlets") rfl)
  have na_Module_outlets := He.noat_ok (c.fact 64 (f := .noat "Module" "outlets") rfl)
  have na_Module_stations := He.noat_ok (c.fact 65 (f := .noat "Module" "stations") rfl)
  have na_Module_links := He.noat_ok (c.fact 66 (f := .noat "Module" "links") rfl)
  have na_Module_calls := He.noat_ok (c.fact 67 (f := .noat "Module" "calls") rfl)
  have v_Module : ∃ u, mg "Module" = some u ∧ RelV (.ref (He.ga K "Module")) u := ⟨_, m_Module, rfl⟩
  have c_House := He.cls_ok (c.fact 70 (f := .cls "House") rfl)
  have na_House_known := He.noat_ok (c.fact 71 (f := .noat "House" "known") rfl)
  have na_House_modules := He.noat_ok (c.fact 72 (f := .noat "House" "modules") rfl)
  have na_House_shapes := He.noat_ok (c.fact 73 (f := .noat "House" "shapes") rfl)
  have v_House : ∃ u, mg "House" = some u ∧ RelV (.ref (He.ga K "House")) u := ⟨_, m_House, rfl⟩
  have c_Told := He.cls_ok (c.fact 76 (f := .cls "Told") rfl)
  have na_Told_title := He.noat_ok (c.fact 77 (f := .noat "Told" "title") rfl)
  have na_Told_rows := He.noat_ok (c.fact 78 (f := .noat "Told" "rows") rfl)
  have na_Told_calls := He.noat_ok (c.fact 79 (f := .noat "Told" "calls") rfl)
  have na_Told_links := He.noat_ok (c.fact 80 (f := .noat "Told" "links") rfl)
  have v_Told : ∃ u, mg "Told" = some u ∧ RelV (.ref (He.ga K "Told")) u := ⟨_, m_Told, rfl⟩
  have cv_InvalidModule : supO K (He.ga K "InvalidModule") = some (("InvalidModule.__init__" : Str), defArgs st_InvalidModule, .stmts (defBody st_InvalidModule), defScope st_InvalidModule, mainGlobals, builtinsNs) := (List.cons.inj cv).1
  have sc_InvalidModule := supB_ok (P := P) (by rw [hP1]; exact x_sup_InvalidModule) cv_InvalidModule hP2
  have xc_InvalidModule := excCB_ok x_exc_InvalidModule
  have nf_InvalidModule_word := He.eqO_ok x_nf_InvalidModule_word
  have S_InvalidModule : SupAt P K mg "InvalidModule" "word" := ⟨⟨_, _, _, _, _, _, _, _, _, _, _, _, _, _, _, _, _, _, sc_InvalidModule, ⟨rfl, rfl, rfl, rfl, rfl, rfl, rfl, by decide +kernel, ⟨_, rfl, rfl⟩, by decide, by decide⟩, fun _ => rfl, fun _ _ _ _ _ _ _ _ us hl => match us, hl with | [_, _], _ => rfl⟩, nf_InvalidModule_word, m_InvalidModule, m_super⟩
  have cv_InvalidHouse : supO K (He.ga K "InvalidHouse") = some (("InvalidHouse.__init__" : Str), defArgs st_InvalidHouse, .stmts (defBody st_InvalidHouse), defScope st_InvalidHouse, mainGlobals, builtinsNs) := (List.cons.inj (List.cons.inj cv).2).1
  have sc_InvalidHouse := supB_ok (P := P) (by rw [hP1]; exact x_sup_InvalidHouse) cv_InvalidHouse hP2
  have xc_InvalidHouse := excCB_ok x_exc_InvalidHouse
  have nf_InvalidHouse_at := He.eqO_ok x_nf_InvalidHouse_at
  have S_InvalidHouse : SupAt P K mg "InvalidHouse" "at" := ⟨⟨_, _, _, _, _, _, _, _, _, _, _, _, _, _, _, _, _, _, sc_InvalidHouse, ⟨rfl, rfl, rfl, rfl, rfl, rfl, rfl, by decide +kernel, ⟨_, rfl, rfl⟩, by decide, by decide⟩, fun _ => rfl, fun _ _ _ _ _ _ _ _ us hl => match us, hl with | [_, _], _ => rfl⟩, nf_InvalidHouse_at, m_InvalidHouse, m_super⟩
  have cv_NeverGoes : supO K (He.ga K "NeverGoes") = some (("NeverGoes.__init__" : Str), defArgs st_NeverGoes, .stmts (defBody st_NeverGoes), defScope st_NeverGoes, mainGlobals, builtinsNs) := (List.cons.inj (List.cons.inj (List.cons.inj cv).2).2).1
  have sc_NeverGoes := supB_ok (P := P) (by rw [hP1]; exact x_sup_NeverGoes) cv_NeverGoes hP2
  have xc_NeverGoes := excCB_ok x_exc_NeverGoes
  have nf_NeverGoes_ring := He.eqO_ok x_nf_NeverGoes_ring
  have S_NeverGoes : SupAt P K mg "NeverGoes" "ring" := ⟨⟨_, _, _, _, _, _, _, _, _, _, _, _, _, _, _, _, _, _, sc_NeverGoes, ⟨rfl, rfl, rfl, rfl, rfl, rfl, rfl, by decide +kernel, ⟨_, rfl, rfl⟩, by decide, by decide⟩, fun _ => rfl, fun _ _ _ _ _ _ _ _ us hl => match us, hl with | [_, _], _ => rfl⟩, nf_NeverGoes_ring, m_NeverGoes, m_super⟩
  have f_oC := sqB_ok x_oC
  have f_a1 := apT_ok x_a1
  have f_a2 := apT_ok x_a2
  have f_a3 := apT_ok x_a3
  obtain ⟨fd_l_take, F_l_take⟩ := c.def_ 0 (d := d_l_take) rfl
  obtain ⟨fd_l_pick, F_l_pick⟩ := c.def_ 1 (d := d_l_pick) rfl
  obtain ⟨fd_l_box, F_l_box⟩ := c.def_ 2 (d := d_l_box) rfl
  obtain ⟨fd_l_mixed, F_l_mixed⟩ := c.def_ 3 (d := d_l_mixed) rfl
  obtain ⟨fd_l_names, F_l_names⟩ := c.def_ 4 (d := d_l_names) rfl
  obtain ⟨fd_l_begins, F_l_begins⟩ := c.def_ 5 (d := d_l_begins) rfl
  obtain ⟨fd_l_goes, F_l_goes⟩ := c.def_ 6 (d := d_l_goes) rfl
  obtain ⟨fd_l_links, F_l_links⟩ := c.def_ 7 (d := d_l_links) rfl
  obtain ⟨fd_l_module, F_l_module⟩ := c.def_ 8 (d := d_l_module) rfl
  obtain ⟨fd_l_house, F_l_house⟩ := c.def_ 9 (d := d_l_house) rfl
  obtain ⟨fd_is_integer, F_is_integer⟩ := c.def_ 10 (d := d_is_integer) rfl
  obtain ⟨fd_is_number, F_is_number⟩ := c.def_ 11 (d := d_is_number) rfl
  obtain ⟨fd_is_sequence, F_is_sequence⟩ := c.def_ 12 (d := d_is_sequence) rfl
  obtain ⟨fd_is_name, F_is_name⟩ := c.def_ 13 (d := d_is_name) rfl
  obtain ⟨fd_is_end, F_is_end⟩ := c.def_ 14 (d := d_is_end) rfl
  obtain ⟨fd_are_fresh, F_are_fresh⟩ := c.def_ 15 (d := d_are_fresh) rfl
  obtain ⟨fd_is_pair, F_is_pair⟩ := c.def_ 16 (d := d_is_pair) rfl
  obtain ⟨fd_labels_in, F_labels_in⟩ := c.def_ 17 (d := d_labels_in) rfl
  obtain ⟨fd_is_there, F_is_there⟩ := c.def_ 18 (d := d_is_there) rfl
  obtain ⟨fd_is_link, F_is_link⟩ := c.def_ 19 (d := d_is_link) rfl
  obtain ⟨fd_Module___init__, F_Module___init__⟩ := c.def_ 20 (d := d_Module___init__) rfl
  obtain ⟨fd_led_end, F_led_end⟩ := c.def_ 21 (d := d_led_end) rfl
  obtain ⟨fd_shape_of, F_shape_of⟩ := c.def_ 22 (d := d_shape_of) rfl
  obtain ⟨fd_loose_places, F_loose_places⟩ := c.def_ 23 (d := d_loose_places) rfl
  obtain ⟨fd_turned_about, F_turned_about⟩ := c.def_ 24 (d := d_turned_about) rfl
  obtain ⟨fd_ring_of, F_ring_of⟩ := c.def_ 25 (d := d_ring_of) rfl
  obtain ⟨fd_known_shapes, F_known_shapes⟩ := c.def_ 26 (d := d_known_shapes) rfl
  obtain ⟨fd_ends_are_there, F_ends_are_there⟩ := c.def_ 27 (d := d_ends_are_there) rfl
  obtain ⟨fd_known_modules, F_known_modules⟩ := c.def_ 28 (d := d_known_modules) rfl
  obtain ⟨fd_House___init__, F_House___init__⟩ := c.def_ 29 (d := d_House___init__) rfl
  obtain ⟨fd_names_line, F_names_line⟩ := c.def_ 30 (d := d_names_line) rfl
  obtain ⟨fd_module_lines, F_module_lines⟩ := c.def_ 31 (d := d_module_lines) rfl
  obtain ⟨fd_Module___str__, F_Module___str__⟩ := c.def_ 32 (d := d_Module___str__) rfl
  obtain ⟨fd_Module___eq__, F_Module___eq__⟩ := c.def_ 33 (d := d_Module___eq__) rfl
  obtain ⟨fd_number_in, F_number_in⟩ := c.def_ 34 (d := d_number_in) rfl
  obtain ⟨fd_link_in, F_link_in⟩ := c.def_ 35 (d := d_link_in) rfl
  obtain ⟨fd_is_line, F_is_line⟩ := c.def_ 36 (d := d_is_line) rfl
  obtain ⟨fd_may_follow, F_may_follow⟩ := c.def_ 37 (d := d_may_follow) rfl
  obtain ⟨fd_Told___init__, F_Told___init__⟩ := c.def_ 38 (d := d_Told___init__) rfl
  obtain ⟨fd_Told_add, F_Told_add⟩ := c.def_ 39 (d := d_Told_add) rfl
  obtain ⟨fd_Told_arguments, F_Told_arguments⟩ := c.def_ 40 (d := d_Told_arguments) rfl
  obtain ⟨fd_told_modules, F_told_modules⟩ := c.def_ 41 (d := d_told_modules) rfl
  obtain ⟨fd_read_module, F_read_module⟩ := c.def_ 42 (d := d_read_module) rfl
  obtain ⟨fd_Module_read, F_Module_read⟩ := c.def_ 43 (d := d_Module_read) rfl
  obtain ⟨fd_l_shape, F_l_shape⟩ := c.def_ 44 (d := d_l_shape) rfl
  obtain ⟨fd_l_text, F_l_text⟩ := c.def_ 45 (d := d_l_text) rfl
  obtain ⟨fd_l_is_unlike_others, F_l_is_unlike_others⟩ := c.def_ 46 (d := d_l_is_unlike_others) rfl
  obtain ⟨fd_law, F_law⟩ := c.def_ 47 (d := d_law) rfl
  have e := hfa.symm.trans (He.glo_ok X G (c.fact 41 (f := .glo "law") rfl))
  cases e
  have bL := FunD.bindsA (ps := ["_law_script"]) F_law fun _ _ _ _ _ _ us hl => match us, hl with | [_], _ => rfl
  refine ⟨fd_law, fun s v => bL s [v] rfl, fun base _ _ => ?_⟩
  have g_l_take : FnAt P w K mg base CX0 1 "_law_take" ["_law_box_here", "_law_many"] (spTake) := ⟨⟨_, ok_take F_l_take m_int, F_l_take.bindsN fun _ _ _ _ _ _ us hl => match us, hl with | [_, _], _ => rfl⟩, F_l_take.kp, He.glo_ok X G (c.fact 0 (f := .glo "_law_take") rfl)⟩
  have g_l_pick : FnAt P w K mg base CX0 2 "_law_pick" ["_law_box_here", "_law_items"] (spPick K) := ⟨⟨_, ok_pick F_l_pick m_len g_l_take, F_l_pick.bindsN fun _ _ _ _ _ _ us hl => match us, hl with | [_, _], _ => rfl⟩, F_l_pick.kp, He.glo_ok X G (c.fact 1 (f := .glo "_law_pick") rfl)⟩
  have g_l_box : FnAt P w K mg base CX0 1 "_law_box" ["_law_script", "_law_k", "_law_own"] (spBox3 K) := ⟨⟨_, ok_box3 F_l_box m_int m_len m_abs, F_l_box.bindsN fun _ _ _ _ _ _ us hl => match us, hl with | [_, _, _], _ => rfl⟩, F_l_box.kp, He.glo_ok X G (c.fact 2 (f := .glo "_law_box") rfl)⟩
  have g_l_mixed : FnAt P w K mg base CX0 2 "_law_mixed" ["_law_box_here", "_law_items"] (spT K (dpb1 (fun xs : L Str => List.length xs ≤ 1000) (fun (xs zs : L Str) => List.Perm zs xs))) := ⟨⟨_, ok_mixed F_l_mixed m_list m_len m_range (g_l_take.imp imp_take), F_l_mixed.bindsN fun _ _ _ _ _ _ us hl => match us, hl with | [_, _], _ => rfl⟩, F_l_mixed.kp, He.glo_ok X G (c.fact 3 (f := .glo "_law_mixed") rfl)⟩
  have g_l_names : FnAt P w K mg base CX0 3 "_law_names" ["_law_box_here", "_law_many"] (spT K (dpb1 (fun n : Int => 0 ≤ n ∧ n ≤ 18) (fun n (zs : L Str) => Drn n zs))) := ⟨⟨_, ok_names F_l_names g_l_mixed, F_l_names.bindsN fun _ _ _ _ _ _ us hl => match us, hl with | [_, _], _ => rfl⟩, F_l_names.kp, He.glo_ok X G (c.fact 4 (f := .glo "_law_names") rfl)⟩
  have g_l_begins : FnAt P w K mg base CX0 1 "_law_begins" ["_law_module_here", "_law_known"] (spT K dpBeg) := ⟨⟨_, ok_begins F_l_begins , F_l_begins.bindsN fun _ _ _ _ _ _ us hl => match us, hl with | [_, _], _ => rfl⟩, F_l_begins.kp, He.glo_ok X G (c.fact 5 (f := .glo "_law_begins") rfl)⟩
  have g_l_goes : FnAt P w K mg base CX0 1 "_law_goes" ["_law_module_here", "_law_known"] (spT K dpGoe) := ⟨⟨_, ok_goes F_l_goes , F_l_goes.bindsN fun _ _ _ _ _ _ us hl => match us, hl with | [_, _], _ => rfl⟩, F_l_goes.kp, He.glo_ok X G (c.fact 6 (f := .glo "_law_goes") rfl)⟩
  have g_l_links : FnAt P w K mg base CX0 3 "_law_links" ["_law_box_here", "_law_module_here", "_law_known"] (spT K dpLinks) := ⟨⟨_, ok_links F_l_links m_range g_l_begins g_l_goes (g_l_take.imp imp_take) (g_l_pick.imp imp_pick), F_l_links.bindsN fun _ _ _ _ _ _ us hl => match us, hl with | [_, _, _], _ => rfl⟩, F_l_links.kp, He.glo_ok X G (c.fact 7 (f := .glo "_law_links") rfl)⟩
  have g_l_module : FnAt P w K mg base CX0 4 "_law_module" ["_law_box_here", "_law_name", "_law_sizes", "_law_called"] (spT K dpModule) := ⟨⟨_, ok_module F_l_module m_dict g_l_names (g_l_pick.imp imp_pickO) g_l_links, F_l_module.bindsN fun _ _ _ _ _ _ us hl => match us, hl with | [_, _, _, _], _ => rfl⟩, F_l_module.kp, He.glo_ok X G (c.fact 8 (f := .glo "_law_module") rfl)⟩
  have g_l_house : FnAt P w K mg base CX0 5 "_law_house" ["_law_box_here", "_law_many"] (spT K (dpb1 (fun n : Int => 0 ≤ n ∧ n ≤ 3) (fun n (ms : L DMd) => HouseOk n ms))) := ⟨⟨_, ok_house F_l_house m_range (g_l_take.imp imp_take) g_l_module, F_l_house.bindsN fun _ _ _ _ _ _ us hl => match us, hl with | [_, _], _ => rfl⟩, F_l_house.kp, He.glo_ok X G (c.fact 9 (f := .glo "_law_house") rfl)⟩
  have g_is_integer : FnAt P w K mg base CX0 1 "is_integer" ["value"] (spT K dpInt) := ⟨⟨_, ok_is_integer F_is_integer m_isinstance m_int m_bool, F_is_integer.bindsN fun _ _ _ _ _ _ us hl => match us, hl with | [_], _ => rfl⟩, F_is_integer.kp, He.glo_ok X G (c.fact 10 (f := .glo "is_integer") rfl)⟩
  have g_is_number : FnAt P w K mg base CX0 2 "is_number" ["value"] (spT K dpNum) := ⟨⟨_, ok_is_number F_is_number g_is_integer, F_is_number.bindsN fun _ _ _ _ _ _ us hl => match us, hl with | [_], _ => rfl⟩, F_is_number.kp, He.glo_ok X G (c.fact 11 (f := .glo "is_number") rfl)⟩
  have g_is_sequence : FnAt P w K mg base CX0 1 "is_sequence" ["value"] (spT K dpSeq) := ⟨⟨_, ok_is_sequence F_is_sequence m_isinstance m_list m_tuple, F_is_sequence.bindsN fun _ _ _ _ _ _ us hl => match us, hl with | [_], _ => rfl⟩, F_is_sequence.kp, He.glo_ok X G (c.fact 12 (f := .glo "is_sequence") rfl)⟩
  have g_is_name : FnAt P w K mg base CX0 1 "is_name" ["value"] (spT K dpName) := ⟨⟨_, ok_is_name F_is_name m_isinstance m_str m_len m_all v_SMALL, F_is_name.bindsN fun _ _ _ _ _ _ us hl => match us, hl with | [_], _ => rfl⟩, F_is_name.kp, He.glo_ok X G (c.fact 13 (f := .glo "is_name") rfl)⟩
  have g_is_end : FnAt P w K mg base CX0 2 "is_end" ["word"] (spT K (dp1 (fun z : Str => z.length ≤ 1000) endB)) := ⟨⟨_, ok_is_end F_is_end m_len m_all g_is_name, F_is_end.bindsN fun _ _ _ _ _ _ us hl => match us, hl with | [_], _ => rfl⟩, F_is_end.kp, He.glo_ok X G (c.fact 14 (f := .glo "is_end") rfl)⟩
  have g_are_fresh : FnAt P w K mg base CX0 2 "are_fresh" ["value", "taken"] (spT K (dp2 (fun v (_ : List Str) => Sm1 v) freshB)) := ⟨⟨_, ok_are_fresh F_are_fresh m_len m_all m_set g_is_sequence g_is_name, F_are_fresh.bindsN fun _ _ _ _ _ _ us hl => match us, hl with | [_, _], _ => rfl⟩, F_are_fresh.kp, He.glo_ok X G (c.fact 15 (f := .glo "are_fresh") rfl)⟩
  have g_is_pair : FnAt P w K mg base CX0 2 "is_pair" ["value"] (spT K (dp1 Sm1 pairB)) := ⟨⟨_, ok_is_pair F_is_pair m_isinstance m_tuple m_len m_all g_is_name, F_is_pair.bindsN fun _ _ _ _ _ _ us hl => match us, hl with | [_], _ => rfl⟩, F_is_pair.kp, He.glo_ok X G (c.fact 16 (f := .glo "is_pair") rfl)⟩
  have g_labels_in : FnAt P w K mg base CX0 3 "labels_in" ["calls"] (spT K (dp1 (γ := L Str) Sm1 labelsOf)) := ⟨⟨_, ok_labels_in F_labels_in g_is_sequence g_is_pair, F_labels_in.bindsN fun _ _ _ _ _ _ us hl => match us, hl with | [_], _ => rfl⟩, F_labels_in.kp, He.glo_ok X G (c.fact 17 (f := .glo "labels_in") rfl)⟩
  have g_is_there : FnAt P w K mg base CX0 3 "is_there" ["end", "names", "labels"] (spT K (dp3 (fun v (_ _ : List Str) => Sm1 v) thereB)) := ⟨⟨_, ok_is_there F_is_there m_isinstance m_str g_is_end, F_is_there.bindsN fun _ _ _ _ _ _ us hl => match us, hl with | [_, _, _], _ => rfl⟩, F_is_there.kp, He.glo_ok X G (c.fact 18 (f := .glo "is_there") rfl)⟩
  have g_is_link : FnAt P w K mg base CX0 4 "is_link" ["value", "begins", "goes", "labels"] (spT K (dp4 (fun v (_ _ _ : List Str) => Sm1 v) linkB)) := ⟨⟨_, ok_is_link F_is_link m_isinstance m_tuple m_len g_is_there g_is_number, F_is_link.bindsN fun _ _ _ _ _ _ us hl => match us, hl with | [_, _, _, _], _ => rfl⟩, F_is_link.kp, He.glo_ok X G (c.fact 19 (f := .glo "is_link") rfl)⟩
  have MC : ModC K (He.ga K "Module") := ⟨c_Module, na_Module_name, na_Module_inlets, na_Module_outlets, na_Module_stations, na_Module_links, na_Module_calls⟩
  have b_init := binds_Module___init__ F_Module___init__
  have gX_Module : MkAtX P w K mg base 5 "Module" ["self", "name", "inlets", "outlets", "stations", "links", "calls"] (spInitMod K (He.ga K "Module") (He.ga K "InvalidModule")) [] := ⟨⟨_, _, [], He.mkr_ok (c.fact 68 (f := .mkr "Module") rfl), ok_Mod_init F_Module___init__ MC rfl m_tuple m_all m_len g_is_name g_are_fresh g_is_sequence g_labels_in g_is_link S_InvalidModule, .nil, b_init⟩, m_Module⟩
  have eT := emB_ok x_emT
  obtain ⟨ds5, v5, b5⟩ := F_Module___init__.binds1 (ps := ["self", "name", "inlets", "outlets", "stations", "links", "calls"]) 6 0 (List.cons_ne_nil _ _) rfl fun T kV doc pm an cdv ct us its hu hi => by
    match us, hu, its, hi with
    | [u0, u1, u2, u3, u4, u5], _, [i0], _ => exact ⟨_, rfl, rfl⟩
  have gX_Module5 : MkAtX P w K mg base 5 "Module" ["self", "name", "inlets", "outlets", "stations", "links", "calls"] (spInitMod K (He.ga K "Module") (He.ga K "InvalidModule")) [.ref (He.dflAt ("Module", some "__init__") 0 K)] := by
    exact ⟨⟨_, _, ds5, He.mkr_ok (c.fact 68 (f := .mkr "Module") rfl), ok_Mod_init F_Module___init__ MC rfl m_tuple m_all m_len g_is_name g_are_fresh g_is_sequence g_labels_in g_is_link S_InvalidModule, v5, b5⟩, gX_Module.g⟩
  have TM : TyC K (He.ga K "Module") := tyB_ok x_ty_Module
  have HC : HouC K (He.ga K "House") := ⟨c_House, na_House_known, na_House_modules, na_House_shapes⟩
  have g_is_sequenceM : FnAt P w K mg base CX0 1 "is_sequence" ["value"] (spT K dpSeqM) := ⟨⟨_, ok_is_sequenceM F_is_sequence m_isinstance m_list m_tuple, F_is_sequence.bindsN fun _ _ _ _ _ _ us hl => match us, hl with | [_], _ => rfl⟩, F_is_sequence.kp, He.glo_ok X G (c.fact 12 (f := .glo "is_sequence") rfl)⟩
  have g_led_end : FnAt P w K mg base CX0 1 "led_end" ["label", "place"] (spT K dpLed) := ⟨⟨_, ok_led_end F_led_end , F_led_end.bindsN fun _ _ _ _ _ _ us hl => match us, hl with | [_, _], _ => rfl⟩, F_led_end.kp, He.glo_ok X G (c.fact 20 (f := .glo "led_end") rfl)⟩
  have g_shape_of : FnAt P w K mg base CX0 2 "shape_of" ["module", "shapes"] (spT K dpShape) := ⟨⟨_, ok_shape_of F_shape_of MC m_list m_tuple m_sorted g_led_end, F_shape_of.bindsN fun _ _ _ _ _ _ us hl => match us, hl with | [_, _], _ => rfl⟩, F_shape_of.kp, He.glo_ok X G (c.fact 21 (f := .glo "shape_of") rfl)⟩
  have g_loose_places : FnAt P w K mg base CX0 1 "loose_places" ["places", "links"] (spT K dpLoose) := ⟨⟨_, ok_loose F_loose_places m_list m_len, F_loose_places.bindsN fun _ _ _ _ _ _ us hl => match us, hl with | [_, _], _ => rfl⟩, F_loose_places.kp, He.glo_ok X G (c.fact 22 (f := .glo "loose_places") rfl)⟩
  have g_turned_about : FnAt P w K mg base CX0 1 "turned_about" ["ring"] (spT K (dp1 (α := L Str) (γ := U Str) (fun r : L Str => 0 < List.length r ∧ List.length r ≤ 1000) fun r => rotS r)) := ⟨⟨_, ok_turned F_turned_about m_min m_str m_tuple, F_turned_about.bindsN fun _ _ _ _ _ _ us hl => match us, hl with | [_], _ => rfl⟩, F_turned_about.kp, He.glo_ok X G (c.fact 23 (f := .glo "turned_about") rfl)⟩
  have g_ring_of : FnAt P w K mg base CX0 2 "ring_of" ["places", "links"] (spT K dpRing) := ⟨⟨_, ok_ring F_ring_of m_len g_loose_places g_turned_about, F_ring_of.bindsN fun _ _ _ _ _ _ us hl => match us, hl with | [_, _], _ => rfl⟩, F_ring_of.kp, He.glo_ok X G (c.fact 24 (f := .glo "ring_of") rfl)⟩
  have g_known_shapes : FnAt P w K mg base (L2.CX P w) 3 "known_shapes" ["modules"] (spTXH K (dpKnS K)) := ⟨⟨_, ok_known_shapes F_known_shapes MC g_shape_of g_ring_of S_NeverGoes, F_known_shapes.bindsN fun _ _ _ _ _ _ us hl => match us, hl with | [_], _ => rfl⟩, F_known_shapes.kp, He.glo_ok X G (c.fact 25 (f := .glo "known_shapes") rfl)⟩
  have g_ends_are_there : FnAt P w K mg base CX0 1 "ends_are_there" ["module", "known"] (spT K dpEnds) := ⟨⟨_, ok_ends F_ends_are_there MC, F_ends_are_there.bindsN fun _ _ _ _ _ _ us hl => match us, hl with | [_, _], _ => rfl⟩, F_ends_are_there.kp, He.glo_ok X G (c.fact 26 (f := .glo "ends_are_there") rfl)⟩
  have g_known_modules : FnAt P w K mg base (L2.CX P w) 3 "known_modules" ["modules"] (spTXH K dpKnown) := ⟨⟨_, ok_known_modules F_known_modules MC TM m_Module m_isinstance m_all m_enumerate g_is_sequenceM g_ends_are_there S_InvalidHouse, F_known_modules.bindsN fun _ _ _ _ _ _ us hl => match us, hl with | [_], _ => rfl⟩, F_known_modules.kp, He.glo_ok X G (c.fact 27 (f := .glo "known_modules") rfl)⟩
  have b_init : Binds K fd_House___init__ ["self", "modules"] [] := F_House___init__.bindsN fun _ _ _ _ _ _ us hl => match us, hl with | [_, _], _ => rfl
  have gX_House : MkAtX P w K mg base 4 "House" ["self", "modules"] (spInitT K (He.ga K "House") (dpHouI K)) [] := ⟨⟨_, _, [], He.mkr_ok (c.fact 74 (f := .mkr "House") rfl), ok_Hou_init F_House___init__ HC m_tuple g_known_modules g_known_shapes, .nil, b_init⟩, m_House⟩
  have g_names_line : FnAt P w K mg base CX0 1 "names_line" ["word", "names"] (spT K (dp2 (α := Str) (β := U Str) (γ := L Str) (fun w ns => w.length ≤ 10 ∧ List.length ns ≤ 100 ∧ ∀ z ∈ (show List Str from ns), z.length ≤ 100) fun w ns => nmLine w ns)) := ⟨⟨_, ok_names_line F_names_line m_len, F_names_line.bindsN fun _ _ _ _ _ _ us hl => match us, hl with | [_, _], _ => rfl⟩, F_names_line.kp, He.glo_ok X G (c.fact 28 (f := .glo "names_line") rfl)⟩
  have g_module_lines : FnAt P w K mg base CX0 3 "module_lines" ["module"] (spT K (dp1 (α := MOb) (γ := L Str) (fun o => TxtM o.m) fun o => modLines o.m)) := ⟨⟨_, ok_module_lines F_module_lines MC g_names_line, F_module_lines.bindsN fun _ _ _ _ _ _ us hl => match us, hl with | [_], _ => rfl⟩, F_module_lines.kp, He.glo_ok X G (c.fact 29 (f := .glo "module_lines") rfl)⟩
  have g_str_Module : StrAtC P w K mg base CX0 4 (He.ga K "Module") ["self"] (spMStr K) := ⟨_, _, He.eqO_ok (He.ba x_str_Module).1, (He.ba x_str_Module).2, ok_mstr F_Module___str__ g_module_lines, F_Module___str__.bindsN fun _ _ _ _ _ _ us hl => match us, hl with | [_], _ => rfl⟩
  have g_eq_Module : EqAtC P w K mg base CX0 7 (He.ga K "Module") ["self", "other"] (spMEq K) := ⟨_, _, eqB_ok x_eq_Module, ok_meq F_Module___eq__ MC TM m_Module m_isinstance m_str g_str_Module, F_Module___eq__.bindsN fun _ _ _ _ _ _ us hl => match us, hl with | [_, _], _ => rfl⟩
  have g_number_in : FnAt P w K mg base CX0 1 "number_in" ["text", "most"] (spT K (dp2 (fun (z : Str) (m : Int) => z.length ≤ 100000 ∧ m ≤ 600) numIn)) := ⟨⟨_, ok_number_in F_number_in m_all m_len m_int v_DIGITS, F_number_in.bindsN fun _ _ _ _ _ _ us hl => match us, hl with | [_, _], _ => rfl⟩, F_number_in.kp, He.glo_ok X G (c.fact 30 (f := .glo "number_in") rfl)⟩
  have g_link_in : FnAt P w K mg base CX0 3 "link_in" ["words"] (spT K dpLinkIn) := ⟨⟨_, ok_link_in F_link_in m_len v_MOST_DIGITS g_is_end g_number_in, F_link_in.bindsN fun _ _ _ _ _ _ us hl => match us, hl with | [_], _ => rfl⟩, F_link_in.kp, He.glo_ok X G (c.fact 31 (f := .glo "link_in") rfl)⟩
  have g_is_line : FnAt P w K mg base CX0 4 "is_line" ["words"] (spT K (dp1 (fun ws : List Str => WsOk ws) lineB)) := ⟨⟨_, ok_is_line F_is_line f_oC m_ORDER m_len m_all g_link_in g_is_name, F_is_line.bindsN fun _ _ _ _ _ _ us hl => match us, hl with | [_], _ => rfl⟩, F_is_line.kp, He.glo_ok X G (c.fact 32 (f := .glo "is_line") rfl)⟩
  have g_may_follow : FnAt P w K mg base CX0 1 "may_follow" ["word", "last"] (spT K (dp2 (fun (z : Str) (y : Option Str) => z ∈ ORD ∧ ∀ x, y = some x → x ∈ ORD) followB)) := ⟨⟨_, ok_may_follow F_may_follow f_oC m_ORDER, F_may_follow.bindsN fun _ _ _ _ _ _ us hl => match us, hl with | [_, _], _ => rfl⟩, F_may_follow.kp, He.glo_ok X G (c.fact 33 (f := .glo "may_follow") rfl)⟩
  have GT : TolC K (He.ga K "Told") := ⟨c_Told, na_Told_title, na_Told_rows, na_Told_calls, na_Told_links⟩
  have b_init : Binds K fd_Told___init__ ["self", "name"] [] := F_Told___init__.bindsN fun _ _ _ _ _ _ us hl => match us, hl with | [_, _], _ => rfl
  have gX_Told : MkAtX P w K mg base 2 "Told" ["self", "name"] (spInitG K (He.ga K "Told") dpTolI) [] := ⟨⟨_, _, [], He.mkr_ok (c.fact 81 (f := .mkr "Told") rfl), ok_Told_init F_Told___init__ GT, .nil, b_init⟩, m_Told⟩
  have g_Told_add : MthAt P w K mg base CX0 5 (He.ga K "Told") "add" ["self", "words"] (spMut K dpAdd) := ⟨_, _, He.meth_ok (c.fact 34 (f := .meth "Told" "add") rfl), ok_Told_add F_Told_add GT m_tuple g_link_in, F_Told_add.bindsN fun _ _ _ _ _ _ us hl => match us, hl with | [_, _], _ => rfl⟩
  have g_Told_arguments : MthAt P w K mg base CX0 1 (He.ga K "Told") "arguments" ["self"] (spT K dpArgs) := ⟨_, _, He.meth_ok (c.fact 35 (f := .meth "Told" "arguments") rfl), ok_Told_arguments F_Told_arguments GT m_tuple, F_Told_arguments.bindsN fun _ _ _ _ _ _ us hl => match us, hl with | [_], _ => rfl⟩
  have g_told_modules : FnAt P w K mg base CX0 6 "told_modules" ["text", "is_single"] (spT K dpTold) := ⟨⟨_, ok_told_modules F_told_modules m_enumerate c_Told gX_Told g_is_line g_may_follow g_Told_add g_Told_arguments, F_told_modules.bindsN fun _ _ _ _ _ _ us hl => match us, hl with | [_, _], _ => rfl⟩, F_told_modules.kp, He.glo_ok X G (c.fact 36 (f := .glo "told_modules") rfl)⟩
  have g_read_module : FnAt P w K mg base CX0 7 "read_module" ["text"] (spT K dpReadM) := ⟨⟨_, ok_read_module F_read_module m_isinstance m_str g_told_modules, F_read_module.bindsN fun _ _ _ _ _ _ us hl => match us, hl with | [_], _ => rfl⟩, F_read_module.kp, He.glo_ok X G (c.fact 37 (f := .glo "read_module") rfl)⟩
  have CM_Module_read : CmAt P w K mg base CX0 8 (He.ga K "Module") "read" (spT K (dpMRead K)) := by
    obtain ⟨y1, y2⟩ := He.ba x_cm_Module_read
    obtain ⟨y2, y3⟩ := He.ba y2
    have rw_ := (ok_mread F_Module_read g_read_module gX_Module).raw (F_Module_read.bindsN fun _ _ _ _ _ _ us hl => match us, hl with | [_, _], _ => rfl) .nil
    exact ⟨_, _, _, cread_ok y1, He5.cmet_of y2 y3, rw_.imp fun vs H Q E h => by rw [List.append_nil]; exact h⟩
  have g_l_shape : FnAtG P w K mg base CX0 3 "_law_shape" ["_law_made"] (spT K (dp1 (fun o : MOb => Fn o.m) fun o => (shpA o.m).dat.shown)) := ⟨⟨_, ok_lshape F_l_shape MC m_repr, F_l_shape.bindsN fun _ _ _ _ _ _ us hl => match us, hl with | [_], _ => rfl⟩, F_l_shape.kp, He.glo_ok X G (c.fact 38 (f := .glo "_law_shape") rfl)⟩
  have g_l_text : FnAt P w K mg base CX0 1 "_law_text" ["_law_module_here"] (spT K (dp1 (fun m : DMd => TxtM m) modText)) := ⟨⟨_, ok_ltext F_l_text m_str, F_l_text.bindsN fun _ _ _ _ _ _ us hl => match us, hl with | [_], _ => rfl⟩, F_l_text.kp, He.glo_ok X G (c.fact 39 (f := .glo "_law_text") rfl)⟩
  have g_l_is_unlike_others : FnAt P w K mg base CX0 10 "_law_is_unlike_others" ["_law_module_here", "_law_made"] (spT K dpUnl) := ⟨⟨_, ok_lunl F_l_is_unlike_others MC TM m_len gX_Module g_eq_Module, F_l_is_unlike_others.bindsN fun _ _ _ _ _ _ us hl => match us, hl with | [_, _], _ => rfl⟩, F_l_is_unlike_others.kp, He.glo_ok X G (c.fact 40 (f := .glo "_law_is_unlike_others") rfl)⟩
  have TH := tyB_ok x_ty_House
  refine FnOkG.imp (ok_law F_law eT MC TM HC TH f_a1 f_a2 f_a3 m_Module m_range m_max m_min m_len m_tuple m_list m_repr m_str g_l_box g_l_house gX_Module gX_Module5 gX_House g_l_shape g_l_text g_l_is_unlike_others CM_Module_read g_str_Module g_eq_Module) imp_law
end WW
open PySem PySem.W PySem.Calls PyProof.Rows
set_option maxRecDepth 100000 in
set_option maxHeartbeats 0 in
theorem PySem.Challenge.cw_waitworks_k09_modules_made_holds : PySem.Challenge.rw_waitworks_k09_modules_made.Holds := by
  w_on; o_law
  refine HandSHeadRun.head_any (r := OpenLaw.row PySem.Challenge.rw_waitworks_k09_modules_made) (q := view (OpenLaw.row PySem.Challenge.rw_waitworks_k09_modules_made).prog [60]) (H := WW.hk) (ob := WW.ob) (M := WW.steps) (loose := WW.loose) (d := HandSHeadRun.topDef (OpenLaw.row PySem.Challenge.rw_waitworks_k09_modules_made).prog 60) (kwd := []) WW.ob_eq
    (by kernel_rfl) (fun s => by kernel_rfl) WW.run (by kernel_rfl) (by kernel_rfl) (by kernel_rfl) (by rfl) (by first | assumption | decide +kernel) (by decide +kernel) ⟨rfl, rfl, rfl, rfl, rfl, by decide +kernel⟩ ?hw ?hc
  case hw => w_witness2
  case hc =>
    refine WW.walk_G (l := PySem.Challenge.rw_waitworks_k09_modules_made) (n := 63) (k := 11) (x := "_law_script") rfl (by decide) (by kernel_rfl) ⟨rfl, by decide, by decide⟩ ?F
    intro w mg fa h Y G hmg0
    obtain ⟨K, KX, c⟩ := Y
    have hmg : mg ("law" : PySem.Str) = some (.ref fa) := by
      have e : (HandSHeadRun.topDef (OpenLaw.row PySem.Challenge.rw_waitworks_k09_modules_made).prog 60).name = ("law" : PySem.Str) := by kernel_rfl
      rw [← e]
      exact hmg0
    obtain ⟨fd, hb, hF⟩ := WW.facts (P := (PySem.Challenge.rw_waitworks_k09_modules_made).prog) (w := w) KX G hmg c rfl (by kernel_rfl)
    exact ⟨K, fd, WW.spLaw K, KX, hb, fun H a ns hl _ hS => ⟨a, ns, rfl, hS, hl, fun _ => rfl⟩, hF⟩
