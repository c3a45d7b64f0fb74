import PyProof.Rows.All
import Wide.All
import OpenK.AllK
import Wide.FinOn
import HandS.ForMost
import HandS.More
import HandS.Star
import HandS.ClsMeth
import HandS.Property
import HandS.Defaults
import HandS.IsInst
import HandS.FStr
import HandS.Flow
import HandS.Style
import HandS.Zip
import HandS.Walk
import HandS.Evl
import HandS.TupAny
import HandS.SortRule
import HandS.SortInts
import HandS.DictTup
import HandS.ListItems
import HandS.Wide
import HandS.NoneIn
import HandS.Deep
import HandS.Head0
import HandS.Head1
import HandS.Head2
import HandS.HeadEnd
import HandS.HeadHook1
import HandS.HeadHook2
import HandS.Ends
import HandS.Words
import HandS.WordsExc
import PySem.Challenge.RW_smalltowns_k08_whole_shown_by_what_sizes
set_option Elab.async false
set_option linter.all false
set_option maxRecDepth 100000
set_option maxHeartbeats 4000000
/-! rules that the hand layer lacks, and short bundles for calls -/
namespace K8
open PySem PySem.Spec PyProof.Rows L2

/-! ### calls by positional promises -/
def tCa (sp : Sp) (t : TA) : TE := fun s H Q => t s H fun vs H1 => sp vs H1 Q E0
structure Cal (P : Program) (w : World) (K : PySem.W.Frag) (mg : Str → Option Value) (base : Heap) (x : Str) (k : Nat) (sp : Sp) : Prop where
  ex : ∃ f, FnR P w K mg base CX0 k f sp ∧ PySem.W.keepIn K (.ref f) = true ∧ mg x = some (.ref f)
structure MkC (P : Program) (w : World) (K : PySem.W.Frag) (mg : Str → Option Value) (base : Heap) (x : Str) (C : Addr) (k : Nat) (sp : Sp) : Prop where
  ex : ∃ f, Mk K C f ∧ FnR P w K mg base CX0 k f sp ∧ mg x = some (.ref C)
structure MeC (P : Program) (w : World) (K : PySem.W.Frag) (mg : Str → Option Value) (base : Heap) (C : Addr) (m : Str) (k : Nat) (sp : Sp) : Prop where
  ex : ∃ f, Meth K C m f ∧ FnR P w K mg base CX0 k f sp
/-- a static method of the class that the module's name x stands for -/
structure StC (P : Program) (w : World) (K : PySem.W.Frag) (mg : Str → Option Value) (base : Heap) (x : Str) (m : Str) (k : Nat) (sp : Sp) : Prop where
  ex : ∃ (C p g : Addr) (mc : Value) (rest : List Value), mg x = some (.ref C) ∧ ClX.CRead K C mc ∧ PySem.W.findCls K (.ref C) mc m = some (.get (.builtin "staticmethod.__get__") (.ref p) .none (.ref C)) ∧
    PySem.W.recIn K p "staticmethod" = some (.ref g :: rest) ∧ PySem.W.keepIn K (.ref g) = true ∧ FnR P w K mg base CX0 k g sp
structure PrC (P : Program) (w : World) (K : PySem.W.Frag) (mg : Str → Option Value) (base : Heap) (C : Addr) (f : Str) (k : Nat) (sp : Sp) : Prop where
  ex : ∃ (p g : Addr) (fd : FuncData) (ps : List Str), PropOf K C f p g ∧ FnOk P w K mg base CX0 k g fd ps sp ∧ Binds K fd ps []
structure InC (P : Program) (w : World) (K : PySem.W.Frag) (mg : Str → Option Value) (base : Heap) (C : Addr) (k : Nat) (sp : Sp) : Prop where
  ex : ∃ g, StX.CallO K C g ∧ FnR P w K mg base CX0 k g sp

section
variable {X : Cx} {k : Nat} {f C : Addr} {sp : Sp} {x m : Str} {e o fe : Expr} {es : List Expr} {t : TA} {ta te tf : TE} {pn pos apos kpos : Pos}
theorem pe_cal (c : Cal X.prog X.w X.K X.mg X.base x k sp) (hr : Room k X.A) (ha : PA X (e :: es) t) (hg : Gl X x := by rfl)
    (hdb : (x == ("__debug__" : Str)) = false := by decide) (he : starEach (e :: es) X.env = (false, eval e X.env) :: starEach es X.env := by rfl) (hpl : (backTo pos (starEach es X.env)).any (·.1) = false := by rfl) :
    PE X (.Call (.Name x pn) (e :: es) [] pos) (tCa sp t) := by
  obtain ⟨f, F, hk, hm⟩ := c.ex
  refine ⟨fun pins s σ H Q I h => ?_⟩
  refine wpAny_Call_Name_kw (ld_glob I hg hm ?_ hdb)
  refine PySem.W.callWith_K (h₀ := X.base) I.ok.mod.kin hk (thn (ha.run pos pins s σ H _ I h) fun us s1 ⟨vs, H1, I1, r, q⟩ => ⟨I1.kIn, ?_⟩) he hpl
  exact wpAny_call (run_fnR F hr pass0 I1 r q)
theorem pe_cal0 (c : Cal X.prog X.w X.K X.mg X.base x k sp) (hr : Room k X.A) (hg : Gl X x := by rfl) (hdb : (x == ("__debug__" : Str)) = false := by decide) : PE X (.Call (.Name x pn) [] [] pos) (tCa sp tNil) := by
  obtain ⟨f, F, hk, hm⟩ := c.ex
  refine ⟨fun pins s σ H Q I h => ?_⟩
  refine wpAny_Call_Name_kw (ld_glob I hg hm ?_ hdb)
  exact PySem.W.callWith_K0 I.kIn hk (wpAny_call (run_fnR (us := []) F hr pass0 I .nil h))
theorem pe_mk (c : MkC X.prog X.w X.K X.mg X.base x C k sp) (hr : Room (k + 1) X.A) (ha : PA X (e :: es) t) (hg : Gl X x := by rfl)
    (hdb : (x == ("__debug__" : Str)) = false := by decide) (he : starEach (e :: es) X.env = (false, eval e X.env) :: starEach es X.env := by rfl) (hpl : (backTo pos (starEach es X.env)).any (·.1) = false := by rfl) :
    PE X (.Call (.Name x pn) (e :: es) [] pos) (StX.tMakeR C sp E0 t) := by
  obtain ⟨f, M, F, hm⟩ := c.ex
  exact StX.pe_makeR M F hr hg hm pass0 ha hdb he hpl
theorem pe_mk0 (c : MkC X.prog X.w X.K X.mg X.base x C k sp) (hr : Room (k + 1) X.A) (hg : Gl X x := by rfl) (hdb : (x == ("__debug__" : Str)) = false := by decide) : PE X (.Call (.Name x pn) [] [] pos) (StX.tMakeR C sp E0 tNil) := by
  obtain ⟨f, M, F, hm⟩ := c.ex
  refine ⟨fun pins s σ H Q I h => ?_⟩
  refine wpAny_Call_Name_kw (ld_glob I hg hm ?_ hdb)
  exact PySem.W.callWith_K0 I.kIn M.kp (StX.run_makeR (us := []) M F hr pass0 I .nil h)
theorem pe_me {pl : Sem Bool} (he : PE X o ta) (c : Cls X.K C) (h : MeC X.prog X.w X.K X.mg X.base C m k sp) (hr : Room k X.A) (ha : PA X (e :: es) t)
    (hst : starEach (e :: es) X.env = (false, eval e X.env) :: starEach es X.env := by rfl) (hpl : (backTo pos (starEach es X.env)).any (·.1) = false := by rfl)
    (ht : eval (.Call (.Attribute o m apos) (e :: es) [] pos) X.env = (do
      let ov ← eval o X.env
      standAt apos.atName
      let (f, first) ← holding [ov] (getMethod ov m pl)
      callWith pos f first (backTo pos (starEach (e :: es) X.env)) (backToKw pos (keywordEach [] X.env))) := by rfl) :
    PE X (.Call (.Attribute o m apos) (e :: es) [] pos) (tMethR C m sp E0 ta t) := by
  obtain ⟨f, M, F⟩ := h.ex
  exact pe_methR (pl := pl) he c M F hr pass0 ha hst hpl ht
/-- x.m(e, ..), x a class of the module, m a static method -/
theorem pe_st {pl : Sem Bool} (c : StC X.prog X.w X.K X.mg X.base x m k sp) (hr : Room k X.A) (ha : PA X (e :: es) t) (hg : Gl X x := by rfl) (hdb : (x == ("__debug__" : Str)) = false := by decide)
    (hst : starEach (e :: es) X.env = (false, eval e X.env) :: starEach es X.env := by rfl) (hpl : (backTo pos (starEach es X.env)).any (·.1) = false := by rfl)
    (ht : eval (.Call (.Attribute (.Name x pn) m apos) (e :: es) [] pos) X.env = (do
      let ov ← eval (.Name x pn) X.env
      standAt apos.atName
      let (f, first) ← holding [ov] (getMethod ov m pl)
      callWith pos f first (backTo pos (starEach (e :: es) X.env)) (backToKw pos (keywordEach [] X.env))) := by rfl) :
    PE X (.Call (.Attribute (.Name x pn) m apos) (e :: es) [] pos) (tCa sp t) := by
  obtain ⟨C, p, g, mc, rest, hm, rd, fc, rc, kp, F⟩ := c.ex
  refine ⟨fun pins s σ H Q I h => ?_⟩
  refine PySem.W.methodCall_KW (pl := pl) (thn ((pe_glob (v := .ref C) hg hm rfl hdb).run pins s σ H (fun v H1 => v = .ref C ∧ t σ H1 fun vs H2 => sp vs H2 Q E0) I ⟨rfl, h⟩) fun u s1 ⟨y, H1, I1, ry, ey, q⟩ => ?_) ht
  subst ey
  obtain rfl : u = Value.ref C := ry
  refine PySem.W.method_cls I1.kIn rd.ga (PySem.W.cls_bind I1.kIn rd.rd fc (wpAny_call (PySem.W.sm_get (s := { s1 with toks := s1.toks + 1 }) I1.kIn rc (PySem.W.handed_on rfl ?_))))
  have I2 : Inv X pins σ H1 { s1 with toks := s1.toks + 1 } := I1.tok _
  refine PySem.W.callWith_K (first := []) (h₀ := X.base) I.ok.mod.kin kp (thn (ha.run pos pins _ σ H1 _ I2 q) fun us s3 ⟨vs, H2, I3, rv, q2⟩ => ⟨I3.kIn, ?_⟩) hst hpl
  exact wpAny_call (run_fnR F hr pass0 I3 rv q2)
/-- e.f, a property -/
theorem pe_pr (he : PE X e ta) (c : Cls X.K C) (h : PrC X.prog X.w X.K X.mg X.base C m k sp) (hr : Room (k + 1) X.A) (hab : attributeBase e m X.env (eval e X.env) = eval e X.env := by rfl) : PE X (.Attribute e m pos) (tProp C sp [] E0 ta) := by
  obtain ⟨p, g, fd, ps, hp, F, hb⟩ := h.ex
  exact pe_prop he c hp F hr hb .nil pass0 hab
/-- f(e, ..), f an expression that gives an instance -/
theorem pe_in (hf : PE X fe tf) (c : InC X.prog X.w X.K X.mg X.base C k sp) (hr : Room k X.A) (ha : PA X (e :: es) t)
    (ht : eval (.Call fe (e :: es) [] pos) X.env = (do callWith pos (← eval fe X.env) [] (backTo pos (starEach (e :: es) X.env)) (backToKw pos (keywordEach [] X.env))) := by rfl)
    (he : starEach (e :: es) X.env = (false, eval e X.env) :: starEach es X.env := by rfl) (hpl : (backTo pos (starEach es X.env)).any (·.1) = false := by rfl) : PE X (.Call fe (e :: es) [] pos) (StX.tCallO X C sp E0 tf t) := by
  obtain ⟨g, O, F⟩ := c.ex
  exact StX.pe_callO hf O F hr pass0 ha ht he hpl

/-! ### o.m(k = e): one keyword, no positional value -/
structure KwC (P : Program) (w : World) (K : PySem.W.Frag) (mg : Str → Option Value) (base : Heap) (C : Addr) (m kw : Str) (k : Nat) (sp : Sp) : Prop where
  ex : ∃ (f : Addr) (fd : FuncData) (ps : List Str), Meth K C m f ∧ FnOk P w K mg base CX0 k f fd ps sp ∧ ∀ (s : Shared) (u v : Value), BindsTo s fd ⟨[u], [(kw, v)]⟩ (ps.zip [u, v])
def tMeK (C : Addr) (m : Str) (sp : Sp) (ta te : TE) : TE := fun σ H Q => ta σ H fun x H1 => ∃ a dx fs, x = .ref a ∧ H1 a = some (.ins C dx fs) ∧ fs.lookup m = none ∧ te σ H1 fun y H2 => sp [x, y] H2 Q E0
theorem pe_mek {kw : Str} {pl : Sem Bool} (he : PE X o ta) (c : Cls X.K C) (h : KwC X.prog X.w X.K X.mg X.base C m kw k sp) (hr : Room k X.A) (ha : PE X e te)
    (ht : eval (.Call (.Attribute o m apos) [] [⟨some kw, e, kpos⟩] pos) X.env = (do
      let ov ← eval o X.env
      standAt apos.atName
      let (f, first) ← holding [ov] (getMethod ov m pl)
      callWith pos f first (backTo pos (starEach [] X.env)) (backToKw pos (keywordEach [⟨some kw, e, kpos⟩] X.env))) := by rfl)
    (hall : (backToKw pos (keywordEach [⟨some kw, e, kpos⟩] X.env)).all (·.1.isSome) = true := by rfl) (hks : (backToKw pos (keywordEach [⟨some kw, e, kpos⟩] X.env)).filterMap (·.1) = [kw] := by rfl)
    (hpl : ((backTo pos (starEach [] X.env)).any (·.1) || (backToKw pos (keywordEach [⟨some kw, e, kpos⟩] X.env)).any (·.1.isNone)) = false := by rfl) :
    PE X (.Call (.Attribute o m apos) [] [⟨some kw, e, kpos⟩] pos) (tMeK C m sp ta te) := by
  obtain ⟨f, fd, ps, M, F, hb⟩ := h.ex
  refine ⟨fun pins s σ H Q I h => ?_⟩
  refine PySem.W.methodCall_KW (pl := pl) (thn (he.run pins s σ H _ I h) fun u s1 ⟨x, H1, I1, rx, a, dx, fs, ex, ea, l, q⟩ => ?_) ht
  subst ex
  obtain rfl : u = Value.ref a := rx
  refine getmeth_ok I1 ea c M l ?_
  have hk : PK X [⟨some kw, e, kpos⟩] (tCons te tNil) := pk_cons ha pk_nil
  refine PySem.W.callWith_KW0 (first := [.ref a]) (h₀ := X.base) I.ok.mod.kin M.kp hall (thn (hk.run pos pins s1 σ H1 (fun zs H2 => ∃ y, zs = [y] ∧ sp [.ref a, y] H2 Q E0) I1 ?_) fun ws s2 ⟨zs, H2, I2, rz, y, ez, q2⟩ => ⟨I2.kIn, ?_⟩) hpl
  · have q' : te σ H1 fun y H2 => sp [.ref a, y] H2 Q E0 := q
    exact (show te σ H1 (fun y H2 => ∃ y', y :: [] = [y'] ∧ sp [.ref a, y'] H2 Q E0) from by
      have e0 : (fun y H2 => sp [.ref a, y] H2 Q E0) = (fun (y : V) (H2 : Hp) => ∃ y', y :: [] = [y'] ∧ sp [.ref a, y'] H2 Q E0) := by
        funext y H2
        refine propext ⟨fun z => ⟨y, rfl, z⟩, fun ⟨y', e1, z⟩ => ?_⟩
        cases e1
        exact z
      rw [← e0]
      exact q')
  · subst ez
    obtain ⟨w1, rfl, rw1⟩ := vals1 rz
    rw [hks]
    refine wpAny_call (codeAny_mono (F.run X.A X.stack s2 H2 ⟨[.ref a], [(kw, w1)]⟩ [.ref a, w1] [.ref a, y] Q E0 hr I2.env0 (hb s2 (.ref a) w1) (.cons rfl (.cons rw1 .nil)) q2) fun r s' hq => ?_)
    cases r with
    | error er => exact False.elim hq
    | ok fl =>
      cases fl with
      | ret u => exact I2.after hq
      | next => exact False.elim hq
      | brk => exact False.elim hq
      | cont => exact False.elim hq

/-! ### o.f as a target -/
def gFld (K : PySem.W.Frag) (to : TE) (f : Str) : TG := fun v σ H Q => to σ H fun x H1 => ∃ a C dx fs, x = .ref a ∧ H1 a = some (.ins C dx fs) ∧ Cls K C ∧ NoAttr K C f ∧ fs.length < 1000 ∧ Q σ (upd H1 a (.ins C dx (putF f v fs)))
theorem pg_fld (ho : PE X o ta) : PG X (.Attribute o m pos) (gFld X.K ta m) := by
  refine ⟨fun pins s σ H v u Q I r h => ?_⟩
  rw [assign_Attribute]
  refine wpAny_bind (wpAny_holding (thn (ho.run pins s σ H _ I h) fun ov s1 ⟨x, H1, I1, rx, a, C, dx, fs, ex, ea, c, n, l, q⟩ => ?_))
  subst ex
  obtain rfl : ov = Value.ref a := rx
  refine wpAny_bind (wpAny_standAt (wpAny_bind (wpAny_holding (setattr_ok I1 ea c n l r fun s2 I2 => ?_))))
  exact wpAny_release ⟨σ, _, I2, q⟩

/-! ### t[::-1], a tuple -/
def tRevT (K : PySem.W.Frag) (te : TE) : TE := fun σ H Q => te σ H fun x H1 => ∃ a xs, x = .ref a ∧ SqT K H1 a xs ∧ ∀ p, H1 p = none → Q (.ref p) (upd H1 p (.tup xs.reverse))
end
end K8

set_option maxRecDepth 100000
set_option maxHeartbeats 4000000
/-! the slice [::-1] of a tuple, a text times a number, sorted(d.items()) of a dict of ints -/
namespace K8
open PySem PySem.Spec PyProof.Rows L2

/-! ### t[::-1] -/
section
variable {prog : Program} {w : World} {A : Around} {E : Value → Shared → Prop} {s : Shared}
theorem rev_pick (xs : Array Value) : (List.range xs.size).filterMap (fun (m : Nat) => xs[(((xs.size : Int) - 1) + (m : Int) * (-1)).toNat]?) = xs.toList.reverse := by
  have e : (fun (m : Nat) => xs[(((xs.size : Int) - 1) + (m : Int) * (-1)).toNat]?) = (fun j => xs[j]?) ∘ fun m => xs.size - 1 - m := by
    funext m
    have : (((xs.size : Int) - 1) + (m : Int) * (-1)).toNat = xs.size - 1 - m := by omega
    show xs[_]? = xs[_]?
    rw [this]
  rw [e, ← List.filterMap_map, PySem.W.krv_range, List.filterMap_reverse, PySem.W.krv_all]
theorem rev_places (n : Nat) : Builtin.Slice.slicePlaces ((n : Int) - 1) (-1) (-1) = n := by
  unfold Builtin.Slice.slicePlaces
  have h1 : ¬ ((-1 : Int) > 0) := by omega
  simp only [h1, if_false]
  by_cases h : (n : Int) - 1 > -1
  · rw [if_pos h]
    have e : -(-1 : Int) = 1 := rfl
    rw [e, Int.ediv_one]
    omega
  · rw [if_neg h]
    have : n = 0 := by omega
    subst this
    rfl
theorem applied_rev {sl : Addr} {u : Tok} {n : Nat} {Q : Int × Int × Nat → Shared → Prop} (hs : s.heap.IsSliceOf sl .none .none (.int (-1) u))
    (h : Q ((n : Int) - 1, -1, n) s) : wpAny (model prog w) A (Builtin.Slice.sliceApplied (.ref sl) (pure (n : Int))) Q E s := by
  obtain ⟨os, hos, hcs, hds⟩ := id hs
  unfold Builtin.Slice.sliceApplied Builtin.Slice.sliceFields
  refine wpAny_bind (wpAny_bind (wpAny_field hos hds (x := .none) rfl (wpAny_bind (wpAny_field hos hds (x := .none) rfl (wpAny_bind (wpAny_field hos hds (x := .int (-1) u) rfl (wpAny_pure ?_)))))))
  refine wpAny_bind (slicePart_int ?_)
  show wpAny _ _ (if ((-1 : Int) == 0) = true then _ else _) _ _ s
  rw [if_neg (by decide)]
  refine wpAny_bind (slicePart_none (wpAny_bind (slicePart_none (wpAny_bind (wpAny_pure ?_)))))
  show wpAny _ _ (pure ((n : Int) - 1, (-1 : Int), Builtin.Slice.slicePlaces ((n : Int) - 1) (-1) (-1))) _ _ s
  rw [rev_places]
  exact wpAny_pure h
theorem getItem_rev {t sl : Addr} {items : Array Value} {u : Tok} {Q : Value → Shared → Prop} (ht : IsTup s.heap t items) (hs : s.heap.IsSliceOf sl .none .none (.int (-1) u))
    (h : Q (.ref s.heap.objs.size) { s with heap := s.heap.push { cls := .type "tuple", data := .seq items.toList.reverse.toArray } })
    (hsz : items.size ≤ sizeLine) : wpAny (model prog w) A (getItem (.ref t) (.ref sl)) Q E s := by
  have hz : sizeOk (.seq items.toList.reverse.toArray) := by
    show items.toList.reverse.toArray.size ≤ sizeLine
    rw [List.size_toArray, List.length_reverse, Array.length_toList]
    exact hsz
  obtain ⟨os, hos, hcs, hds⟩ := id hs
  have hTs : s.TypeIs (.ref sl) "slice" := ⟨os, hos, hcs⟩
  unfold getItem
  try with_reducible refine wpAny_holding ?_
  first | refine wpAny_bind (wpAny_pure ?_) | skip
  refine wpAny_bind (wpAny_sequenceKey ht.typeIs (by decide) ?_)
  refine wpAny_bind (wpAny_callSpecial?_slot (name := Str.ofString "__getitem__") ht.typeIs PyProof.Rows.slot_tuple_getitem
    (wpAny_call_entry PyProof.Rows.slot_tuple_getitem ht.typeIs entry_tuple_getitem ?_ (args_tuple_getitem _ _)))
  show wpAny _ _ (Builtin.Tuple.tupleItemsOf (.ref t) >>= _) _ _ s
  refine wpAny_bind (tupleItemsOf_ ht ?_)
  refine wpAny_bind (wpAny_typeOf hTs ?_)
  rw [if_pos (by decide)]
  refine wpAny_bind (applied_rev hs ?_)
  have hno : ¬ ((((items.size : Int) - 1) == 0 && (-1 : Int) == 1 && items.size == items.size) = true) := by simp
  show wpAny _ _ (if (((items.size : Int) - 1) == 0 && (-1 : Int) == 1 && items.size == items.size) = true then _ else _) _ _ s
  rw [if_neg hno, rev_pick]
  first
    | exact wpAny_bind (m := Builtin.Tuple.tupleExact _) (wpAny_newObj_type (wpAny_pure ⟨_, rfl, wpAny_pure h⟩) hz)
    | exact wpAny_bind (m := Builtin.Tuple.tupleExact _) (wpAny_newObj_type (wpAny_bind (wpAny_pure (wpAny_pure ⟨_, rfl, wpAny_pure h⟩))) hz)
    | exact wpAny_bind (wpAny_bind (m := Builtin.Tuple.tupleExact _) (wpAny_newObj_type (wpAny_pure (wpAny_pure ⟨_, rfl, wpAny_pure h⟩)) hz))
    | exact wpAny_bind (wpAny_bind (m := Builtin.Tuple.tupleExact _) (wpAny_newObj_type (wpAny_pure ⟨_, rfl, wpAny_pure h⟩) hz))
end
section
variable {X : Cx}
theorem pe_revT {e : Expr} {te : TE} {k : Nat} {p1 p2 p3 pos : Pos} (he : PE X e te) : PE X (.Subscript e (.Slice none none (some (.UnaryOp .USub (.Constant (.int 1) k p1) p2)) p3) pos) (tRevT X.K te) := by
  refine ⟨fun pins s σ H Q I h => ?_⟩
  refine Subscript_ (thn (he.run pins s σ H _ I h) fun v s1 ⟨x, H1, I1, r1, q1⟩ => ?_)
  obtain ⟨a, xs, ex, hx, q⟩ := q1
  subst ex
  cases r1
  have hst : PO X (some (.UnaryOp .USub (.Constant (.int 1) k p1) p2)) (tPart (tUn (rU fun i => .int (-i)) (tC (.int 1)))) := po_some (pe_un un_neg pe_int)
  refine wpAny_Slice (thn (po_none.run pins s1 σ H1 (fun o H2 => o = none ∧ H2 = H1) I1 ⟨rfl, rfl⟩) fun vl s2 ⟨l, H2, I2, pl, el, e2⟩ => ?_)
  subst el e2
  refine thn (po_none.run pins s2 σ H2 (fun o H3 => o = none ∧ H3 = H2) I2 ⟨rfl, rfl⟩) fun vu s3 ⟨u, H3, I3, pu, eu, e3⟩ => ?_
  subst eu e3
  refine thn (hst.run pins s3 σ H3 (fun o H4 => o = some (-1) ∧ H4 = H3) I3 ⟨1, rfl, -1, rfl, rfl, rfl⟩) fun vs s4 ⟨o, H4, I4, ps, eo, e4⟩ => ?_
  subst eo e4
  cases pl
  cases pu
  cases ps with
  | int _ tk =>
  have I5 : Inv X pins σ H4 { s4 with heap := s4.heap.push { cls := .type "slice", data := .fields #[.none, .none, .int (-1) tk] } } := I4.kept (t' := s4.toks) fun b ob q => Heap.get?_push_of_some _ q
  obtain ⟨its, r, ht, hz⟩ := I5.tuple hx
  show wpAny (model X.prog X.w) X.A (subscriptTail e (.Slice none none (some (.UnaryOp .USub (.Constant (.int 1) k p1) p2)) p3) (.ref a) (.ref s4.heap.objs.size)) (EP X pins σ Q) X.xe { s4 with heap := s4.heap.push { cls := .type "slice", data := .fields #[.none, .none, .int (-1) tk] } }
  refine tail_any (ops := [.ref a, .ref s4.heap.objs.size]) ht.typeIs PyProof.Rows.slot_tuple_getitem.lookup ?_ (by with_unfolding_all rfl)
  refine getItem_rev ht (Heap.IsSliceOf.new ..) ?_ (by rw [List.size_toArray, ← r.length]; exact hz)
  refine ⟨.ref _, _, I5.laid (t' := s4.toks) (o := .tup xs.reverse) (fun b ob q => Heap.get?_push_of_some _ q) (Nat.le_refl _) ?_, rfl, q _ (I5.hok.fresh (Nat.le_refl _))⟩
  exact ⟨by rw [List.length_reverse]; exact hz, _, r.reverse, IsTup.new _ _⟩

/-! ### text * number -/
theorem rep_size (a : Array Nat) : ∀ (n : Nat) (acc : Array Nat), ((List.replicate n a).foldl (· ++ ·) acc).size = acc.size + n * a.size
  | 0, acc => by simp
  | n + 1, acc => by
    rw [List.replicate_succ, List.foldl_cons, rep_size a n, Array.size_append, Nat.succ_mul]
    omega
def rRepS : R2 := fun x y H Q => ∃ (z : Str) (i : Int), x = .str z ∧ y = .int i ∧ 1 < i ∧ i ≤ 1000 ∧ 0 < z.length ∧ z.length ≤ 1000 ∧ Q (.str ⟨(List.replicate i.toNat z.cps).foldl (· ++ ·) #[]⟩) H
theorem op_repS : OpR X (binaryOp .Mult) rRepS := by
  intro pins s σ H x y v u Q I rx ry h
  obtain ⟨z, i, rfl, rfl, h1, h2, h3, h4, q⟩ := h
  obtain ⟨t, rfl⟩ := rx
  obtain ⟨t', rfl⟩ := ry
  have e1 : ¬ i < 1 := by omega
  have hm : z.length * i.toNat ≤ 1000 * 1000 := Nat.mul_le_mul h4 (by omega)
  have e2 : (i == 1 || z.length == 0) = false := by
    rw [Bool.or_eq_false_iff]
    exact ⟨beq_eq_false_iff_ne.mpr (by omega), beq_eq_false_iff_ne.mpr (by omega)⟩
  refine P.mul_str ?_ (fun _ _ => ?_) (fun _ _ => ?_) ?_
  · rw [decide_eq_false (by omega), decide_eq_false (by omega)]
    rfl
  · have hd : (9223372036854775 : Int) ≤ (2 ^ 63 - 1) / i := by
      refine Int.le_ediv_of_mul_le (by omega) ?_
      calc (9223372036854775 : Int) * i ≤ 9223372036854775 * 1000 := Int.mul_le_mul_of_nonneg_left h2 (by decide)
        _ ≤ 2 ^ 63 - 1 := by decide
    omega
  · unfold Builtin.Str.tooLong
    have hl : sizeLine = 16777216 := sizeLine_eq
    first
      | exact decide_eq_false (by omega)
      | (simp; omega)
  · rw [if_neg e1, if_neg (by rw [e2]; exact Bool.false_ne_true)]
    refine ⟨?_, .str _, H, I.tok _, ⟨_, rfl⟩, q⟩
    show ((List.replicate i.toNat z.cps).foldl (· ++ ·) #[]).size ≤ sizeLine
    have hz : z.cps.size = z.length := rfl
    have hl : sizeLine = 16777216 := sizeLine_eq
    rw [rep_size, hz, Nat.mul_comm i.toNat z.length]
    simp only [Array.size_empty]
    omega
end
end K8

set_option maxRecDepth 100000
set_option maxHeartbeats 4000000
/-! sorted(d.items()) of a dict of ints -/
namespace K8
open PySem PySem.Spec PyProof.Rows L2

theorem pairs_at {P : Program} {w : World} {K : Type} [DecidableEq K] {knd : PySem.KeyKind P w K} : ∀ {es : List DictEntry} {kvs : List (K × Value)}, Pairs knd es kvs → ∀ (j : Nat) (e : DictEntry), es[j]? = some e → ∃ kv, kvs[j]? = some kv ∧ knd.is kv.1 e.key = true ∧ e.val = kv.2
  | _, _, .nil, j, e, h => by simp at h
  | _, _, .cons a b r, 0, e, h => by
    have h' := Option.some.inj h
    subst h'
    exact ⟨_, rfl, a, b⟩
  | _, _, .cons a b r, j + 1, e, h => pairs_at r j e h
/-- the dict of ints that stands for pairs -/
def ditK (ps : List (Int × Int)) : List (L2.Key × V) := ps.map fun q => (Sum.inl q.1, V.int q.2)
section
variable {X : Cx}
def rItemsK : V → List V → Hp → VK → Prop := fun x xs H Q => ∃ (a : Addr) (kvs : List (L2.Key × V)), x = .ref a ∧ xs = [] ∧ H a = some (.dK kvs) ∧ ∀ p, H p = none → Q (.ref p) (upd H p (L2.DX.itemsO p a))
theorem mt_itemsK : MtR X "dict.items" rItemsK := by
  intro pins s σ H x xs v us Q I rx rxs h
  obtain ⟨a, kvs, rfl, rfl, ha, q⟩ := h
  cases rx
  cases rxs
  obtain ⟨z, hd, vs, rel, o, es, ep, ho, hx, hdat, _⟩ := I.hok a _ ha
  refine DT.callItems (es := es) (ep := ep) hd ⟨o, ho, hx, hdat⟩ ?_
  have hf : H s.heap.objs.size = none := I.hok.fresh (Nat.le_refl _)
  exact ⟨.ref s.heap.objs.size, upd H s.heap.objs.size (L2.DX.itemsO s.heap.objs.size a), I.laid (t' := s.toks) (fun b u e => Heap.get?_push_of_some _ e) (Nat.le_refl _) (L2.DX.itemsO_ok (Heap.get?_push_size _ rfl)), rfl, q _ hf⟩
/-- the pair of ints at an address -/
def rdP (h : Heap) (a : Addr) : Int × Int := match h.get? a with
  | some ⟨_, _, .seq its _, _⟩ => (match its.toList with
    | [.int i _, .int j _] => (i, j)
    | _ => (0, 0))
  | _ => (0, 0)
def kfP (h : Heap) : Value → Int × Int
  | .ref a => rdP h a
  | _ => (0, 0)
def adP : Value → Addr
  | .ref a => a
  | _ => 0
theorem list_at_eq {α : Type} : ∀ {l m : List α}, l.length = m.length → (∀ (j : Nat) (x : α), l[j]? = some x → m[j]? = some x) → l = m := fun {l m} hl h => List.ext_getElem? fun j => by
  cases e : l[j]? with
  | some x => exact (h j x e).symm
  | none =>
    have : l.length ≤ j := List.getElem?_eq_none_iff.mp e
    exact (List.getElem?_eq_none_iff.mpr (by omega)).symm
def rSortedK : List V → Hp → VK → Prop := fun vs H Q => ∃ (p d : Addr) (ps : List (Int × Int)), vs = [.ref p] ∧ H p = some (L2.DX.itemsO p d) ∧ H d = some (.dK (ditK ps)) ∧
  ∀ (H' : Hp) (l : Addr) (zs : List (Addr × Int × Int)), (∀ b o, H b = some o → H' b = some o) → (zs.map (·.2)).Perm ps → (zs.map (·.2)).Pairwise (fun a b => SrtO.lexB b a = false) → H' l = some (.lst (zs.map fun z => V.ref z.1)) →
    (∀ z ∈ zs, H' z.1 = some (.tup [.int z.2.1, .int z.2.2])) → Q (.ref l) H'
theorem cr_sortedK (hc : X.calm = true) : CallR X (.builtin "sorted") rSortedK := by
  intro pins s σ H xs us Q I r h
  obtain ⟨p, d, ps, rfl, hp, ha, q⟩ := h
  obtain rfl := Vals.ref1 r
  have view : s.heap.IsItemsView p d := (show ObjOk X.prog X.w H s.heap p (L2.DX.itemsO p d) from I.hok p _ hp).1
  obtain ⟨z, hd, vs, rel, o, es, ep, ho, hx, hdat, hks, hpr, hnd⟩ := I.hok d _ ha
  have l1 : (ditK ps).length = vs.length := Paired.length rel
  have l2 : es.size = vs.length := by
    have := hpr.length
    rw [Array.length_toList] at this
    exact this
  have l0 : (ditK ps).length = ps.length := List.length_map ..
  have les : es.size = ps.length := by omega
  have zl : ps.length ≤ sizeLine := by rw [← l0]; exact z
  have ent : ∀ (j : Nat) e, es[j]? = some e → ∃ q t t', ps[j]? = some q ∧ e.key = Value.int q.1 t ∧ e.val = Value.int q.2 t' := by
    intro j e he
    obtain ⟨kv, h1, h2, h3⟩ := pairs_at hpr j e (by rw [Array.getElem?_toList]; exact he)
    obtain ⟨hj, _⟩ := List.getElem?_eq_some_iff.mp h1
    have hj' : j < (ditK ps).length := by omega
    have hjp : j < ps.length := by omega
    have e2 : (ditK ps)[j]? = some (Sum.inl ps[j].1, V.int ps[j].2) := by
      unfold ditK
      rw [List.getElem?_map, List.getElem?_eq_getElem hjp]
      rfl
    obtain ⟨y, g1, g2, g3⟩ := LiI.paired_get rel e2
    rw [h1] at g1
    cases g1
    rw [← g2] at h2
    obtain ⟨t, ht⟩ := Value.isInt_shape (k := ps[j].1) (v := e.key) h2
    obtain ⟨t', ht'⟩ := g3
    exact ⟨ps[j], t, t', List.getElem?_eq_getElem hjp, ht, h3.trans ht'⟩
  refine DT.sortedI (es := es) (ep := ep) (I.ok.hd hc) view ⟨o, ho, hx, hdat⟩ (by omega) fun h' tk as hk hlt hl hG => ?_
  have lak : as.length = ps.length := by omega
  have nd : as.Nodup := List.Pairwise.imp (fun h => Nat.ne_of_lt h) hG.rise
  have pr : ∀ (j : Nat) (b : Addr), as[j]? = some b → ∃ q t t', ps[j]? = some q ∧ h'.get? b = some { cls := .type "tuple", data := .seq #[Value.int q.1 t, Value.int q.2 t'] } := by
    intro j b hj
    obtain ⟨e, h1, h2⟩ := hG.pairs j b hj
    obtain ⟨q, t, t', h3, h4, h5⟩ := ent j e h1
    exact ⟨q, t, t', h3, by rw [h2, h4, h5]⟩
  have hob : (h'.push { cls := .type "list", data := .seq (as.map Value.ref).toArray }).get? h'.objs.size = some (seqObj "list" (as.map Value.ref).toArray 0) := Heap.get?_push_size _ rfl
  have kb : ∀ b o, s.heap.get? b = some o → (h'.push { cls := .type "list", data := .seq (as.map Value.ref).toArray }).get? b = some o := fun b o e => Heap.get?_push_of_some _ (hk b o e)
  have ne0 : ∀ b o, h'.get? b = some o → b ≠ h'.objs.size := fun b o e => Nat.ne_of_lt (Heap.lt_size e)
  generalize hh2 : h'.push { cls := .type "list", data := .seq (as.map Value.ref).toArray } = h2 at hob kb ⊢
  have ka : ∀ b o, h'.get? b = some o → h2.get? b = some o := fun b o e => by rw [← hh2]; exact Heap.get?_push_of_some _ e
  have rd : ∀ (j : Nat) (b : Addr), as[j]? = some b → ∃ q t t', ps[j]? = some q ∧ h2.get? b = some { cls := .type "tuple", data := .seq #[Value.int q.1 t, Value.int q.2 t'] } ∧ rdP h2 b = q := by
    intro j b hj
    obtain ⟨q, t, t', h1, h3⟩ := pr j b hj
    refine ⟨q, t, t', h1, ka _ _ h3, ?_⟩
    unfold rdP
    rw [ka _ _ h3]
  have at_ : ∀ v ∈ as.map Value.ref, ∃ (j : Nat) (b : Addr), v = .ref b ∧ as[j]? = some b := by
    intro v hv
    obtain ⟨b, hb, rfl⟩ := List.mem_map.mp hv
    obtain ⟨j, hj⟩ := List.mem_iff_getElem?.mp hb
    exact ⟨j, b, rfl, hj⟩
  have hpair : ∀ v ∈ as.map Value.ref, Srt.IsPair h2 v (kfP h2 v).1 (kfP h2 v).2 := by
    intro v hv
    obtain ⟨j, b, rfl, hj⟩ := at_ v hv
    obtain ⟨q, t, t', _, h3, h4⟩ := rd j b hj
    show Srt.IsPair h2 (.ref b) (rdP h2 b).1 (rdP h2 b).2
    rw [h4]
    exact ⟨b, _, t, t', _, rfl, h3, rfl, rfl⟩
  have keq : (as.map Value.ref).map (kfP h2) = ps := by
    refine list_at_eq (by rw [List.length_map, List.length_map]; exact lak) fun j x hx => ?_
    rw [List.getElem?_map, List.getElem?_map] at hx
    cases hj : as[j]? with
    | none =>
      rw [hj] at hx
      cases hx
    | some b =>
      rw [hj] at hx
      obtain ⟨q, t, t', h1, _, h4⟩ := rd j b hj
      have ex : rdP h2 b = x := Option.some.inj hx
      rw [h1, ← h4, ex]
  refine wpAny_call_entry PyProof.Rows.slot_list_sort ⟨_, hob, rfl⟩ PyProof.Rows.entry_list_sort
    (SrtO.list_sort_ord (s := { s with heap := h2, toks := tk }) (SrtO.swo_lex (kfP h2)) hob (by rw [List.length_map]; omega) (fun h22 => SrtO.pairs_sortableO (by omega) hpair fun o e => ?_) fun out h1 h3 => ⟨.none, rfl, ?_⟩) (PyProof.Rows.args_list_sort _)
  · have e' : some o = some (seqObj "list" (as.map Value.ref).toArray 0) := e.symm.trans hob
    cases e'
    intro c
    exact absurd (Value.type.inj c) (by decide)
  · show EP X pins σ Q (.ref h'.objs.size) { s with heap := sortedHeap h2 h'.objs.size (as.map Value.ref) out.toArray, toks := tk }
    have kF : ∀ b o, b ≠ h'.objs.size → h2.get? b = some o → (sortedHeap h2 h'.objs.size (as.map Value.ref) out.toArray).get? b = some o := fun b o hb e => (PyProof.Rows.sortedHeap_old hb (Heap.lt_size e)).trans e
    have kS : ∀ b o, s.heap.get? b = some o → (sortedHeap h2 h'.objs.size (as.map Value.ref) out.toArray).get? b = some o := fun b o e => kF b o (ne0 _ _ (hk b o e)) (kb b o e)
    obtain ⟨eF, heF⟩ := PyProof.Rows.sortedHeap_at (vs := as.map Value.ref) (out := out.toArray) hob
    have mem : ∀ v ∈ out, ∃ (j : Nat) (b : Addr), v = .ref b ∧ as[j]? = some b := fun v hv => at_ v (h3.perm.mem_iff.mp hv)
    have hn0 : H h'.objs.size = none := I.hok.fresh (Nat.le_of_lt hlt)
    have I1 : Inv X pins σ H { s with heap := sortedHeap h2 h'.objs.size (as.map Value.ref) out.toArray, toks := tk } := I.kept (t' := tk) kS
    have refs : ∀ v ∈ out, ∃ a, v = Value.ref a := fun v hv => let ⟨_, b, e, _⟩ := mem v hv; ⟨b, e⟩
    have emap : (out.map fun v => (adP v, kfP h2 v)).map (fun z => V.ref z.1) = out.map backV := by
      rw [List.map_map]
      refine List.map_congr_left fun v hv => ?_
      obtain ⟨b, rfl⟩ := refs v hv
      rfl
    have rv : Vals ((out.map fun v => (adP v, kfP h2 v)).map fun z => V.ref z.1) out := by
      rw [emap]
      exact vals_back refs
    have lo : out.length = ps.length := by
      rw [h3.perm.length_eq, List.length_map]
      exact lak
    have I2 : Inv X pins σ (upd H h'.objs.size (.lst ((out.map fun v => (adP v, kfP h2 v)).map fun z => V.ref z.1))) { s with heap := sortedHeap h2 h'.objs.size (as.map Value.ref) out.toArray, toks := tk } :=
      I1.take (h' := sortedHeap h2 h'.objs.size (as.map Value.ref) out.toArray) (t' := tk) (fun b ob _ e => e) (I.fpOk (Nat.le_of_lt hlt) hn0) ⟨by rw [List.length_map, List.length_map]; omega, out, eF, rv, heF⟩
    obtain ⟨H2, I3, g, qt⟩ := L2.DX.takeT (P := fun b vs => vs = [V.int (rdP h2 b).1, V.int (rdP h2 b).2]) I as _ I2 nd fun b hb => by
      obtain ⟨j, hj⟩ := List.mem_iff_getElem?.mp hb
      obtain ⟨q, t, t', h1, hg, h4⟩ := rd j b hj
      have hg' : h'.get? b = some _ := (pr j b hj).choose_spec.choose_spec.choose_spec.2
      have hbl : s.heap.objs.size ≤ b := Nat.le_of_lt (hG.above b hb)
      have hbn : b ≠ h'.objs.size := ne0 _ _ hg'
      refine ⟨hbl, ?_, [V.int (rdP h2 b).1, V.int (rdP h2 b).2], rfl, fun H3 => ⟨(by rw [sizeLine_eq]; show 2 ≤ 16777216; omega), [Value.int q.1 t, Value.int q.2 t'], ?_, ⟨_, kF _ _ hbn hg, rfl, 0, rfl⟩⟩⟩
      · rw [upd_ne hbn]
        exact I.hok.fresh hbl
      · rw [h4]
        exact .cons ⟨_, rfl⟩ (.cons ⟨_, rfl⟩ .nil)
    have gr : ∀ b o, H b = some o → H2 b = some o := fun b o e => g b o (by rw [upd_ne (ne_of_none e hn0)]; exact e)
    have e2 : (out.map fun v => (adP v, kfP h2 v)).map (·.2) = out.map (kfP h2) := by
      rw [List.map_map]
      rfl
    refine ⟨.ref h'.objs.size, H2, I3, rfl, q H2 h'.objs.size (out.map fun v => (adP v, kfP h2 v)) gr ?_ ?_ (g _ _ upd_same) fun z hz => ?_⟩
    · rw [e2]
      have e := h3.perm.map (kfP h2)
      rw [keq] at e
      exact e
    · rw [e2]
      exact List.pairwise_map.mpr h1
    · obtain ⟨v, hv, rfl⟩ := List.mem_map.mp hz
      obtain ⟨j, b, rfl, hj⟩ := mem v hv
      obtain ⟨vs', ev, hH⟩ := qt b (List.mem_of_getElem? hj)
      rw [ev] at hH
      exact hH
end
end K8

set_option maxRecDepth 100000
set_option maxHeartbeats 4000000
/-! data: pairs of ints in tuples and lists; comprehensions over anything that is walked -/
namespace K8
open PySem PySem.Spec PyProof.Rows L2
open Evl (Ex ex_l ex_t sz_of sz_lt)

/-! ### heaps -/
/-- all that is no list stays -/
def ExN (H H' : Hp) : Prop := ∀ b o, H b = some o → (∀ xs, o ≠ .lst xs) → H' b = some o
theorem ExN.of {H H' : Hp} (e : Ex H H') : ExN H H' := fun b o h _ => e b o h
theorem ExN.refl (H : Hp) : ExN H H := fun _ _ h _ => h
theorem ExN.trans {H H1 H2 : Hp} (a : ExN H H1) (b : ExN H1 H2) : ExN H H2 := fun x o h n => b x o (a x o h n) n
theorem ExN.mut {H : Hp} {D : Addr} {xs ys : List V} (h : H D = some (.lst xs)) : ExN H (upd H D (.lst ys)) := fun b o e n => by
  rw [upd_ne (fun z => by rw [z, h] at e; exact n xs (Option.some.inj e).symm)]
  exact e
theorem exn_t {K : PySem.W.Frag} {H H' : Hp} {a : Addr} {xs : List V} (e : ExN H H') (h : SqT K H a xs) : SqT K H' a xs := by
  rcases h with (h | ⟨o, h⟩) | h
  · exact .inl (.inl (e _ _ h fun _ z => nomatch z))
  · exact .inl (.inr ⟨o, e _ _ h fun _ z => nomatch z⟩)
  · exact .inr h
theorem ex_new {H : Hp} {p : Addr} {o : HO} (h : H p = none) : Ex H (upd H p o) := Evl.Ex.new h
theorem lst_new {K : PySem.W.Frag} {H : Hp} {a : Addr} {xs : List V} : SqL K (upd H a (.lst xs)) a xs := .inl (.inl upd_same)
theorem tup_new {K : PySem.W.Frag} {H : Hp} {a : Addr} {xs : List V} : SqT K (upd H a (.tup xs)) a xs := .inl (.inl upd_same)

/-! ### pairs -/
def PrV (K : PySem.W.Frag) (H : Hp) (x : V) (q : Int × Int) : Prop := ∃ T, x = V.ref T ∧ SqT K H T [.int q.1, .int q.2]
def PsT (K : PySem.W.Frag) (H : Hp) (a : Addr) (ps : List (Int × Int)) : Prop := ∃ xs, SqT K H a xs ∧ Paired (fun q x => PrV K H x q) ps xs
def PsL (K : PySem.W.Frag) (H : Hp) (a : Addr) (ps : List (Int × Int)) : Prop := ∃ xs, SqL K H a xs ∧ Paired (fun q x => PrV K H x q) ps xs
def PsX (K : PySem.W.Frag) (H : Hp) (a : Addr) (ps : List (Int × Int)) : Prop := PsL K H a ps ∨ PsT K H a ps
theorem pmono {α β : Type} {F G : α → β → Prop} : ∀ {l : List α} {m : List β}, Paired F l m → (∀ a b, F a b → G a b) → Paired G l m
  | _, _, .nil, _ => .nil
  | _, _, .cons r t, f => .cons (f _ _ r) (pmono t f)
theorem papp {α β : Type} {F : α → β → Prop} : ∀ {l l' : List α} {m m' : List β}, Paired F l m → Paired F l' m' → Paired F (l ++ l') (m ++ m')
  | _, _, _, _, .nil, q => q
  | _, _, _, _, .cons r t, q => .cons r (papp t q)
theorem plen {α β : Type} {F : α → β → Prop} : ∀ {l : List α} {m : List β}, Paired F l m → l.length = m.length
  | _, _, .nil => rfl
  | _, _, .cons _ t => congrArg (· + 1) (plen t)
theorem pget {α β : Type} {F : α → β → Prop} : ∀ {l : List α} {m : List β} {i : Nat} {b : β}, Paired F l m → m[i]? = some b → ∃ a, l[i]? = some a ∧ F a b
  | _, _, i, b, .nil, h => by simp at h
  | _, _, 0, b, .cons r _, h => by
    have e := Option.some.inj h
    subst e
    exact ⟨_, rfl, r⟩
  | _, _, i + 1, b, .cons _ t, h => pget (i := i) t h
theorem pgetL {α β : Type} {F : α → β → Prop} : ∀ {l : List α} {m : List β} {i : Nat} {a : α}, Paired F l m → l[i]? = some a → ∃ b, m[i]? = some b ∧ F a b
  | _, _, i, b, .nil, h => by simp at h
  | _, _, 0, b, .cons r _, h => by
    have e := Option.some.inj h
    subst e
    exact ⟨_, rfl, r⟩
  | _, _, i + 1, b, .cons _ t, h => pgetL (i := i) t h
theorem pmapEq {α β : Type} {f : α → β} : ∀ {l : List α} {m : List β}, Paired (fun a b => b = f a) l m → m = l.map f
  | _, _, .nil => rfl
  | _, _, .cons r t => by
    rw [List.map_cons, ← pmapEq t, r]
theorem pmapOf {α β : Type} {F : α → β → Prop} {f : α → β} : ∀ (l : List α), (∀ a ∈ l, F a (f a)) → Paired F l (l.map f)
  | [], _ => .nil
  | a :: l, h => .cons (h a List.mem_cons_self) (pmapOf l fun b hb => h b (List.mem_cons_of_mem _ hb))
theorem prev {α β : Type} {F : α → β → Prop} : ∀ {l : List α} {m : List β}, Paired F l m → Paired F l.reverse m.reverse
  | _, _, .nil => .nil
  | _, _, .cons r t => by
    rw [List.reverse_cons, List.reverse_cons]
    exact papp (prev t) (.cons r .nil)
theorem PrV.exn {K : PySem.W.Frag} {H H' : Hp} {x : V} {q : Int × Int} (e : ExN H H') (h : PrV K H x q) : PrV K H' x q := let ⟨T, a, b⟩ := h; ⟨T, a, exn_t e b⟩
theorem PrV.ex {K : PySem.W.Frag} {H H' : Hp} {x : V} {q : Int × Int} (e : Ex H H') (h : PrV K H x q) : PrV K H' x q := h.exn (ExN.of e)
theorem PsT.exn {K : PySem.W.Frag} {H H' : Hp} {a : Addr} {ps : List (Int × Int)} (e : ExN H H') (h : PsT K H a ps) : PsT K H' a ps := let ⟨xs, a, b⟩ := h; ⟨xs, exn_t e a, pmono b fun _ _ z => z.exn e⟩
theorem PsT.ex {K : PySem.W.Frag} {H H' : Hp} {a : Addr} {ps : List (Int × Int)} (e : Ex H H') (h : PsT K H a ps) : PsT K H' a ps := h.exn (ExN.of e)
theorem PsL.ex {K : PySem.W.Frag} {H H' : Hp} {a : Addr} {ps : List (Int × Int)} (e : Ex H H') (h : PsL K H a ps) : PsL K H' a ps := let ⟨xs, a, b⟩ := h; ⟨xs, ex_l e a, pmono b fun _ _ z => z.ex e⟩
theorem PsX.ex {K : PySem.W.Frag} {H H' : Hp} {a : Addr} {ps : List (Int × Int)} (e : Ex H H') (h : PsX K H a ps) : PsX K H' a ps := h.elim (fun z => .inl (z.ex e)) fun z => .inr (z.ex e)

/-! ### tuples alone stay -/
def tf : HO → Bool
  | .tup _ => true
  | .frz _ _ => true
  | _ => false
def ExT (H H' : Hp) : Prop := ∀ b o, H b = some o → tf o = true → H' b = some o
theorem ExT.of {H H' : Hp} (e : Ex H H') : ExT H H' := fun b o h _ => e b o h
theorem ExT.trans {H H1 H2 : Hp} (a : ExT H H1) (b : ExT H1 H2) : ExT H H2 := fun x o h n => b x o (a x o h n) n
theorem ExT.mut {H : Hp} {D : Addr} {x y : HO} (h : H D = some x) (hx : tf x = false) : ExT H (upd H D y) := fun b o e n => by
  rw [upd_ne (fun z => by rw [z, h] at e; rw [← Option.some.inj e, hx] at n; cases n)]
  exact e
theorem ext_t {K : PySem.W.Frag} {H H' : Hp} {a : Addr} {xs : List V} (e : ExT H H') (h : SqT K H a xs) : SqT K H' a xs := by
  rcases h with (h | ⟨o, h⟩) | h
  · exact .inl (.inl (e _ _ h rfl))
  · exact .inl (.inr ⟨o, e _ _ h rfl⟩)
  · exact .inr h
theorem PrV.ext {K : PySem.W.Frag} {H H' : Hp} {x : V} {q : Int × Int} (e : ExT H H') (h : PrV K H x q) : PrV K H' x q := let ⟨T, a, b⟩ := h; ⟨T, a, ext_t e b⟩
theorem PsT.ext {K : PySem.W.Frag} {H H' : Hp} {a : Addr} {ps : List (Int × Int)} (e : ExT H H') (h : PsT K H a ps) : PsT K H' a ps := let ⟨xs, a, b⟩ := h; ⟨xs, ext_t e a, pmono b fun _ _ z => z.ext e⟩

/-! ### an iterator by one of two rules -/
theorem pi_or {X : Cx} {tg it : Expr} {w1 w2 : TI} (h1 : PI X tg it w1) (h2 : PI X tg it w2) : PI X tg it (fun σ H R => w1 σ H R ∨ w2 σ H R) :=
  ⟨fun pins s σ H R I h => h.elim (h1.run pins s σ H R I) (h2.run pins s σ H R I)⟩

/-! ### comprehensions -/
/-- what is left behind the iterator's reading: as: the items as data, p: which of them give, S: what of -/
theorem lc_map {α : Type} {J : It} {G0 : Hp → Prop} {Y : Nat → Hp → V → Hp → Prop} {g : TG} {tt : TT} {te : TE} {vs : List Nat} {σ : L2.St} {H1 : Hp} {Q : Addr → Hp → Prop} (as : List α) (p : α → Bool) (S : α → V → Hp → Prop)
    (w : Walk J as.length G0 Y) (hn : as.length ≤ 100000) (hG : ∀ H, Ex H1 H → G0 H) (hS : ∀ a v H H', ExN H H' → S a v H → S a v H')
    (turn : ∀ (i : Nat) (a : α) x H H', as[i]? = some a → Ex H1 H → Y i H x H' → ∀ (N1 : VK) (N0 : Hp → Prop), (p a = true → ∀ y H2, Ex H H2 → S a y H2 → N1 y H2) → (p a = false → ∀ H2, Ex H H2 → N0 H2) →
      g x (wipe σ vs) H' fun σ2 H2 => wipe σ2 vs = wipe σ vs ∧ tt σ2 H2 fun b H3 => if b = true then te σ2 H3 N1 else N0 H3)
    (done : ∀ D H2 ys, H1 D = none → Ex H1 H2 → H2 D = some (.lst ys) → Paired (fun a y => S a y H2) (as.filter p) ys → Q D H2) :
    ∀ D, H1 D = none → ∃ W : Nat → Nat → Hp → Prop, (∃ m, W 0 m (upd H1 D (.lst []))) ∧ ∀ i m H, W i m H →
      (J.stop i H ∧ Q D H) ∨ (J.go i H ∧ ∃ Nx : Hp → Prop, (∀ H', Nx H' → ∃ m', m' < m ∧ W (i + 1) m' H') ∧ ∀ x H', J.yld i H x H' → g x (wipe σ vs) H' fun σ2 H2 => wipe σ2 vs = wipe σ vs ∧ tt σ2 H2 fun b H3 =>
        if b = true then te σ2 H3 fun y H4 => ∃ acc, H4 D = some (.lst acc) ∧ acc.length < sizeLine ∧ Nx (upd H4 D (.lst (acc ++ [y]))) else Nx H3) := by
  intro D hD
  refine lc_it w (fun i H => Ex H1 H ∧ ∃ ys, H D = some (.lst ys) ∧ Paired (fun a y => S a y H) ((as.take i).filter p) ys) ⟨ex_new hD, [], upd_same, by rw [List.take_zero]; exact .nil⟩ (fun i H _ q => hG H q.1) ?_ ?_
  · rintro i x H H' hi ⟨e1, ys, hd, pr⟩ hy
    have ha : as[i]? = some as[i] := List.getElem?_eq_getElem hi
    have et : as.take (i + 1) = as.take i ++ [as[i]] := by rw [List.take_add_one, ha]; rfl
    refine turn i as[i] x H H' ha e1 hy _ _ (fun hp y H2 e2 sy => ?_) (fun hp H2 e2 => ?_)
    · have hd2 := e2 D _ hd
      have l1 := plen pr
      have l2 := List.length_filter_le p (as.take i)
      have l3 : (as.take i).length ≤ as.length := by rw [List.length_take]; omega
      refine ⟨ys, hd2, sz_lt (by rw [List.length_take] at l2; omega), fun b o h => ?_, ys ++ [y], upd_same, ?_⟩
      · rw [upd_ne (ne_of_none h hD)]
        exact e2 b o (e1 b o h)
      · have em : ExN H (upd H2 D (.lst (ys ++ [y]))) := (ExN.of e2).trans (ExN.mut hd2)
        rw [et, List.filter_append, List.filter_cons, if_pos hp]
        exact papp (pmono pr fun _ _ z => hS _ _ _ _ em z) (.cons (hS _ _ _ _ (ExN.mut hd2) sy) .nil)
    · refine ⟨e1.trans e2, ys, e2 D _ hd, ?_⟩
      rw [et, List.filter_append, List.filter_cons, if_neg (by rw [hp]; decide), List.filter_nil, List.append_nil]
      exact pmono pr fun _ _ z => hS _ _ _ _ (ExN.of e2) z
  · rintro H ⟨e1, ys, hd, pr⟩
    rw [List.take_length] at pr
    exact done D H ys hD e1 hd pr
theorem filter_all {α : Type} (l : List α) : l.filter (fun _ => true) = l := List.filter_eq_self.mpr fun _ _ => rfl
end K8

set_option maxRecDepth 100000
/-! the plain law: what a script asks, and what it shows -/
namespace K8
abbrev Prs := List (Int × Int)
/-- a step: town (true) or county (false), and its number -/
abbrev Stp := Bool × Int

/-! ### stairs as the program reckons them -/
def leastF (f : Prs) : Int := (f.map fun q => q.2 - q.1 + 1).sum
def flGo : Prs → Int → Prs
  | [], _ => []
  | q :: r, s => (s + q.2 - q.1 + 1, q.2 + s) :: flGo r (s + q.2 - q.1 + 1)
def floorsF (f : Prs) : Prs := flGo f.reverse 0
def lkF : Prs → Int → Int
  | [], _ => 0
  | q :: r, k => if k ≤ q.1 then q.2 else lkF r k
def keptF (fl : Prs) : Prs := ((fl.zip (fl.drop 1 ++ [(0, 0)])).filter fun z => z.2.2 != z.1.2).map (·.1)
def fwGo : Prs → Int → Prs
  | [], _ => []
  | q :: r, b => (q.2 - q.1 + 1, q.2 - b) :: fwGo r q.1
def formWithF (fl : Prs) : Prs := (fwGo (keptF fl) 0).reverse
def mx (i j : Int) : Int := if j > i then j else i
def formBehindF (one other : Prs) (most : Int) : Prs :=
  formWithF ((floorsF one).map (fun q => (q.1, mx q.2 most)) ++ (floorsF other).filter fun q => decide (leastF one < q.1))
def formOfStepF (s : Stp) : Prs := if s.1 then [(1, s.2)] else [(s.2, s.2)]
def formOfStepsF (ss : List Stp) : Prs := ss.foldl (fun f s => formBehindF f (formOfStepF s) s.2) [(1, 1)]

theorem mx_eq (i j : Int) : mx i j = max i j := by
  unfold mx
  split <;> omega

/-! ### stairs: facts -/
theorem fl_fw : ∀ (l : Prs) (b : Int), flGo (fwGo l b) b = l
  | [], _ => rfl
  | q :: r, b => by
    show (b + (q.2 - b) - (q.2 - q.1 + 1) + 1, q.2 - b + b) :: flGo (fwGo r q.1) (b + (q.2 - b) - (q.2 - q.1 + 1) + 1) = q :: r
    have e1 : b + (q.2 - b) - (q.2 - q.1 + 1) + 1 = q.1 := by omega
    have e2 : q.2 - b + b = q.2 := by omega
    rw [e1, e2, fl_fw r q.1]
theorem floors_with (fl : Prs) : floorsF (formWithF fl) = keptF fl := by
  unfold floorsF formWithF
  rw [List.reverse_reverse, fl_fw]
/-- the last size -/
def endS : Prs → Int → Int
  | [], s => s
  | q :: r, _ => endS r q.1
theorem end_go : ∀ (l : Prs) (s : Int), endS (flGo l s) s = s + (l.map fun q => q.2 - q.1 + 1).sum
  | [], s => by simp [flGo, endS]
  | q :: r, s => by
    show endS (flGo r (s + q.2 - q.1 + 1)) (s + q.2 - q.1 + 1) = _
    rw [end_go r, List.map_cons, List.sum_cons]
    omega
theorem sum_rev (l : List Int) : l.reverse.sum = l.sum := by
  induction l with
  | nil => rfl
  | cons a r ih =>
    rw [List.reverse_cons, List.sum_append, List.sum_cons, ih, List.sum_cons, List.sum_nil]
    omega
theorem least_end (f : Prs) : leastF f = endS (floorsF f) 0 := by
  unfold floorsF leastF
  rw [end_go, List.map_reverse, sum_rev]
  omega
def Up : Int → Prs → Prop
  | _, [] => True
  | s, q :: r => s < q.1 ∧ 0 < q.2 ∧ Up q.1 r
theorem Up.low {s t : Int} (h : t ≤ s) : ∀ {l : Prs}, Up s l → Up t l
  | [], _ => trivial
  | _ :: _, ⟨a, b, c⟩ => ⟨by omega, b, c⟩
theorem kept_nil : keptF [] = [] := rfl
theorem kept_one (x : Int × Int) (h : 0 < x.2) : keptF [x] = [x] := by
  have e : ((0 : Int) != x.2) = true := bne_iff_ne.mpr (by omega)
  show (([(x, ((0 : Int), (0 : Int)))] : List ((Int × Int) × (Int × Int))).filter fun z => z.2.2 != z.1.2).map (·.1) = [x]
  rw [List.filter_cons, if_pos (by exact e)]
  rfl
theorem kept_two (x y : Int × Int) (r : Prs) : keptF (x :: y :: r) = if y.2 = x.2 then keptF (y :: r) else x :: keptF (y :: r) := by
  show (((x, y) :: (y :: r).zip (r ++ [(0, 0)])).filter fun z => z.2.2 != z.1.2).map (·.1) = _
  have e2 : keptF (y :: r) = (((y :: r).zip (r ++ [(0, 0)])).filter fun z => z.2.2 != z.1.2).map (·.1) := rfl
  rw [List.filter_cons]
  by_cases h : y.2 = x.2
  · have e : ((y.2 != x.2) : Bool) = false := by rw [h]; simp
    rw [if_pos h, if_neg (by rw [e]; decide), e2]
  · have e : ((y.2 != x.2) : Bool) = true := bne_iff_ne.mpr h
    rw [if_neg h, if_pos e, List.map_cons, e2]
theorem kept_up : ∀ {s : Int} {l : Prs}, Up s l → Up s (keptF l)
  | _, [], _ => trivial
  | _, [x], h => by
    rw [kept_one x h.2.1]
    exact h
  | s, x :: y :: r, h => by
    rw [kept_two]
    have ih := kept_up (l := y :: r) h.2.2
    split
    · exact ih.low (by have := h.1; omega)
    · exact ⟨h.1, h.2.1, ih⟩
theorem kept_end2 : ∀ {s : Int} {l : Prs}, Up s l → l ≠ [] → keptF l ≠ [] ∧ ∀ u v, endS (keptF l) u = endS l v
  | _, [], _, h => absurd rfl h
  | _, [x], h, _ => by
    rw [kept_one x h.2.1]
    exact ⟨List.cons_ne_nil _ _, fun _ _ => rfl⟩
  | s, x :: y :: r, h, _ => by
    obtain ⟨ih1, ih2⟩ := kept_end2 (l := y :: r) h.2.2 (List.cons_ne_nil _ _)
    rw [kept_two]
    split
    · exact ⟨ih1, fun u v => ih2 u x.1⟩
    · exact ⟨List.cons_ne_nil _ _, fun u v => ih2 x.1 x.1⟩
theorem lk_up : ∀ {s : Int} {l : Prs} {k : Int}, Up s l → k ≤ s → ∀ y r, l = y :: r → lkF l k = y.2
  | s, l, k, h, hk, y, r, e => by
    subst e
    have := h.1
    show (if k ≤ y.1 then y.2 else lkF r k) = y.2
    rw [if_pos (by omega)]
theorem kept_lk : ∀ {s : Int} {l : Prs} (k : Int), Up s l → lkF (keptF l) k = lkF l k
  | _, [], _, _ => rfl
  | _, [x], k, h => by rw [kept_one x h.2.1]
  | s, x :: y :: r, k, h => by
    have ih := kept_lk (l := y :: r) k h.2.2
    rw [kept_two]
    split
    · rename_i e
      rw [ih]
      show lkF (y :: r) k = if k ≤ x.1 then x.2 else lkF (y :: r) k
      split
      · rename_i hk
        rw [lk_up (l := y :: r) h.2.2 hk y r rfl, e]
      · rfl
    · show (if k ≤ x.1 then x.2 else lkF (keptF (y :: r)) k) = if k ≤ x.1 then x.2 else lkF (y :: r) k
      rw [ih]

/-! ### one step on a stair -/
/-- the floors raised to a number -/
def rse (m : Int) (l : Prs) : Prs := l.map fun q => (q.1, mx q.2 m)
theorem rse_up {m : Int} (hm : 0 < m) : ∀ {s : Int} {l : Prs}, Up s l → Up s (rse m l)
  | _, [], _ => trivial
  | _, _ :: _, h => ⟨h.1, by show 0 < mx _ m; rw [mx_eq]; omega, rse_up hm h.2.2⟩
theorem rse_end (m : Int) : ∀ (l : Prs) (s : Int), endS (rse m l) s = endS l s
  | [], _ => rfl
  | q :: r, _ => rse_end m r q.1
theorem up_app {k : Int} (hk : 0 < k) : ∀ {s : Int} {l : Prs}, Up s l → endS l s < k → Up s (l ++ [(k, k)])
  | _, [], _, h => ⟨h, hk, trivial⟩
  | _, q :: r, h, he => ⟨h.1, h.2.1, up_app hk h.2.2 he⟩
theorem end_app (q : Int × Int) : ∀ (l : Prs) (s : Int), endS (l ++ [q]) s = q.1
  | [], _ => rfl
  | a :: r, _ => end_app q r a.1
theorem up_end : ∀ {s : Int} {l : Prs}, Up s l → s ≤ endS l s
  | _, [], _ => Int.le_refl _
  | s, q :: r, h => by
    have h1 := h.1
    have h2 := up_end h.2.2
    show s ≤ endS r q.1
    omega
theorem lk_rse (m : Int) : ∀ {s : Int} {l : Prs} (k : Int), Up s l → lkF (rse m l) k = if k ≤ endS l s ∧ l ≠ [] then max (lkF l k) m else 0
  | _, [], k, _ => by simp [rse, lkF]
  | s, q :: r, k, h => by
    have ih := lk_rse m (l := r) k h.2.2
    have h2 := up_end h.2.2
    show (if k ≤ q.1 then mx q.2 m else lkF (rse m r) k) = if k ≤ endS r q.1 ∧ q :: r ≠ [] then max (if k ≤ q.1 then q.2 else lkF r k) m else 0
    by_cases hk : k ≤ q.1
    · rw [if_pos hk, if_pos ⟨by omega, List.cons_ne_nil _ _⟩, if_pos hk, mx_eq]
    · rw [if_neg hk, if_neg hk, ih]
      by_cases h3 : k ≤ endS r q.1
      · have hr : r ≠ [] := fun z => by
          subst z
          exact hk h3
        rw [if_pos ⟨h3, hr⟩, if_pos ⟨h3, List.cons_ne_nil _ _⟩]
      · rw [if_neg (fun z => h3 z.1), if_neg (fun z => h3 z.1)]
theorem lk_app (q : Int × Int) : ∀ {s : Int} {l : Prs} (k : Int), Up s l → lkF (l ++ [q]) k = if k ≤ endS l s ∧ l ≠ [] then lkF l k else if k ≤ q.1 then q.2 else 0
  | _, [], k, _ => by simp [lkF]
  | s, a :: r, k, h => by
    have ih := lk_app q (l := r) k h.2.2
    have h2 := up_end h.2.2
    show (if k ≤ a.1 then a.2 else lkF (r ++ [q]) k) = if k ≤ endS r a.1 ∧ a :: r ≠ [] then (if k ≤ a.1 then a.2 else lkF r k) else if k ≤ q.1 then q.2 else 0
    by_cases hk : k ≤ a.1
    · rw [if_pos hk, if_pos ⟨by omega, List.cons_ne_nil _ _⟩, if_pos hk]
    · rw [if_neg hk, if_neg hk, ih]
      by_cases h3 : k ≤ endS r a.1
      · have hr : r ≠ [] := fun z => by
          subst z
          exact hk h3
        rw [if_pos ⟨h3, hr⟩, if_pos ⟨h3, List.cons_ne_nil _ _⟩]
      · rw [if_neg (c := k ≤ endS r a.1 ∧ r ≠ []) (fun z => h3 z.1), if_neg (c := k ≤ endS r a.1 ∧ a :: r ≠ []) (fun z => h3 z.1)]

/-! ### the law's own stair -/
def stStep (st : Int × Prs) (s : Stp) : Int × Prs := (if s.1 then mx st.1 s.2 else st.1, if s.1 then st.2 else st.2 ++ [(st.1, s.2)])
def stairF (ss : List Stp) : Int × Prs := ss.foldl stStep (1, [])
def fm (a : Int) (l : List Int) : Int := l.foldl max a
def askF (low : Int) (asks : Prs) (k : Int) : Int := fm low ((asks.filter fun q => decide (k ≤ q.1)).map (·.2))
theorem fm_le : ∀ (l : List Int) (a : Int), a ≤ fm a l ∧ ∀ x ∈ l, x ≤ fm a l
  | [], a => ⟨Int.le_refl _, fun _ h => nomatch h⟩
  | b :: r, a => by
    obtain ⟨h1, h2⟩ := fm_le r (max a b)
    refine ⟨by show a ≤ fm (max a b) r; omega, fun x hx => ?_⟩
    rcases List.mem_cons.mp hx with e | hx
    · subst e
      show x ≤ fm (max a x) r
      omega
    · exact h2 x hx
theorem fm_mem : ∀ (l : List Int) (a : Int), fm a l = a ∨ fm a l ∈ l
  | [], a => .inl rfl
  | b :: r, a => by
    rcases fm_mem r (max a b) with h | h
    · have h' : fm a (b :: r) = max a b := h
      by_cases hb : a ≤ b
      · exact .inr (List.mem_cons.mpr (.inl (by omega)))
      · exact .inl (by omega)
    · exact .inr (List.mem_cons_of_mem _ h)
/-- the greatest one, told by what it is -/
theorem fm_uniq {l : List Int} {a m : Int} (h1 : m ∈ a :: l) (h2 : ∀ y ∈ a :: l, y ≤ m) : m = fm a l := by
  obtain ⟨k1, k2⟩ := fm_le l a
  have h3 : fm a l ≤ m := by
    rcases fm_mem l a with h | h
    · rw [h]
      exact h2 a List.mem_cons_self
    · exact h2 _ (List.mem_cons_of_mem _ h)
  have h4 : m ≤ fm a l := by
    rcases List.mem_cons.mp h1 with e | h
    · rw [e]
      exact k1
    · exact k2 m h
  omega
theorem fm_max (l : List Int) (a b : Int) : fm (max a b) l = max (fm a l) b := by
  induction l generalizing a b with
  | nil => rfl
  | cons c r ih =>
    show fm (max (max a b) c) r = max (fm (max a c) r) b
    rw [← ih (max a c) b]
    congr 1
    omega
theorem fm_app (l : List Int) (a m : Int) : fm a (l ++ [m]) = max (fm a l) m := by
  unfold fm
  rw [List.foldl_append]
  rfl
structure InvS (f : Prs) (st : Int × Prs) : Prop where
  up : Up 0 (floorsF f)
  ne : floorsF f ≠ []
  lo : leastF f = st.1
  pos : 1 ≤ st.1
  ats : ∀ q ∈ st.2, 1 ≤ q.1 ∧ q.1 ≤ st.1
  fl : ∀ x, 1 ≤ x → x ≤ st.1 → lkF (floorsF f) x = askF st.1 st.2 x
theorem ask_none {low x : Int} {asks : Prs} (h : ∀ q ∈ asks, q.1 ≤ low) (hx : low < x) (a : Int) : askF a asks x = a := by
  have e : (asks.filter fun q => decide (x ≤ q.1)) = [] := List.filter_eq_nil_iff.mpr fun q hq z => by
    have h1 := of_decide_eq_true z
    have h2 := h q hq
    omega
  unfold askF
  rw [e]
  rfl
theorem inv_step {f : Prs} {st : Int × Prs} (h : InvS f st) (s : Stp) (hs : 1 ≤ s.2) : InvS (formBehindF f (formOfStepF s) s.2) (stStep st s) := by
  have hend : endS (floorsF f) 0 = st.1 := by rw [← least_end, h.lo]
  obtain ⟨b, n⟩ := s
  have hn : 1 ≤ n := hs
  have hu := rse_up (m := n) (by omega) h.up
  have hrne : rse n (floorsF f) ≠ [] := fun z => h.ne (List.map_eq_nil_iff.mp z)
  have hre : endS (rse n (floorsF f)) 0 = st.1 := by rw [rse_end, hend]
  have hlk : ∀ k, lkF (rse n (floorsF f)) k = if k ≤ st.1 then max (lkF (floorsF f) k) n else 0 := fun k => by
    rw [lk_rse n k h.up, hend]
    by_cases hk : k ≤ st.1
    · rw [if_pos ⟨hk, h.ne⟩, if_pos hk]
    · rw [if_neg (fun z => hk z.1), if_neg hk]
  cases b with
  | true =>
    have e0 : floorsF (formOfStepF (true, n)) = [(n, n)] := by
      show flGo [(1, n)] 0 = [(n, n)]
      show [((0 : Int) + n - 1 + 1, n + 0)] = [(n, n)]
      have e1 : (0 : Int) + n - 1 + 1 = n := by omega
      have e2 : n + 0 = n := by omega
      rw [e1, e2]
    by_cases hc : st.1 < n
    · have e1 : floorsF (formBehindF f (formOfStepF (true, n)) n) = keptF (rse n (floorsF f) ++ [(n, n)]) := by
        unfold formBehindF
        rw [floors_with, e0, List.filter_cons, if_pos (by rw [h.lo]; exact decide_eq_true hc)]
        rfl
      have e2 : stStep st (true, n) = (n, st.2) := by
        show (mx st.1 n, st.2) = (n, st.2)
        rw [mx_eq]
        congr 1
        omega
      have hU := up_app (k := n) (by omega) hu (by rw [hre]; exact hc)
      have hN : rse n (floorsF f) ++ [(n, n)] ≠ [] := by simp
      obtain ⟨k1, k2⟩ := kept_end2 hU hN
      rw [e2]
      refine ⟨by rw [e1]; exact kept_up hU, by rw [e1]; exact k1, ?_, hn, fun q hq => ?_, fun x h1 h2 => ?_⟩
      · rw [least_end, e1, k2 0 0, end_app]
      · have := h.ats q hq
        exact ⟨this.1, by show q.1 ≤ n; omega⟩
      · rw [e1, kept_lk x hU, lk_app (n, n) x hu, hre, hlk]
        have h2' : x ≤ n := h2
        by_cases hx : x ≤ st.1
        · rw [if_pos ⟨hx, hrne⟩, if_pos hx, h.fl x h1 hx]
          unfold askF
          rw [← fm_max]
          congr 1
          show max st.1 n = n
          omega
        · rw [if_neg (fun z => hx z.1), if_pos h2']
          exact (ask_none (low := st.1) (fun q hq => (h.ats q hq).2) (by omega) n).symm
    · have e1 : floorsF (formBehindF f (formOfStepF (true, n)) n) = keptF (rse n (floorsF f)) := by
        unfold formBehindF
        rw [floors_with, e0, List.filter_cons, if_neg (by rw [h.lo, decide_eq_false hc]; decide), List.filter_nil, List.append_nil]
        rfl
      have e2 : stStep st (true, n) = (st.1, st.2) := by
        show (mx st.1 n, st.2) = (st.1, st.2)
        rw [mx_eq]
        congr 1
        omega
      obtain ⟨k1, k2⟩ := kept_end2 hu hrne
      rw [e2]
      refine ⟨by rw [e1]; exact kept_up hu, by rw [e1]; exact k1, ?_, h.pos, h.ats, fun x h1 h2 => ?_⟩
      · rw [least_end, e1, k2 0 0, hre]
      · have h2' : x ≤ st.1 := h2
        rw [e1, kept_lk x hu, hlk, if_pos h2', h.fl x h1 h2']
        have := (fm_le ((st.2.filter fun q => decide (x ≤ q.1)).map (·.2)) st.1).1
        have e : askF st.1 st.2 x = fm st.1 ((st.2.filter fun q => decide (x ≤ q.1)).map (·.2)) := rfl
        show max (askF st.1 st.2 x) n = askF st.1 st.2 x
        omega
  | false =>
    have e0 : floorsF (formOfStepF (false, n)) = [(1, n)] := by
      show flGo [(n, n)] 0 = [(1, n)]
      show [((0 : Int) + n - n + 1, n + 0)] = [(1, n)]
      have e1 : (0 : Int) + n - n + 1 = 1 := by omega
      have e2 : n + 0 = n := by omega
      rw [e1, e2]
    have e1 : floorsF (formBehindF f (formOfStepF (false, n)) n) = keptF (rse n (floorsF f)) := by
      unfold formBehindF
      have := h.pos
      rw [floors_with, e0, List.filter_cons, if_neg (by rw [h.lo, decide_eq_false (show ¬ st.1 < 1 by omega)]; decide), List.filter_nil, List.append_nil]
      rfl
    have e2 : stStep st (false, n) = (st.1, st.2 ++ [(st.1, n)]) := rfl
    obtain ⟨k1, k2⟩ := kept_end2 hu hrne
    rw [e2]
    refine ⟨by rw [e1]; exact kept_up hu, by rw [e1]; exact k1, ?_, h.pos, fun q hq => ?_, fun x h1 h2 => ?_⟩
    · rw [least_end, e1, k2 0 0, hre]
    · rcases List.mem_append.mp hq with hq | hq
      · exact h.ats q hq
      · rw [List.mem_singleton.mp hq]
        exact ⟨h.pos, Int.le_refl _⟩
    · have h2' : x ≤ st.1 := h2
      rw [e1, kept_lk x hu, hlk, if_pos h2', h.fl x h1 h2']
      unfold askF
      rw [List.filter_append, List.filter_cons, if_pos (decide_eq_true h2'), List.filter_nil, List.map_append]
      exact (fm_app _ _ _).symm
theorem inv_start : InvS [(1, 1)] (1, []) := by
  have e : floorsF [(1, 1)] = [(1, 1)] := by decide
  refine ⟨by rw [e]; exact ⟨by decide, by decide, trivial⟩, by rw [e]; exact List.cons_ne_nil _ _, by decide, by decide, (fun q h => nomatch h), fun x h1 h2 => ?_⟩
  rw [e]
  have h2' : x ≤ 1 := h2
  show (if x ≤ 1 then (1 : Int) else 0) = 1
  rw [if_pos h2']
theorem inv_all : ∀ (ss : List Stp) (f : Prs) (st : Int × Prs), InvS f st → (∀ s ∈ ss, 1 ≤ s.2) → InvS (ss.foldl (fun f s => formBehindF f (formOfStepF s) s.2) f) (ss.foldl stStep st)
  | [], _, _, h, _ => h
  | s :: r, f, st, h, hs => inv_all r _ _ (inv_step h s (hs s List.mem_cons_self)) fun t ht => hs t (List.mem_cons_of_mem _ ht)
theorem inv_script {ss : List Stp} (hs : ∀ s ∈ ss, 1 ≤ s.2) : InvS (formOfStepsF ss) (stairF ss) := inv_all ss _ _ inv_start hs

/-! ### what is shown -/
def rowsF (rs : Prs) : Int := (rs.map fun q => q.1 * q.2).sum
def onlyF (rs : Prs) (k : Int) : Prs := rs.filter fun q => decide (k ≤ q.1)
def fromF (rs : Prs) (k : Int) : Int := rowsF (onlyF rs k)
def stepF (s : Stp) (rs : Prs) : Prs := if s.1 then onlyF rs s.2 else if s.2 ≤ rowsF rs then rs else []
def runF (ss : List Stp) (rs : Prs) : Prs := ss.foldl (fun r s => stepF s r) rs
def Pos (rs : Prs) : Prop := ∀ q ∈ rs, 1 ≤ q.1 ∧ 1 ≤ q.2
def met (rs : Prs) (asks : Prs) : Bool := asks.all fun q => decide (q.2 ≤ fromF rs q.1)
theorem only_only (rs : Prs) (a b : Int) : onlyF (onlyF rs a) b = onlyF rs (max a b) := by
  unfold onlyF
  rw [List.filter_filter]
  refine List.filter_congr fun q _ => ?_
  rw [Bool.eq_iff_iff, Bool.and_eq_true, decide_eq_true_iff, decide_eq_true_iff, decide_eq_true_iff]
  omega
theorem run_inv : ∀ (ss : List Stp) (rs r : Prs) (st : Int × Prs), (∀ s ∈ ss, 1 ≤ s.2) → (r = if met rs st.2 then onlyF rs st.1 else []) →
    runF ss r = if met rs (ss.foldl stStep st).2 then onlyF rs (ss.foldl stStep st).1 else []
  | [], _, _, _, _, h => h
  | s :: ss, rs, r, st, hs, h => by
    refine run_inv ss rs (stepF s r) (stStep st s) (fun t ht => hs t (List.mem_cons_of_mem _ ht)) ?_
    have hn := hs s List.mem_cons_self
    obtain ⟨b, n⟩ := s
    have hn' : 1 ≤ n := hn
    cases b with
    | true =>
      show onlyF r n = if met rs st.2 then onlyF rs (mx st.1 n) else []
      rw [h, mx_eq]
      split
      · exact only_only rs st.1 n
      · rfl
    | false =>
      show (if n ≤ rowsF r then r else []) = if met rs (st.2 ++ [(st.1, n)]) then onlyF rs st.1 else []
      have e : met rs (st.2 ++ [(st.1, n)]) = (met rs st.2 && decide (n ≤ fromF rs st.1)) := by
        unfold met
        rw [List.all_append]
        simp
      rw [e, h]
      cases hm : met rs st.2 with
      | true =>
        show (if n ≤ rowsF (onlyF rs st.1) then onlyF rs st.1 else []) = if (true && decide (n ≤ fromF rs st.1)) = true then onlyF rs st.1 else []
        rw [Bool.true_and]
        by_cases hc : n ≤ fromF rs st.1
        · rw [if_pos (show n ≤ rowsF (onlyF rs st.1) from hc), if_pos (decide_eq_true hc)]
        · rw [if_neg (show ¬ n ≤ rowsF (onlyF rs st.1) from hc), if_neg (by rw [decide_eq_false hc]; decide)]
      | false =>
        show (if n ≤ rowsF [] then ([] : Prs) else []) = _
        split <;> rfl
theorem run_eq {ss : List Stp} {rs : Prs} (hs : ∀ s ∈ ss, 1 ≤ s.2) (hp : Pos rs) : runF ss rs = if met rs (stairF ss).2 then onlyF rs (stairF ss).1 else [] := by
  refine run_inv ss rs rs (1, []) hs ?_
  show rs = onlyF rs 1
  exact (List.filter_eq_self.mpr fun q hq => decide_eq_true (hp q hq).1).symm
theorem mul_ge {a b : Int} (ha : 1 ≤ a) (hb : 1 ≤ b) : a ≤ a * b := by
  have := Int.mul_le_mul_of_nonneg_left hb (show (0 : Int) ≤ a by omega)
  omega
theorem rows_nonneg : ∀ {rs : Prs}, Pos rs → 0 ≤ rowsF rs
  | [], _ => Int.le_refl _
  | q :: r, h => by
    have h1 := h q List.mem_cons_self
    have h2 := rows_nonneg (rs := r) fun p hp => h p (List.mem_cons_of_mem _ hp)
    have h3 := mul_ge h1.1 h1.2
    show 0 ≤ (q.1 * q.2 :: r.map fun q => q.1 * q.2).sum
    rw [List.sum_cons]
    have e : rowsF r = (r.map fun q => q.1 * q.2).sum := rfl
    omega
theorem rows_mem : ∀ {rs : Prs} {q : Int × Int}, Pos rs → q ∈ rs → q.1 ≤ rowsF rs
  | p :: r, q, h, hq => by
    have h1 := h p List.mem_cons_self
    have hr : Pos r := fun p hp => h p (List.mem_cons_of_mem _ hp)
    have h2 := rows_nonneg hr
    have h3 := mul_ge h1.1 h1.2
    have e : rowsF (p :: r) = p.1 * p.2 + rowsF r := List.sum_cons ..
    rcases List.mem_cons.mp hq with e2 | hq
    · subst e2
      omega
    · have h4 := rows_mem hr hq
      omega
theorem pos_only {rs : Prs} (h : Pos rs) (k : Int) : Pos (onlyF rs k) := fun q hq => h q (List.mem_filter.mp hq).1
theorem from_anti : ∀ {rs : Prs} {a b : Int}, Pos rs → a ≤ b → fromF rs b ≤ fromF rs a
  | [], _, _, _, _ => Int.le_refl _
  | p :: r, a, b, h, hab => by
    have h1 := h p List.mem_cons_self
    have hr : Pos r := fun p hp => h p (List.mem_cons_of_mem _ hp)
    have ih := from_anti hr hab
    have h3 := mul_ge h1.1 h1.2
    have e : ∀ k, fromF (p :: r) k = if k ≤ p.1 then p.1 * p.2 + fromF r k else fromF r k := fun k => by
      unfold fromF onlyF
      rw [List.filter_cons]
      by_cases hk : k ≤ p.1
      · rw [if_pos (decide_eq_true hk), if_pos hk]
        exact List.sum_cons ..
      · rw [if_neg (by rw [decide_eq_false hk]; decide), if_neg hk]
    rw [e a, e b]
    split
    · rw [if_pos (by omega)]
      omega
    · split <;> omega
/-- the sizes at which too few rows are there -/
def lacks (rs : Prs) (low : Int) (ask : Int → Int) : Prop := ∃ k, 1 ≤ k ∧ k ≤ low ∧ fromF rs k < ask k
theorem shown_all {ss : List Stp} {rs : Prs} (hs : ∀ s ∈ ss, 1 ≤ s.2) (hp : Pos rs) (h : ¬ lacks rs (stairF ss).1 (askF (stairF ss).1 (stairF ss).2)) : runF ss rs = onlyF rs (stairF ss).1 := by
  have I := inv_script hs
  rw [run_eq hs hp]
  have hm : met rs (stairF ss).2 = true := by
    refine List.all_eq_true.mpr fun q hq => decide_eq_true ?_
    obtain ⟨h1, h2⟩ := I.ats q hq
    by_cases hc : q.2 ≤ fromF rs q.1
    · exact hc
    · refine (h ⟨q.1, h1, h2, ?_⟩).elim
      have hmem : q.2 ∈ (((stairF ss).2.filter fun z => decide (q.1 ≤ z.1)).map (·.2)) := List.mem_map.mpr ⟨q, List.mem_filter.mpr ⟨hq, decide_eq_true (Int.le_refl _)⟩, rfl⟩
      have := (fm_le _ (stairF ss).1).2 _ hmem
      have e : askF (stairF ss).1 (stairF ss).2 q.1 = fm (stairF ss).1 (((stairF ss).2.filter fun z => decide (q.1 ≤ z.1)).map (·.2)) := rfl
      omega
  rw [if_pos hm]
theorem shown_none {ss : List Stp} {rs : Prs} (hs : ∀ s ∈ ss, 1 ≤ s.2) (hp : Pos rs) (h : lacks rs (stairF ss).1 (askF (stairF ss).1 (stairF ss).2)) : runF ss rs = [] := by
  rw [run_eq hs hp]
  obtain ⟨k, h1, h2, h3⟩ := h
  split
  · rename_i hm
    have hm' := List.all_eq_true.mp hm
    rcases fm_mem (((stairF ss).2.filter fun z => decide (k ≤ z.1)).map (·.2)) (stairF ss).1 with e | e
    · have e' : askF (stairF ss).1 (stairF ss).2 k = (stairF ss).1 := e
      cases ho : onlyF rs (stairF ss).1 with
      | nil => rfl
      | cons q r =>
        have hq : q ∈ onlyF rs (stairF ss).1 := by rw [ho]; exact List.mem_cons_self
        have hq1 : (stairF ss).1 ≤ q.1 := of_decide_eq_true (List.mem_filter.mp hq).2
        have hq2 : q ∈ onlyF rs k := List.mem_filter.mpr ⟨(List.mem_filter.mp hq).1, decide_eq_true (by omega)⟩
        have := rows_mem (pos_only hp k) hq2
        have e2 : fromF rs k = rowsF (onlyF rs k) := rfl
        omega
    · obtain ⟨q, hq, e2⟩ := List.mem_map.mp e
      have hq1 := of_decide_eq_true (List.mem_filter.mp hq).2
      have hq2 := of_decide_eq_true (hm' q (List.mem_filter.mp hq).1)
      have e' : askF (stairF ss).1 (stairF ss).2 k = q.2 := e2.symm
      have := from_anti hp hq1
      omega
  · rfl
end K8

set_option maxRecDepth 100000
set_option maxHeartbeats 4000000
/-! comprehensions over tuples and lists of pairs of ints -/
namespace K8
open PySem PySem.Spec PyProof.Rows L2
open Evl (Ex ex_l ex_t sz_of sz_lt)

abbrev gPr (K : PySem.W.Frag) (i j : Nat) : TG := gTup K 2 (gCons (gName i) (gCons (gName j) gNil))
abbrev sPr (σ : L2.St) (vs : List Nat) (i j : Nat) (q : Int × Int) : L2.St := ((wipe σ vs).set i (some (.int q.1))).set j (some (.int q.2))
/-- what a comprehension's reading has behind its iterator -/
abbrev LcB (J : It) (g : TG) (tt : TT) (te : TE) (vs : List Nat) (σ : L2.St) (H1 : Hp) (Q : Addr → Hp → Prop) : Prop :=
  ∀ D, H1 D = none → ∃ W : Nat → Nat → Hp → Prop, (∃ m, W 0 m (upd H1 D (.lst []))) ∧ ∀ i m H, W i m H →
    (J.stop i H ∧ Q D H) ∨ (J.go i H ∧ ∃ Nx : Hp → Prop, (∀ H', Nx H' → ∃ m', m' < m ∧ W (i + 1) m' H') ∧ ∀ x H', J.yld i H x H' → g x (wipe σ vs) H' fun σ2 H2 => wipe σ2 vs = wipe σ vs ∧ tt σ2 H2 fun b H3 =>
      if b = true then te σ2 H3 fun y H4 => ∃ acc, H4 D = some (.lst acc) ∧ acc.length < sizeLine ∧ Nx (upd H4 D (.lst (acc ++ [y]))) else Nx H3)
section
variable {K : PySem.W.Frag} {J : It} {G0 : Hp → Prop} {tt : TT} {te : TE} {vs : List Nat} {σ : L2.St} {H1 : Hp} {Q : Addr → Hp → Prop} {a : Addr} {xs : List V}
theorem lc_pr {i j : Nat} (f : Prs) (p : Int × Int → Bool) (S : Int × Int → V → Hp → Prop) (w : Walk J f.length G0 (YAt xs)) (pr : Paired (fun q x => PrV K H1 x q) f xs) (hn : f.length ≤ 100000) (hG : ∀ H, Ex H1 H → G0 H)
    (hS : ∀ q v H H', ExN H H' → S q v H → S q v H') (hw : ∀ u v, wipe (((wipe σ vs).set i u).set j v) vs = wipe σ vs)
    (turn : ∀ (q : Int × Int) (H : Hp), q ∈ f → Ex H1 H → ∀ (N1 : VK) (N0 : Hp → Prop), (p q = true → ∀ y H2, Ex H H2 → S q y H2 → N1 y H2) → (p q = false → ∀ H2, Ex H H2 → N0 H2) →
      tt (sPr σ vs i j q) H fun b H3 => if b = true then te (sPr σ vs i j q) H3 N1 else N0 H3)
    (done : ∀ D H2 ys, H1 D = none → Ex H1 H2 → H2 D = some (.lst ys) → Paired (fun q y => S q y H2) (f.filter p) ys → Q D H2) : LcB J (gPr K i j) tt te vs σ H1 Q := by
  refine lc_map f p S w hn hG hS (fun n q x H H' hq e1 hy N1 N0 h1 h0 => ?_) done
  obtain ⟨rfl, hx⟩ := hy
  obtain ⟨q', hq', T, rfl, hT⟩ := pget pr hx
  rw [hq] at hq'
  cases hq'
  exact ⟨T, _, rfl, ex_t e1 hT, rfl, _, _, rfl, _, _, rfl, rfl, hw _ _, turn q _ (List.mem_of_getElem? hq) e1 N1 N0 h1 h0⟩
theorem lc_prT {i j : Nat} (f : Prs) (p : Int × Int → Bool) (S : Int × Int → V → Hp → Prop) (hf : PsT K H1 a f) (hn : f.length ≤ 100000)
    (hS : ∀ q v H H', ExN H H' → S q v H → S q v H') (hw : ∀ u v, wipe (((wipe σ vs).set i u).set j v) vs = wipe σ vs)
    (turn : ∀ (q : Int × Int) (H : Hp), q ∈ f → Ex H1 H → ∀ (N1 : VK) (N0 : Hp → Prop), (p q = true → ∀ y H2, Ex H H2 → S q y H2 → N1 y H2) → (p q = false → ∀ H2, Ex H H2 → N0 H2) →
      tt (sPr σ vs i j q) H fun b H3 => if b = true then te (sPr σ vs i j q) H3 N1 else N0 H3)
    (done : ∀ D H2 ys, H1 D = none → Ex H1 H2 → H2 D = some (.lst ys) → Paired (fun q y => S q y H2) (f.filter p) ys → Q D H2) : (∃ xs, SqT K H1 a xs) ∧ LcB (Itt K a) (gPr K i j) tt te vs σ H1 Q := by
  obtain ⟨xs, hx, pr⟩ := hf
  exact ⟨⟨xs, hx⟩, lc_pr f p S (by rw [plen pr]; exact walk_tup) pr hn (fun H e => ex_t e hx) hS hw turn done⟩
theorem lc_prL {i j : Nat} (f : Prs) (p : Int × Int → Bool) (S : Int × Int → V → Hp → Prop) (hf : PsL K H1 a f) (hn : f.length ≤ 100000)
    (hS : ∀ q v H H', ExN H H' → S q v H → S q v H') (hw : ∀ u v, wipe (((wipe σ vs).set i u).set j v) vs = wipe σ vs)
    (turn : ∀ (q : Int × Int) (H : Hp), q ∈ f → Ex H1 H → ∀ (N1 : VK) (N0 : Hp → Prop), (p q = true → ∀ y H2, Ex H H2 → S q y H2 → N1 y H2) → (p q = false → ∀ H2, Ex H H2 → N0 H2) →
      tt (sPr σ vs i j q) H fun b H3 => if b = true then te (sPr σ vs i j q) H3 N1 else N0 H3)
    (done : ∀ D H2 ys, H1 D = none → Ex H1 H2 → H2 D = some (.lst ys) → Paired (fun q y => S q y H2) (f.filter p) ys → Q D H2) : (∃ xs, SqL K H1 a xs) ∧ LcB (Itl K a) (gPr K i j) tt te vs σ H1 Q := by
  obtain ⟨xs, hx, pr⟩ := hf
  exact ⟨⟨xs, hx⟩, lc_pr f p S (by rw [plen pr]; exact walk_list) pr hn (fun H e => ex_l e hx) hS hw turn done⟩
/-- .. that gives ints -/
theorem lc_prTI {i j : Nat} (f : Prs) (p : Int × Int → Bool) (h : Int × Int → Int) (hf : PsT K H1 a f) (hn : f.length ≤ 100000) (hw : ∀ u v, wipe (((wipe σ vs).set i u).set j v) vs = wipe σ vs)
    (turn : ∀ (q : Int × Int) (H : Hp), q ∈ f → Ex H1 H → ∀ (N1 : VK) (N0 : Hp → Prop), (p q = true → ∀ H2, Ex H H2 → N1 (.int (h q)) H2) → (p q = false → ∀ H2, Ex H H2 → N0 H2) →
      tt (sPr σ vs i j q) H fun b H3 => if b = true then te (sPr σ vs i j q) H3 N1 else N0 H3)
    (done : ∀ D H2, H1 D = none → Ex H1 H2 → H2 D = some (.lst (((f.filter p).map h).map V.int)) → Q D H2) : (∃ xs, SqT K H1 a xs) ∧ LcB (Itt K a) (gPr K i j) tt te vs σ H1 Q :=
  lc_prT f p (fun q v _ => v = .int (h q)) hf hn (fun _ _ _ _ _ z => z) hw (fun q H hq e N1 N0 h1 h0 => turn q H hq e N1 N0 (fun hp H2 e2 => h1 hp _ H2 e2 rfl) h0)
    fun D H2 ys hD e hd pr => done D H2 hD e (by rw [hd, pmapEq pr, List.map_map]; rfl)
theorem lc_prLI {i j : Nat} (f : Prs) (p : Int × Int → Bool) (h : Int × Int → Int) (hf : PsL K H1 a f) (hn : f.length ≤ 100000) (hw : ∀ u v, wipe (((wipe σ vs).set i u).set j v) vs = wipe σ vs)
    (turn : ∀ (q : Int × Int) (H : Hp), q ∈ f → Ex H1 H → ∀ (N1 : VK) (N0 : Hp → Prop), (p q = true → ∀ H2, Ex H H2 → N1 (.int (h q)) H2) → (p q = false → ∀ H2, Ex H H2 → N0 H2) →
      tt (sPr σ vs i j q) H fun b H3 => if b = true then te (sPr σ vs i j q) H3 N1 else N0 H3)
    (done : ∀ D H2, H1 D = none → Ex H1 H2 → H2 D = some (.lst (((f.filter p).map h).map V.int)) → Q D H2) : (∃ xs, SqL K H1 a xs) ∧ LcB (Itl K a) (gPr K i j) tt te vs σ H1 Q :=
  lc_prL f p (fun q v _ => v = .int (h q)) hf hn (fun _ _ _ _ _ z => z) hw (fun q H hq e N1 N0 h1 h0 => turn q H hq e N1 N0 (fun hp H2 e2 => h1 hp _ H2 e2 rfl) h0)
    fun D H2 ys hD e hd pr => done D H2 hD e (by rw [hd, pmapEq pr, List.map_map]; rfl)
end
end K8
namespace K8
open PySem PySem.Spec PyProof.Rows L2
open Evl (Ex ex_l ex_t sz_of sz_lt)
/-! ### for a, b in pairs -/
section
variable {K : PySem.W.Frag} {J : It} {G0 : Hp → Prop} {tl : TE} {tb : TS} {D : Ends} {σ : L2.St} {H H0 : Hp} {a : Addr} {xs : List V} {i j : Nat}
theorem for_pr (ps : Prs) (w : Walk J xs.length G0 (YAt xs)) (pr : Paired (fun q x => PrV K H0 x q) ps xs) (hG : ∀ H', Ex H0 H' → G0 H') (Pv : Nat → L2.St → Hp → Prop) (h0 : Pv 0 σ H) (hE : ∀ n σ' H', Pv n σ' H' → Ex H0 H')
    (hs : ∀ (n : Nat) (q : Int × Int) (σ' : L2.St) (H' : Hp), ps[n]? = some q → Pv n σ' H' → tb { D with nx := Pv (n + 1), ct := Pv (n + 1), bk := D.nx } ((σ'.set i (some (.int q.1))).set j (some (.int q.2))) H') (hd : ∀ σ' H', Pv ps.length σ' H' → D.nx σ' H') :
    ∃ W : Nat → Nat → L2.St → Hp → Prop, (∃ m, W 0 m σ H) ∧ ∀ i' m σ H, W i' m σ H →
      (J.stop i' H ∧ D.nx σ H) ∨ (J.go i' H ∧ ∃ N : L2.St → Hp → Prop, (∀ σ' H', N σ' H' → ∃ m', m' < m ∧ W (i' + 1) m' σ' H') ∧ ∀ x H', J.yld i' H x H' → gPr K i j x σ H' fun σ2 H2 => tb { D with nx := N, ct := N, bk := D.nx } σ2 H2) := by
  refine for_it w Pv h0 (fun n σ' H' _ p => hG H' (hE n σ' H' p)) ?_ fun σ' H' p => hd σ' H' (by rw [plen pr]; exact p)
  rintro n x σ' H' H'' hn p ⟨rfl, hx⟩
  obtain ⟨q, hq, T, rfl, hT⟩ := pget pr hx
  exact ⟨T, _, rfl, ex_t (hE n σ' _ p) hT, rfl, _, _, rfl, _, _, rfl, rfl, hs n q σ' _ hq p⟩
theorem for_prX (ps : Prs) (hX : PsX K H0 a ps) (htl : ∀ Q : VK, Q (.ref a) H → tl σ H Q) (Pv : Nat → L2.St → Hp → Prop) (h0 : Pv 0 σ H) (hE : ∀ n σ' H', Pv n σ' H' → Ex H0 H')
    (hs : ∀ (n : Nat) (q : Int × Int) (σ' : L2.St) (H' : Hp), ps[n]? = some q → Pv n σ' H' → tb { D with nx := Pv (n + 1), ct := Pv (n + 1), bk := D.nx } ((σ'.set i (some (.int q.1))).set j (some (.int q.2))) H') (hd : ∀ σ' H', Pv ps.length σ' H' → D.nx σ' H') :
    tFor (fun σ H R => iList K tl σ H R ∨ iTup K tl σ H R) (gPr K i j) tb D σ H := by
  rcases hX with ⟨xs, hx, pr⟩ | ⟨xs, hx, pr⟩
  · exact .inl (htl _ ⟨a, rfl, ⟨xs, ex_l (hE _ _ _ h0) hx⟩, for_pr ps walk_list pr (fun H' e => ex_l e hx) Pv h0 hE hs hd⟩)
  · exact .inr (htl _ ⟨a, rfl, ⟨xs, ex_t (hE _ _ _ h0) hx⟩, for_pr ps walk_tup pr (fun H' e => ex_t e hx) Pv h0 hE hs hd⟩)
end
end K8

set_option maxRecDepth 100000
set_option maxHeartbeats 4000000
/-! the text by places; a def's promise from its body -/
namespace K8
open PySem PySem.Spec PyProof.Rows L2
open Evl (Ex ex_l ex_t sz_of sz_lt)
def top (i : Nat) : Stmt := PySem.Challenge.pw_smalltowns_k08_whole_shown_by_what_sizes.main.body.getD i (.Pass ⟨0, 0, 0, 0⟩)
abbrev FnP (K : PySem.W.Frag) (x qual : Str) (st : Stmt) (dvs : List V) (f : Addr) (fd : FuncData) : Prop := FunD K x qual (defArgs st) (defBody st) (defScope st) dvs [] f fd
section
variable {P : Program} {w : World} {K : PySem.W.Frag} {mg : Str → Option Value} {base : Heap} {x qual : Str} {st : Stmt} {f : Addr} {fd : FuncData} {N ps : List Str} {k : Nat} {sp : Sp}
theorem ok_of {dvs : List V} (F : FnP K x qual st dvs f fd) (S : FnScope N ps (defScope st)) (len : ∀ vs H Q E, sp vs H Q E → vs.length = ps.length)
    (hbody : ∀ (cdv : Value) (A : Around) (outer : List Env) (s : Shared) (H : Hp) (vs : List V) (Q : VK) (E : XK), Room k (A.deeper (envOfC qual (defScope st) s.heap.objs.size f cdv)) → sp vs H Q E →
      ∃ t, PSs (cxOf CX0 P w K mg base N qual (defScope st) f cdv A outer s H E).nox (defBody st) t ∧ t { nx := fun _ H' => Q .non H', rt := Q } (start N vs) H) : FnOk P w K mg base CX0 (k + 1) f fd ps sp :=
  F.ok S len fun cdv A outer s H vs Q E hr h => let ⟨t, a, b⟩ := hbody cdv A outer s H vs Q E hr h; ⟨t, a.nox, b⟩
theorem raw_of {fd : FuncData} (F : FnOk P w K mg base CX0 k f fd ps sp) (b : Binds K fd ps []) : FnR P w K mg base CX0 k f sp :=
  (F.raw b .nil).imp fun vs H Q E h => by
    show sp (vs ++ []) H Q E
    rw [List.append_nil]
    exact h
theorem cal_of {fd : FuncData} (kp : PySem.W.keepIn K (.ref f) = true) (F : FnOk P w K mg base CX0 k f fd ps sp) (b : Binds K fd ps []) (m : mg x = some (.ref f)) : Cal P w K mg base x k sp := ⟨f, raw_of F b, kp, m⟩
end
/-- the built-ins' names are not the module's -/
structure Bt (mg : Str → Option Value) : Prop where
  sum : mg "sum" = none
  tuple : mg "tuple" = none
  list : mg "list" = none
  sorted : mg "sorted" = none
  len : mg "len" = none
  isinstance : mg "isinstance" = none
  all : mg "all" = none
  range : mg "range" = none
  zip : mg "zip" = none
  max : mg "max" = none
  str : mg "str" = none
  int : mg "int" = none
  bool : mg "bool" = none
  enumerate : mg "enumerate" = none
  abs : mg "abs" = none
end K8

set_option maxRecDepth 100000
set_option maxHeartbeats 4000000
/-! stairs.py -/
namespace K8
open PySem PySem.Spec PyProof.Rows L2
open Evl (Ex ex_l ex_t sz_of sz_lt)
section
variable {P : Program} {w : World} {K : PySem.W.Frag} {mg : Str → Option Value} {base : Heap}

/-! ### least_in -/
abbrev sLeastIn : Stmt := top 38
theorem scLeastIn : FnScope ["form", "first", "last"] ["form"] (defScope sLeastIn) := ⟨rfl, rfl, rfl, by decide +kernel, rfl, by decide +kernel, by decide +kernel⟩
def spLeastIn (K : PySem.W.Frag) : Sp := fun vs H Q _ => ∃ (a : Addr) (f : Prs), vs = [.ref a] ∧ PsT K H a f ∧ f.length ≤ 1000 ∧ ∀ H', Ex H H' → Q (.int (leastF f)) H'
theorem ok_leastIn {f : Addr} {fd : FuncData} (F : FnP K "least_in" "least_in" sLeastIn [] f fd) (T : Bt mg) : FnOk P w K mg base CX0 1 f fd ["form"] (spLeastIn K) := by
  refine ok_of F scLeastIn (fun vs H Q E h => ?_) (fun cdv A outer s H vs Q E hr h => ?_)
  · obtain ⟨a, g, rfl, _⟩ := h
    rfl
  · obtain ⟨a, g, rfl, hf, hl, q⟩ := h
    refine ⟨_, pss_one (ps_ret (pe_callB (cr_sum rfl) (by rfl) T.sum (by decide +kernel) (pa_cons
      (pe_lc (own := [("first", 1), ("last", 2)]) (g := gPr K 1 2) (tt := tYes) rfl scLeastIn.nd (pi_tup (pv 0)) (blkOk_by (N := ["form", "first", "last"]) (sc := defScope sLeastIn) (by decide +kernel))
        (fun _ _ _ _ _ => pg_tup rfl (pgs_cons (pg_name (i := 1) scLeastIn.nd rfl (Or.inl rfl)) (pgs_cons (pg_name (i := 2) scLeastIn.nd rfl (Or.inl rfl)) pgs_nil))) (fun _ _ _ _ _ => pts_nil)
        (fun _ _ _ _ _ => pe_op op_add (pe_op op_sub (pv 2) (pv 1)) pe_int)) pa_nil))), ?_⟩
    refine ⟨.ref a, rfl, a, rfl, lc_prTI g (fun _ => true) (fun q => q.2 - q.1 + 1) hf (by omega) (fun _ _ => rfl) (fun p H1 hp e1 N1 N0 h1 h0 => ?_) fun D H2 hD e2 hd => ?_⟩
    · exact ⟨_, rfl, _, rfl, _, _, rfl, rfl, _, _, rfl, rfl, h1 rfl _ (Evl.Ex.refl _)⟩
    · rw [filter_all] at hd
      exact ⟨D, _, rfl, .inl (.inl hd), q _ e2⟩

/-! ### floors_in -/
def szGo : Prs → Int → Int
  | [], s => s
  | q :: r, s => szGo r (s + q.2 - q.1 + 1)
theorem sz_app (q : Int × Int) : ∀ (l : Prs) (s : Int), szGo (l ++ [q]) s = szGo l s + q.2 - q.1 + 1
  | [], _ => rfl
  | a :: r, s => sz_app q r _
theorem fl_app (q : Int × Int) : ∀ (l : Prs) (s : Int), flGo (l ++ [q]) s = flGo l s ++ [(szGo l s + q.2 - q.1 + 1, q.2 + szGo l s)]
  | [], _ => rfl
  | a :: r, s => congrArg (_ :: ·) (fl_app q r _)
theorem fl_len : ∀ (l : Prs) (s : Int), (flGo l s).length = l.length
  | [], _ => rfl
  | _ :: r, _ => congrArg (· + 1) (fl_len r _)
theorem floors_len (f : Prs) : (floorsF f).length = f.length := by
  unfold floorsF
  rw [fl_len, List.length_reverse]
/-- a list of pairs that is being made -/
def LsP (K : PySem.W.Frag) (H : Hp) (o : Addr) (acc : Prs) : Prop := ∃ ys, H o = some (.lst ys) ∧ Paired (fun q x => PrV K H x q) acc ys
theorem LsP.nil {H : Hp} {o : Addr} : LsP K (upd H o (.lst [])) o [] := ⟨[], upd_same, .nil⟩
theorem LsP.ex {H H' : Hp} {o : Addr} {acc : Prs} (e : Ex H H') (h : LsP K H o acc) : LsP K H' o acc := let ⟨ys, a, b⟩ := h; ⟨ys, e _ _ a, pmono b fun _ _ z => z.ex e⟩
theorem LsP.psl {H : Hp} {o : Addr} {acc : Prs} (h : LsP K H o acc) : PsL K H o acc := let ⟨ys, a, b⟩ := h; ⟨ys, .inl (.inl a), b⟩
/-- one pair more, new at T -/
theorem LsP.app {H : Hp} {o T : Addr} {acc : Prs} {q : Int × Int} {ys : List V} (h1 : H o = some (.lst ys)) (h2 : Paired (fun q x => PrV K H x q) acc ys) (hT : H T = none) :
    LsP K (upd (upd H T (.tup [.int q.1, .int q.2])) o (.lst (ys ++ [.ref T]))) o (acc ++ [q]) := by
  have e1 : ExN H (upd H T (.tup [.int q.1, .int q.2])) := ExN.of (ex_new hT)
  have e2 : ExN (upd H T (.tup [.int q.1, .int q.2])) (upd (upd H T (.tup [.int q.1, .int q.2])) o (.lst (ys ++ [.ref T]))) := ExN.mut (by rw [upd_ne (ne_of_none h1 hT)]; exact h1)
  exact ⟨_, upd_same, papp (pmono h2 fun _ _ z => z.exn (e1.trans e2)) (.cons ⟨T, rfl, exn_t e2 tup_new⟩ .nil)⟩
theorem ex_mut {H0 H : Hp} {o : Addr} {x : HO} (e : Ex H0 H) (h : H0 o = none) : Ex H0 (upd H o x) := Evl.Ex.mut e h
theorem take_snoc {α : Type} {l : List α} {i : Nat} {a : α} (h : l[i]? = some a) : l.take (i + 1) = l.take i ++ [a] := by
  rw [List.take_add_one, h]
  rfl
abbrev sFloorsIn : Stmt := top 39
theorem scFloorsIn : FnScope ["form", "found", "size", "first", "last", "rows"] ["form"] (defScope sFloorsIn) := ⟨rfl, rfl, rfl, by decide +kernel, rfl, by decide +kernel, by decide +kernel⟩
def spFloorsIn (K : PySem.W.Frag) : Sp := fun vs H Q _ => ∃ (a : Addr) (f : Prs), vs = [.ref a] ∧ PsT K H a f ∧ f.length ≤ 1000 ∧ ∀ p H', Ex H H' → PsT K H' p (floorsF f) → Q (.ref p) H'
theorem ok_floorsIn {f : Addr} {fd : FuncData} (F : FnP K "floors_in" "floors_in" sFloorsIn [] f fd) (T : Bt mg) : FnOk P w K mg base CX0 1 f fd ["form"] (spFloorsIn K) := by
  refine ok_of F scFloorsIn (fun vs H Q E h => ?_) (fun cdv A outer s H vs Q E hr h => ?_)
  · obtain ⟨a, g, rfl, _⟩ := h
    rfl
  · obtain ⟨a, g, rfl, ⟨xs, hx, pr⟩, hl, q⟩ := h
    have nd := scFloorsIn.nd
    refine ⟨_, pss_cons (ps_set (i := 1) nd rfl (.inl rfl) (pe_lst pa_nil)) (pss_cons (ps_set (i := 2) nd rfl (.inl rfl) pe_int)
      (pss_cons (ps_for PassesOwn.never rfl (pi_tup (pe_revT (pv 0))) (pg_tup rfl (pgs_cons (pg_name (i := 3) nd rfl (.inl rfl)) (pgs_cons (pg_name (i := 4) nd rfl (.inl rfl)) pgs_nil)))
        (pss_cons (ps_set (i := 5) nd rfl (.inl rfl) (pe_op op_add (pv 4) (pv 2)))
        (pss_cons (ps_set (i := 2) nd rfl (.inl rfl) (pe_op op_add (pe_op op_sub (pe_op op_add (pv 2) (pv 4)) (pv 3)) pe_int))
        (pss_one (ps_expr (pe_bm PySem.F.plainAttrs_list PySem.F.slot_list_append PySem.F.type_list_append mt_append (pv 1) (pa_cons (pe_tup (pa_cons (pv 2) (pa_cons (pv 5) pa_nil))) pa_nil)))))))
      (pss_one (ps_ret (pe_callTy call_tuple_of (by rfl) T.tuple (by decide +kernel) (pa_cons (pv 1) pa_nil)))))), ?_⟩
    refine ⟨Nat.zero_le _, fun o ho => ?_⟩
    have e0 : Ex H (upd H o (.lst [])) := ex_new ho
    refine ⟨.ref a, rfl, a, xs, rfl, ex_t e0 hx, fun p hp => ⟨p, rfl, ⟨_, tup_new⟩, ?_⟩⟩
    have npo : o ≠ p := ne_of_none (upd_same (H := H) (o := .lst [])) hp
    have pr2 := prev pr
    have hp0 : H p = none := Evl.fresh_back e0 hp
    refine for_it (walk_tup (xs := xs.reverse)) (fun i σ H' => ∃ y3 y4 y5, σ = [some (.ref a), some (.ref o), some (.int (szGo (g.reverse.take i) 0)), y3, y4, y5] ∧ Ex H H' ∧ H' p = some (.tup xs.reverse) ∧ LsP K H' o (flGo (g.reverse.take i) 0))
      ⟨none, none, none, rfl, ex_mut e0 hp0, upd_same, ?_⟩ (fun i σ H' _ z => ?_) ?_ ?_
    · exact ⟨[], by rw [upd_ne npo, upd_same], .nil⟩
    · obtain ⟨_, _, _, _, _, z, _⟩ := z
      exact .inl (.inl z)
    · rintro i x σ H' H'' hi ⟨y3, y4, y5, rfl, e1, hpt, ys, hy, pry⟩ ⟨rfl, hxi⟩
      obtain ⟨z, hz, T1, rfl, hT⟩ := pget pr2 hxi
      have et := take_snoc hz
      have hT' := ex_t e1 hT
      refine ⟨T1, _, rfl, hT', rfl, _, _, rfl, _, _, rfl, rfl, ?_⟩
      refine ⟨_, rfl, _, rfl, _, _, rfl, rfl, _, rfl, _, rfl, _, _, rfl, rfl, _, rfl, _, _, rfl, rfl, _, _, rfl, rfl, _, rfl, .inl ⟨rfl, _, .inl (.inl hy)⟩, _, rfl, _, rfl, (by show 2 ≤ sizeLine; decide), fun T2 h2 => ?_⟩
      have n2 : o ≠ T2 := ne_of_none hy h2
      have n3 : p ≠ T2 := ne_of_none hpt h2
      have l1 := plen pry
      rw [fl_len, List.length_take, List.length_reverse] at l1
      refine ⟨o, ys, .ref T2, rfl, rfl, (by rw [upd_ne n2]; exact hy), sz_lt (by omega), some (.int z.1), some (.int z.2), some (.int (z.2 + szGo (g.reverse.take i) 0)), ?_, ex_mut (e1.trans (ex_new h2)) ho, ?_, ?_⟩
      · rw [et, sz_app]
        rfl
      · rw [upd_ne npo.symm, upd_ne n3]
        exact hpt
      · rw [et, fl_app]
        exact LsP.app (q := (szGo (g.reverse.take i) 0 + z.2 - z.1 + 1, z.2 + szGo (g.reverse.take i) 0)) hy pry h2
    · rintro σ H' ⟨y3, y4, y5, rfl, e1, hpt, ys, hy, pry⟩
      have et : g.reverse.take xs.reverse.length = g.reverse := List.take_of_length_le (by rw [List.length_reverse, List.length_reverse, plen pr]; exact Nat.le_refl _)
      rw [et] at pry
      refine ⟨.ref o, rfl, o, ys, rfl, .inl ⟨.inl (.inl hy), fun l hl => q l _ (e1.trans (ex_new hl)) ⟨ys, tup_new, pmono pry fun _ _ z => z.ex (ex_new hl)⟩⟩⟩

/-! ### floor_in -/
theorem lk_at : ∀ {fl : Prs} {i : Nat} {q : Int × Int} {n : Int}, fl[i]? = some q → (∀ z ∈ fl.take i, ¬ n ≤ z.1) → n ≤ q.1 → lkF fl n = q.2
  | [], i, q, n, h, _, _ => by simp at h
  | a :: r, 0, q, n, h, _, hn => by
    have e := Option.some.inj h
    subst e
    show (if n ≤ a.1 then a.2 else lkF r n) = a.2
    rw [if_pos hn]
  | a :: r, i + 1, q, n, h, h1, hn => by
    show (if n ≤ a.1 then a.2 else lkF r n) = q.2
    rw [if_neg (h1 a (by rw [List.take_succ_cons]; exact List.mem_cons_self))]
    exact lk_at (i := i) h (fun z hz => h1 z (by rw [List.take_succ_cons]; exact List.mem_cons_of_mem _ hz)) hn
theorem lk_out : ∀ {fl : Prs} {n : Int}, (∀ z ∈ fl, ¬ n ≤ z.1) → lkF fl n = 0
  | [], _, _ => rfl
  | a :: r, n, h => by
    show (if n ≤ a.1 then a.2 else lkF r n) = 0
    rw [if_neg (h a List.mem_cons_self)]
    exact lk_out fun z hz => h z (List.mem_cons_of_mem _ hz)
abbrev sFloorIn : Stmt := top 40
theorem scFloorIn : FnScope ["form", "size", "own", "rows"] ["form", "size"] (defScope sFloorIn) := ⟨rfl, rfl, rfl, by decide +kernel, rfl, by decide +kernel, by decide +kernel⟩
def floorF (f : Prs) (n : Int) : Int := lkF (floorsF f) n
def spFloorIn (K : PySem.W.Frag) : Sp := fun vs H Q _ => ∃ (a : Addr) (f : Prs) (n : Int), vs = [.ref a, .int n] ∧ PsT K H a f ∧ f.length ≤ 1000 ∧ ∀ H', Ex H H' → Q (.int (floorF f n)) H'
theorem ok_floorIn {f : Addr} {fd : FuncData} (F : FnP K "floor_in" "floor_in" sFloorIn [] f fd) (G : Cal P w K mg base "floors_in" 1 (spFloorsIn K)) : FnOk P w K mg base CX0 2 f fd ["form", "size"] (spFloorIn K) := by
  refine ok_of F scFloorIn (fun vs H Q E h => ?_) (fun cdv A outer s H vs Q E hr h => ?_)
  · obtain ⟨a, g, n, rfl, _⟩ := h
    rfl
  · obtain ⟨a, g, n, rfl, hg, hl, q⟩ := h
    have nd := scFloorIn.nd
    refine ⟨_, pss_cons (ps_for PassesOwn.never rfl (pi_tup (pe_cal G hr (pa_cons (pv 0) pa_nil))) (pg_tup rfl (pgs_cons (pg_name (i := 2) nd rfl (.inl rfl)) (pgs_cons (pg_name (i := 3) nd rfl (.inl rfl)) pgs_nil)))
        (pss_one (ps_if (pt_cmpR op_le (pv 1) (pv 2) (nomark _)) (pss_one (ps_ret (pv 3))) pss_nil)))
      (pss_one (ps_ret pe_int)), ?_⟩
    refine ⟨.ref a, rfl, a, g, rfl, hg, hl, fun p H1 e1 ⟨xs, hx, pr⟩ => ⟨p, rfl, ⟨xs, hx⟩, ?_⟩⟩
    refine for_it (walk_tup (xs := xs)) (fun i σ H' => ∃ y2 y3, σ = [some (.ref a), some (.int n), y2, y3] ∧ Ex H1 H' ∧ ∀ z ∈ (floorsF g).take i, ¬ n ≤ z.1)
      ⟨none, none, rfl, Evl.Ex.refl _, (by rw [List.take_zero]; exact fun z hz => nomatch hz)⟩ (fun i σ H' _ z => ?_) ?_ ?_
    · obtain ⟨_, _, _, e2, _⟩ := z
      exact ex_t e2 hx
    · rintro i x σ H' H'' hi ⟨y2, y3, rfl, e2, hz⟩ ⟨rfl, hxi⟩
      obtain ⟨z, hzi, T1, rfl, hT⟩ := pget pr hxi
      refine ⟨T1, _, rfl, ex_t e2 hT, rfl, _, _, rfl, _, _, rfl, rfl, ?_⟩
      refine ⟨_, rfl, _, rfl, _, _, rfl, rfl, _, rfl, ite2 (fun hc => ?_) (fun hc => ?_)⟩
      · have hn := of_decide_eq_true hc
        refine ⟨_, rfl, ?_⟩
        have e := lk_at hzi hz hn
        have := q H'' (e1.trans e2)
        unfold floorF at this
        rw [e] at this
        exact this
      · have hn : ¬ n ≤ z.1 := fun hn => hc (decide_eq_true hn)
        refine ⟨_, _, rfl, e2, fun u hu => ?_⟩
        rw [take_snoc hzi] at hu
        rcases List.mem_append.mp hu with hu | hu
        · exact hz u hu
        · rw [List.mem_singleton.mp hu]
          exact hn
    · rintro σ H' ⟨y2, y3, rfl, e2, hz⟩
      have et : (floorsF g).take xs.length = floorsF g := List.take_of_length_le (by rw [plen pr]; exact Nat.le_refl _)
      rw [et] at hz
      have := q H' (e1.trans e2)
      unfold floorF at this
      rw [lk_out hz] at this
      exact this

/-! ### form_with -/
theorem fw_app (q : Int × Int) : ∀ (l : Prs) (b : Int), fwGo (l ++ [q]) b = fwGo l b ++ [(q.2 - q.1 + 1, q.2 - ((l.getLast?.map (·.1)).getD b))]
  | [], _ => rfl
  | [a], _ => rfl
  | a :: c :: r, b => by
    have ih := fw_app q (c :: r) a.1
    show _ :: fwGo (c :: r ++ [q]) a.1 = _ :: (fwGo (c :: r) a.1 ++ _)
    rw [ih]
    rfl
theorem fw_len : ∀ (l : Prs) (s : Int), (fwGo l s).length = l.length
  | [], _ => rfl
  | _ :: r, _ => congrArg (· + 1) (fw_len r _)
theorem kept_len (fl : Prs) : (keptF fl).length ≤ fl.length := by
  unfold keptF
  rw [List.length_map]
  refine Nat.le_trans (List.length_filter_le _ _) ?_
  rw [List.length_zip]
  exact Nat.min_le_left _ _
theorem form_len (fl : Prs) : (formWithF fl).length ≤ fl.length := by
  unfold formWithF
  rw [List.length_reverse, fw_len]
  exact kept_len fl
/-- the size before -/
def befF (l : Prs) : Int := (l.getLast?.map (·.1)).getD 0
abbrev sFormWith : Stmt := top 41
abbrev nFormWith : List Str := ["floors", "kept", "found", "before", "size", "rows", "own", "later"]
theorem scFormWith : FnScope nFormWith ["floors"] (defScope sFormWith) := ⟨rfl, rfl, rfl, by decide +kernel, rfl, by decide +kernel, by decide +kernel⟩
abbrev ttKept (K : PySem.W.Frag) : TT := tTest (tOp rNe (tOp (rIxT K) (tVar 7) (tC (.int 1))) (tOp (rIxT K) (tVar 6) (tC (.int 1))))
def spFormWith (K : PySem.W.Frag) : Sp := fun vs H Q _ => ∃ (a : Addr) (fl : Prs), vs = [.ref a] ∧ PsL K H a fl ∧ fl.length ≤ 2000 ∧ ∀ p H', Ex H H' → PsT K H' p (formWithF fl) → Q (.ref p) H'
theorem cut1V (xs : List V) : cutV xs (some 1) none = xs.drop 1 := by
  unfold cutV
  rw [show HT.sIx xs.length 0 (some 1) = min 1 xs.length from HT.sIx_nat xs.length 0 1, HT.sIx_none]
  cases xs with
  | nil => rfl
  | cons x r =>
    rw [show min 1 (x :: r).length = 1 by rw [List.length_cons]; omega]
    show List.take ((x :: r).length - 1) r = r
    rw [List.length_cons, Nat.add_sub_cancel]
    exact List.take_length
theorem pdrop {α β : Type} {F : α → β → Prop} : ∀ {l : List α} {m : List β} (n : Nat), Paired F l m → Paired F (l.drop n) (m.drop n)
  | _, _, 0, h => h
  | _, _, n + 1, .nil => .nil
  | _, _, n + 1, .cons _ t => pdrop n t
theorem pmapL {α β γ : Type} {f : α → γ} {G : γ → β → Prop} : ∀ {l : List α} {m : List β}, Paired (fun a b => G (f a) b) l m → Paired G (l.map f) m
  | _, _, .nil => .nil
  | _, _, .cons r t => .cons r (pmapL t)
theorem ok_formWith {f : Addr} {fd : FuncData} (F : FnP K "form_with" "form_with" sFormWith [] f fd) (T : Bt mg) : FnOk P w K mg base CX0 1 f fd ["floors"] (spFormWith K) := by
  refine ok_of F scFormWith (fun vs H Q E h => ?_) (fun cdv A outer s H vs Q E hr h => ?_)
  · obtain ⟨a, g, rfl, _⟩ := h
    rfl
  · obtain ⟨a, g, rfl, ⟨xs, hx, pr⟩, hl, q⟩ := h
    have nd := scFormWith.nd
    refine ⟨_, pss_cons (ps_setLc (i := 1) (own := [("own", 6), ("later", 7)]) (g := gPr K 6 7) (tt := ttKept K) rfl nd rfl rfl (sw_true rfl rfl rfl (by decide +kernel))
        (pi_zip (by rfl) T.zip (pa_cons (pv 0) (pa_cons (pe_lst (StX.pa_star (pe_slice sl_list (pv 0) (po_some pe_int) po_none) (pa_cons (pe_tup (pa_cons pe_int (pa_cons pe_int pa_nil))) pa_nil))) pa_nil)))
        (blkOk_by (N := nFormWith) (sc := defScope sFormWith) (by decide +kernel))
        (fun _ _ _ _ _ => pg_tup rfl (pgs_cons (pg_name (i := 6) nd rfl (.inl rfl)) (pgs_cons (pg_name (i := 7) nd rfl (.inl rfl)) pgs_nil)))
        (fun _ _ _ _ _ => pts_one (pt_cmpR op_ne (pe_ix ix_tup (pv 7) pe_int (fun _ _ => rfl)) (pe_ix ix_tup (pv 6) pe_int (fun _ _ => rfl)) (nomark _)))
        (fun _ _ _ _ _ => pv 6))
      (pss_cons (ps_set (i := 2) nd rfl (.inl rfl) (pe_lst pa_nil)) (pss_cons (ps_set (i := 3) nd rfl (.inl rfl) pe_int)
      (pss_cons (ps_for PassesOwn.never rfl (pi_list (pv 1)) (pg_tup rfl (pgs_cons (pg_name (i := 4) nd rfl (.inl rfl)) (pgs_cons (pg_name (i := 5) nd rfl (.inl rfl)) pgs_nil)))
        (pss_cons (ps_expr (pe_bm PySem.F.plainAttrs_list PySem.F.slot_list_append PySem.F.type_list_append mt_append (pv 2) (pa_cons (pe_tup (pa_cons (pe_op op_add (pe_op op_sub (pv 5) (pv 4)) pe_int) (pa_cons (pe_op op_sub (pv 5) (pv 3)) pa_nil))) pa_nil)))
        (pss_one (ps_set (i := 3) nd rfl (.inl rfl) (pv 4)))))
      (pss_one (ps_ret (pe_callTy call_tuple_of (by rfl) T.tuple (by decide +kernel) (pa_cons (pe_revL (pv 2)) pa_nil))))))), ?_⟩
    have ht0 : ∀ {H0 : Hp} {t : Addr}, PrV K (upd H0 t (.tup [.int 0, .int 0])) (.ref t) (0, 0) := fun {_ _} => ⟨_, rfl, tup_new⟩
    -- zip(floors, [*floors[1:], (0, 0)])
    refine ⟨.ref a, rfl, .ref a, rfl, 1, rfl, a, xs, rfl, hx, fun c hc => ⟨c, _, rfl, .inr lst_new, ?_⟩⟩
    have e1 : Ex H (upd H c (.lst (cutV xs (some 1) none))) := ex_new hc
    refine ⟨(by show 2 ≤ sizeLine; decide), fun t ht => ⟨?_, fun b hb => ?_⟩⟩
    · have l1 := cutV_length xs (some 1) none
      have l2 := plen pr
      rw [List.length_append, List.length_singleton]
      exact Nat.le_of_lt (sz_lt (by omega))
    have e2 := ex_new (o := .tup [.int 0, .int 0]) ht
    have e3 := ex_new (o := .lst (cutV xs (some 1) none ++ [.ref t])) hb
    have E1 := (e1.trans e2).trans e3
    refine ⟨a, b, xs, _, rfl, ex_l E1 hx, lst_new, ?_⟩
    have pr2 : Paired (fun q x => PrV K (upd (upd (upd H c (.lst (cutV xs (some 1) none))) t (.tup [.int 0, .int 0])) b (.lst (cutV xs (some 1) none ++ [.ref t]))) x q) (g.drop 1 ++ [(0, 0)]) (cutV xs (some 1) none ++ [.ref t]) := by
      have prd : Paired (fun q x => PrV K H x q) (g.drop 1) (cutV xs (some 1) none) := by
        rw [cut1V]
        exact pdrop 1 pr
      exact papp (pmono prd fun _ _ z => z.ex E1) (.cons (PrV.ex e3 ht0) .nil)
    have hn : (g.zip (g.drop 1 ++ [(0, 0)])).length = min xs.length (cutV xs (some 1) none ++ [V.ref t]).length := by
      rw [List.length_zip, plen pr, plen pr2]
    refine lc_map (g.zip (g.drop 1 ++ [(0, 0)])) (fun z => z.2.2 != z.1.2) (fun z v H => PrV K H v z.1) (walk_zip hn) ?_ (fun H' e => ⟨ex_l (E1.trans e) hx, ex_l e lst_new⟩) (fun _ _ _ _ e z => z.exn e) ?_ ?_
    · rw [List.length_zip]
      omega
    · rintro i z x H2 H3 hz eH ⟨T1, x1, x2, rfl, hT, rfl, h1, h2⟩ N1 N0 n1 n0
      obtain ⟨z1, hz1, T2, rfl, hT2⟩ := pget pr h1
      obtain ⟨z2, hz2, T3, rfl, hT3⟩ := pget pr2 h2
      obtain ⟨hz3, hz4⟩ := List.getElem?_zip_eq_some.mp hz
      rw [hz1] at hz3
      rw [hz2] at hz4
      have ez1 := Option.some.inj hz3
      have ez2 := Option.some.inj hz4
      subst ez1
      subst ez2
      have e5 : Ex H2 (upd H2 T1 (.tup [.ref T2, .ref T3])) := ex_new hT
      refine ⟨T1, _, rfl, tup_new, rfl, _, _, rfl, _, _, rfl, rfl, rfl, ?_⟩
      refine ⟨.ref T3, rfl, T3, _, 1, .int z.2.2, rfl, rfl, ex_t (eH.trans e5) hT3, rfl, .ref T2, rfl, T2, _, 1, .int z.1.2, rfl, rfl, ex_t ((E1.trans eH).trans e5) hT2, rfl, rfl, _, rfl, ?_⟩
      have ed : (!decide (V.int z.2.2 = V.int z.1.2)) = (z.2.2 != z.1.2) := by
        rw [dec_int]
        rfl
      rw [ed]
      cases hp : (z.2.2 != z.1.2) with
      | true => exact ⟨_, rfl, n1 hp _ _ e5 ⟨T2, rfl, ex_t ((E1.trans eH).trans e5) hT2⟩⟩
      | false => exact n0 hp _ e5
    · intro D H2 ys hD eD hd pk
      have hk : PsL K H2 D (keptF g) := ⟨ys, .inl (.inl hd), by
        unfold keptF
        exact (show Paired (fun q x => PrV K H2 x q) _ _ from pmapL pk)⟩
      obtain ⟨zs, hzs, pz⟩ := hk
      have HD : Ex H H2 := E1.trans eD
      refine ⟨Nat.zero_le _, fun o ho => ?_⟩
      have e7 : Ex H2 (upd H2 o (.lst [])) := ex_new ho
      have hD1 : SqL K (upd H2 o (.lst [])) D zs := ex_l e7 hzs
      have ho0 : H o = none := Evl.fresh_back HD ho
      refine ⟨.ref D, rfl, D, rfl, ⟨_, hD1⟩, ?_⟩
      refine for_it (walk_list (xs := zs)) (fun i σ H' => ∃ y4 y5 y6 y7, σ = [some (.ref a), some (.ref D), some (.ref o), some (.int (befF ((keptF g).take i))), y4, y5, y6, y7] ∧ Ex H2 H' ∧ LsP K H' o (fwGo ((keptF g).take i) 0))
        ⟨_, _, _, _, rfl, e7, LsP.nil⟩ (fun i σ H' _ z => ?_) ?_ ?_
      · obtain ⟨_, _, _, _, _, z, _⟩ := z
        exact ex_l z hzs
      · rintro i x σ H3 H4 hi ⟨y4, y5, y6, y7, rfl, e8, ys, hy, pry⟩ ⟨rfl, hxi⟩
        obtain ⟨z, hz, T1, rfl, hT⟩ := pget pz hxi
        have et := take_snoc hz
        refine ⟨T1, _, rfl, ex_t e8 hT, rfl, _, _, rfl, _, _, rfl, rfl, ?_⟩
        refine ⟨_, rfl, .inl ⟨rfl, _, .inl (.inl hy)⟩, _, rfl, _, rfl, _, _, rfl, rfl, _, _, rfl, rfl, _, rfl, _, rfl, _, _, rfl, rfl, (by show 2 ≤ sizeLine; decide), fun T2 h2 => ?_⟩
        have n2 : o ≠ T2 := ne_of_none hy h2
        have l1 := plen pry
        have l2 := kept_len g
        rw [fw_len, List.length_take] at l1
        refine ⟨o, ys, .ref T2, rfl, rfl, (by rw [upd_ne n2]; exact hy), sz_lt (by omega), _, rfl, some (.int z.1), some (.int z.2), y6, y7, ?_, ex_mut (e8.trans (ex_new h2)) ho, ?_⟩
        · rw [et]
          unfold befF
          rw [List.getLast?_concat]
          rfl
        · rw [et, fw_app]
          exact LsP.app (q := (z.2 - z.1 + 1, z.2 - befF ((keptF g).take i))) hy pry h2
      · rintro σ H3 ⟨y4, y5, y6, y7, rfl, e8, ys, hy, pry⟩
        have et : (keptF g).take zs.length = keptF g := List.take_of_length_le (by rw [plen pz]; exact Nat.le_refl _)
        rw [et] at pry
        refine ⟨.ref o, rfl, o, ys, rfl, .inl (.inl hy), fun r hr => ⟨r, _, rfl, .inl ⟨lst_new, fun l hl => q l _ ((HD.trans e8).trans ((ex_new hr).trans (ex_new hl))) ⟨ys.reverse, tup_new, ?_⟩⟩⟩⟩
        unfold formWithF
        exact prev (pmono pry fun _ _ z => z.ex ((ex_new hr).trans (ex_new hl)))
end
end K8

set_option maxRecDepth 100000
set_option maxHeartbeats 4000000
/-! Step; form_of_step, form_behind, form_of_steps -/
namespace K8
open PySem PySem.Spec PyProof.Rows L2
open Evl (Ex ex_l ex_t sz_of sz_lt)

/-! ### Steps -/
def kindS (b : Bool) : Str := if b then "town" else "county"
def stFs (s : Stp) : List (Str × V) := putF "own_least" (.int s.2) (putF "own_kind" (.str (kindS s.1)) [])
theorem st_ne : ¬ (("own_kind" : Str) = "own_least") := by decide +kernel
theorem stFs_kind (s : Stp) : (stFs s).lookup ("own_kind" : Str) = some (.str (kindS s.1)) := by
  unfold stFs
  rw [lookup_putF, if_neg st_ne, lookup_putF, if_pos rfl]
theorem stFs_least (s : Stp) : (stFs s).lookup ("own_least" : Str) = some (.int s.2) := by
  unfold stFs
  rw [lookup_putF, if_pos rfl]
structure ClsS (K : PySem.W.Frag) (C : Addr) : Prop where
  cl : Cls K C
  nK : NoAttr K C "own_kind"
  nL : NoAttr K C "own_least"
def StV (C : Addr) (H : Hp) (v : V) (s : Stp) : Prop := ∃ a dx, v = .ref a ∧ H a = some (.ins C dx (stFs s))
theorem StV.exn {C : Addr} {H H' : Hp} {v : V} {s : Stp} (e : ExN H H') (h : StV C H v s) : StV C H' v s := let ⟨a, dx, e1, e2⟩ := h; ⟨a, dx, e1, e _ _ e2 fun _ z => nomatch z⟩
theorem StV.ex {C : Addr} {H H' : Hp} {v : V} {s : Stp} (e : Ex H H') (h : StV C H v s) : StV C H' v s := h.exn (ExN.of e)
/-- all but the new instance stays -/
def ExB (p : Addr) (H H' : Hp) : Prop := ∀ b o, H b = some o → b ≠ p → H' b = some o
theorem ex_made {H H2 : Hp} {x dx C : Addr} (hx : H x = none) (hd : H dx = none) (e : ExB x (upd (upd H dx (.own x)) x (.ins C dx [])) H2) : Ex H H2 := fun b o h =>
  e b o (by rw [upd_ne (ne_of_none h hx), upd_ne (ne_of_none h hd)]; exact h) (ne_of_none h hx)
section
variable {P : Program} {w : World} {K : PySem.W.Frag} {mg : Str → Option Value} {base : Heap} {C : Addr}
abbrev sStepInit : Stmt := inClass (top 35) 0
theorem scStepInit : FnScope ["self", "kind", "least"] ["self", "kind", "least"] (defScope sStepInit) := ⟨rfl, rfl, rfl, by decide +kernel, rfl, by decide +kernel, by decide +kernel⟩
def spStepInit (C : Addr) : Sp := fun vs H Q _ => ∃ (p dx : Addr) (s : Stp), vs = [.ref p, .str (kindS s.1), .int s.2] ∧ H p = some (.ins C dx []) ∧ 1 ≤ s.2 ∧ ∀ H', ExB p H H' → H' p = some (.ins C dx (stFs s)) → Q .non H'
theorem ok_stepInit {f aK : Addr} {fd : FuncData} (F : FnP K "__init__" "Step.__init__" sStepInit [] f fd) (T : ClsS K C) (mK : mg "KINDS" = some (.ref aK)) (hK : ∀ H, SqT K H aK [.str "town", .str "county"]) :
    FnOk P w K mg base CX0 1 f fd ["self", "kind", "least"] (spStepInit C) := by
  refine ok_of F scStepInit (fun vs H Q E h => ?_) (fun cdv A outer s H vs Q E hr h => ?_)
  · obtain ⟨p, dx, s, rfl, _⟩ := h
    rfl
  · obtain ⟨p, dx, s, rfl, hp, hn, q⟩ := h
    have nd := scStepInit.nd
    refine ⟨_, pss_cons (ps_if (PW.pt (pw_or (pt_cmpR op_notIn_seq (pv 1) (pe_glob (v := .ref aK) (by rfl) mK rfl) (by rfl)) (pw_or1 (pt_cmpR op_lt (pv 2) pe_int (nomark _))))) (pss_one ps_never) pss_nil)
      (pss_one (ps_asg (pe_tup (pa_cons (pv 1) (pa_cons (pv 2) pa_nil))) (pg_tup rfl (pgs_cons (pg_fld (pv 0)) (pgs_cons (pg_fld (pv 0)) pgs_nil))))), ?_⟩
    have hin : inV (.str (kindS s.1)) [.str "town", .str "county"] = true := by
      cases s.1 <;> decide +kernel
    refine ⟨_, rfl, aK, _, rfl, .inr (hK H), rfl, rfl, false, by rw [if_pos rfl, hin]; rfl, iteF ⟨_, rfl, s.2, 1, rfl, rfl, _, rfl, ?_⟩⟩
    rw [decide_eq_false (by omega : ¬ s.2 < 1)]
    refine iteF ?_
    refine ⟨_, rfl, _, rfl, (by show 2 ≤ sizeLine; decide), fun T1 h1 => ?_⟩
    have n1 : p ≠ T1 := ne_of_none hp h1
    refine ⟨T1, _, rfl, tup_new, rfl, _, _, rfl, _, rfl, p, C, dx, [], rfl, (by rw [upd_ne n1]; exact hp), T.cl, T.nK, (by show 0 < 1000; decide), _, _, rfl, _, rfl, p, C, dx, _, rfl, upd_same, T.cl, T.nL, (by show 1 < 1000; decide), rfl, ?_⟩
    refine q _ (fun b o h hb => ?_) upd_same
    rw [upd_ne hb, upd_ne hb, upd_ne (ne_of_none h h1)]
    exact h

/-! ### kind, least -/
abbrev sStepKind : Stmt := inClass (top 35) 2
abbrev sStepLeast : Stmt := inClass (top 35) 3
theorem scStepKind : FnScope ["self"] ["self"] (defScope sStepKind) := ⟨rfl, rfl, rfl, by decide +kernel, rfl, by decide +kernel, by decide +kernel⟩
theorem scStepLeast : FnScope ["self"] ["self"] (defScope sStepLeast) := ⟨rfl, rfl, rfl, by decide +kernel, rfl, by decide +kernel, by decide +kernel⟩
def spStepKind (C : Addr) : Sp := fun vs H Q _ => ∃ (v : V) (s : Stp), vs = [v] ∧ StV C H v s ∧ Q (.str (kindS s.1)) H
def spStepLeast (C : Addr) : Sp := fun vs H Q _ => ∃ (v : V) (s : Stp), vs = [v] ∧ StV C H v s ∧ Q (.int s.2) H
theorem ok_stepKind {f : Addr} {fd : FuncData} (F : FnP K "kind" "Step.kind" sStepKind [] f fd) (T : ClsS K C) : FnOk P w K mg base CX0 1 f fd ["self"] (spStepKind C) := by
  refine ok_of F scStepKind (fun vs H Q E h => ?_) (fun cdv A outer s H vs Q E hr h => ?_)
  · obtain ⟨v, s, rfl, _⟩ := h
    rfl
  · obtain ⟨v, s, rfl, ⟨a, dx, rfl, ha⟩, q⟩ := h
    exact ⟨_, pss_one (ps_ret (pe_fld (pv 0) rfl)), _, rfl, a, C, dx, _, _, rfl, ha, T.cl, T.nK, stFs_kind s, q⟩
theorem ok_stepLeast {f : Addr} {fd : FuncData} (F : FnP K "least" "Step.least" sStepLeast [] f fd) (T : ClsS K C) : FnOk P w K mg base CX0 1 f fd ["self"] (spStepLeast C) := by
  refine ok_of F scStepLeast (fun vs H Q E h => ?_) (fun cdv A outer s H vs Q E hr h => ?_)
  · obtain ⟨v, s, rfl, _⟩ := h
    rfl
  · obtain ⟨v, s, rfl, ⟨a, dx, rfl, ha⟩, q⟩ := h
    exact ⟨_, pss_one (ps_ret (pe_fld (pv 0) rfl)), _, rfl, a, C, dx, _, _, rfl, ha, T.cl, T.nL, stFs_least s, q⟩

/-! ### form_of_step -/
abbrev sFormOfStep : Stmt := top 42
theorem scFormOfStep : FnScope ["step"] ["step"] (defScope sFormOfStep) := ⟨rfl, rfl, rfl, by decide +kernel, rfl, by decide +kernel, by decide +kernel⟩
def spFormOfStep (K : PySem.W.Frag) (C : Addr) : Sp := fun vs H Q _ => ∃ (v : V) (s : Stp), vs = [v] ∧ StV C H v s ∧ ∀ p H', Ex H H' → PsT K H' p (formOfStepF s) → Q (.ref p) H'
theorem ok_formOfStep {f : Addr} {fd : FuncData} (F : FnP K "form_of_step" "form_of_step" sFormOfStep [] f fd) (T : ClsS K C) (G1 : PrC P w K mg base C "kind" 1 (spStepKind C)) (G2 : PrC P w K mg base C "least" 1 (spStepLeast C)) :
    FnOk P w K mg base CX0 3 f fd ["step"] (spFormOfStep K C) := by
  refine ok_of F scFormOfStep (fun vs H Q E h => ?_) (fun cdv A outer s H vs Q E hr h => ?_)
  · obtain ⟨v, s, rfl, _⟩ := h
    rfl
  · obtain ⟨v, ⟨b, n⟩, rfl, hs, q⟩ := h
    have hst := hs
    obtain ⟨a, dx, rfl, ha⟩ := hs
    refine ⟨_, pss_one (ps_ret (pe_ifExp (pt_cmpR op_eq (pe_pr (pv 0) T.cl G1 hr) pe_str (nomark _))
      (pe_tup (pa_cons (pe_tup (pa_cons pe_int (pa_cons (pe_pr (pv 0) T.cl G2 hr) pa_nil))) pa_nil))
      (pe_tup (pa_cons (pe_tup (pa_cons (pe_pr (pv 0) T.cl G2 hr) (pa_cons (pe_pr (pv 0) T.cl G2 hr) pa_nil))) pa_nil)))), ?_⟩
    cases b with
    | true =>
      refine ⟨_, rfl, a, dx, _, rfl, ha, _, _, rfl, hst, rfl, true, (by show V.bl (decide (V.str (kindS true) = V.str "town")) = V.bl true; decide +kernel), iteT ?_⟩
      refine ⟨_, rfl, a, dx, _, rfl, ha, _, _, rfl, hst, (by show 2 ≤ sizeLine; decide), fun t ht => ⟨(by show 1 ≤ sizeLine; decide), fun p hp => ?_⟩⟩
      exact q p _ ((ex_new ht).trans (ex_new hp)) ⟨_, tup_new, .cons ⟨t, rfl, ex_t (ex_new hp) tup_new⟩ .nil⟩
    | false =>
      refine ⟨_, rfl, a, dx, _, rfl, ha, _, _, rfl, hst, rfl, false, (by show V.bl (decide (V.str (kindS false) = V.str "town")) = V.bl false; decide +kernel), iteF ?_⟩
      refine ⟨_, rfl, a, dx, _, rfl, ha, _, _, rfl, hst, _, rfl, a, dx, _, rfl, ha, _, _, rfl, hst, (by show 2 ≤ sizeLine; decide), fun t ht => ⟨(by show 1 ≤ sizeLine; decide), fun p hp => ?_⟩⟩
      exact q p _ ((ex_new ht).trans (ex_new hp)) ⟨_, tup_new, .cons ⟨t, rfl, ex_t (ex_new hp) tup_new⟩ .nil⟩
end
end K8

set_option maxRecDepth 100000
set_option maxHeartbeats 4000000
/-! form_behind, form_of_steps -/
namespace K8
open PySem PySem.Spec PyProof.Rows L2
open Evl (Ex ex_l ex_t sz_of sz_lt)
section
variable {P : Program} {w : World} {K : PySem.W.Frag} {mg : Str → Option Value} {base : Heap} {C : Addr}
theorem filt_map {α β : Type} (f : α → β) (p : α → Bool) (l : List α) : (l.filter p).map f = (l.filter p).map f := rfl
theorem step_last (s : Stp) : ∃ q, formOfStepF s = [q] ∧ q.2 = s.2 := by
  obtain ⟨b, n⟩ := s
  cases b
  · exact ⟨(n, n), rfl, rfl⟩
  · exact ⟨(1, n), rfl, rfl⟩
theorem behind_len (one : Prs) (s : Stp) (m : Int) : (formBehindF one (formOfStepF s) m).length ≤ one.length + 1 := by
  unfold formBehindF
  refine Nat.le_trans (form_len _) ?_
  rw [List.length_append, List.length_map, floors_len]
  have h1 := List.length_filter_le (fun q : Int × Int => decide (leastF one < q.1)) (floorsF (formOfStepF s))
  have h2 : (formOfStepF s).length = 1 := by
    obtain ⟨q, e, _⟩ := step_last s
    rw [e]
    rfl
  rw [floors_len, h2] at h1
  omega
abbrev sFormBehind : Stmt := top 43
abbrev nFormBehind : List Str := ["one", "other", "most", "least", "ahead", "size", "rows"]
theorem scFormBehind : FnScope nFormBehind ["one", "other"] (defScope sFormBehind) := ⟨rfl, rfl, rfl, by decide +kernel, rfl, by decide +kernel, by decide +kernel⟩
def spFormBehind (K : PySem.W.Frag) : Sp := fun vs H Q _ => ∃ (a b : Addr) (f : Prs) (s : Stp), vs = [.ref a, .ref b] ∧ PsT K H a f ∧ PsT K H b (formOfStepF s) ∧ f.length ≤ 900 ∧ ∀ p H', Ex H H' → PsT K H' p (formBehindF f (formOfStepF s) s.2) → Q (.ref p) H'
theorem ok_formBehind {f : Addr} {fd : FuncData} (F : FnP K "form_behind" "form_behind" sFormBehind [] f fd) (T : Bt mg) (G1 : Cal P w K mg base "least_in" 1 (spLeastIn K)) (G2 : Cal P w K mg base "floors_in" 1 (spFloorsIn K)) (G3 : Cal P w K mg base "form_with" 1 (spFormWith K)) :
    FnOk P w K mg base CX0 2 f fd ["one", "other"] (spFormBehind K) := by
  refine ok_of F scFormBehind (fun vs H Q E h => ?_) (fun cdv A outer s H vs Q E hr h => ?_)
  · obtain ⟨a, b, g, s, rfl, _⟩ := h
    rfl
  · obtain ⟨a, b, g, s, rfl, hg, hb, hl, q⟩ := h
    have nd := scFormBehind.nd
    obtain ⟨qs, es, eq2⟩ := step_last s
    refine ⟨_, pss_cons (ps_asg (pe_tup (pa_cons (pe_ix ix_tup (pe_ix ix_tup (pv 1) (pe_un un_neg pe_int) (fun _ _ => rfl)) pe_int (fun _ _ => rfl)) (pa_cons (pe_cal G1 hr (pa_cons (pv 0) pa_nil)) pa_nil)))
        (pg_tup rfl (pgs_cons (pg_name (i := 2) nd rfl (.inr rfl)) (pgs_cons (pg_name (i := 3) nd rfl (.inr rfl)) pgs_nil))))
      (pss_cons (ps_setLc (i := 4) (own := [("size", 5), ("rows", 6)]) (g := gPr K 5 6) (tt := tYes) rfl nd rfl rfl (sw_true rfl rfl rfl (by decide +kernel))
        (pi_tup (pe_cal G2 hr (pa_cons (pv 0) pa_nil))) (blkOk_by (N := nFormBehind) (sc := defScope sFormBehind) (by decide +kernel))
        (fun _ _ _ _ _ => pg_tup rfl (pgs_cons (pg_name (i := 5) nd rfl (.inl rfl)) (pgs_cons (pg_name (i := 6) nd rfl (.inl rfl)) pgs_nil))) (fun _ _ _ _ _ => pts_nil)
        (fun _ _ _ _ _ => pe_tup (pa_cons (pv 5) (pa_cons (pe_callB (call_max2 rfl) (by rfl) T.max (by decide +kernel) (pa_cons (pv 6) (pa_cons (pv 2) pa_nil))) pa_nil))))
      (pss_one (ps_ret (pe_cal G3 hr (pa_cons (pe_op op_cat (pv 4)
        (pe_lc (own := [("size", 5), ("rows", 6)]) (g := gPr K 5 6) (tt := tTest (tOp (rI0 fun i j => .bl (decide (j < i))) (tVar 5) (tVar 3))) rfl nd (pi_tup (pe_cal G2 hr (pa_cons (pv 1) pa_nil)))
          (blkOk_by (N := nFormBehind) (sc := defScope sFormBehind) (by decide +kernel))
          (fun _ _ _ _ _ => pg_tup rfl (pgs_cons (pg_name (i := 5) nd rfl (.inl rfl)) (pgs_cons (pg_name (i := 6) nd rfl (.inl rfl)) pgs_nil)))
          (fun _ _ _ _ _ => pts_one (pt_cmpR op_gt (pv 5) (pv 3) (nomark _)))
          (fun _ _ _ _ _ => pe_tup (pa_cons (pv 5) (pa_cons (pv 6) pa_nil))))) pa_nil))))), ?_⟩
    obtain ⟨xs, hx, pr⟩ := hb
    have hb : PsT K H b (formOfStepF s) := ⟨xs, hx, pr⟩
    rw [es] at pr
    obtain ⟨y, rfl, T0, rfl, hT0⟩ : ∃ y, xs = [y] ∧ PrV K H y qs := by
      cases pr with
      | cons r t =>
        cases t
        exact ⟨_, rfl, r⟩
    -- most, least
    refine ⟨_, rfl, 1, rfl, b, _, -1, .ref T0, rfl, rfl, hx, rfl, T0, _, 1, .int qs.2, rfl, rfl, hT0, rfl, .ref a, rfl, a, g, rfl, hg, by omega, fun H1 e1 => ⟨(by show 2 ≤ sizeLine; decide), fun t ht => ?_⟩⟩
    refine ⟨t, _, rfl, tup_new, rfl, _, _, rfl, _, _, rfl, rfl, ?_⟩
    have e2 : Ex H (upd H1 t (.tup [.int qs.2, .int (leastF g)])) := e1.trans (ex_new ht)
    generalize upd H1 t (.tup [.int qs.2, .int (leastF g)]) = H2 at e2 ⊢
    clear e1 ht
    -- ahead
    refine ⟨.ref a, rfl, a, g, rfl, hg.ex e2, by omega, fun p3 H3 e3 hp3 => ⟨p3, rfl, lc_prT (floorsF g) (fun _ => true) (fun z v H => PrV K H v (z.1, mx z.2 s.2)) hp3 (by rw [floors_len]; omega) (fun _ _ _ _ e z => z.exn e) (fun _ _ => rfl) (fun z H4 hz e4 N1 N0 h1 h0 => ?_) fun D H4 ys hD e4 hd pk => ?_⟩⟩
    · refine ⟨_, rfl, _, rfl, _, rfl, _, _, rfl, (by show 2 ≤ sizeLine; decide), fun t ht => ?_⟩
      refine h1 rfl _ _ (ex_new ht) ⟨t, rfl, ?_⟩
      rw [← eq2]
      exact tup_new
    · rw [filter_all] at pk
      have E4 : Ex H H4 := (e2.trans e3).trans e4
      refine ⟨_, rfl, .ref b, rfl, b, _, rfl, hb.ex E4, by rw [es]; exact (by decide : 1 ≤ 1000), fun p5 H5 e5 hp5 => ⟨p5, rfl, lc_prT (floorsF (formOfStepF s)) (fun z => decide (leastF g < z.1)) (fun z v H => PrV K H v z) hp5 (by rw [floors_len, es]; exact (by decide : 1 ≤ 100000)) (fun _ _ _ _ e z => z.exn e) (fun _ _ => rfl) (fun z H6 hz e6 N1 N0 h1 h0 => ?_) fun D2 H6 zs hD2 e6 hd2 pk2 => ?_⟩⟩
      · refine ⟨_, rfl, _, rfl, _, _, rfl, rfl, _, rfl, ?_⟩
        cases hc : decide (leastF g < z.1) with
        | true => exact ⟨_, rfl, _, rfl, (by show 2 ≤ sizeLine; decide), fun t ht => h1 hc _ _ (ex_new ht) ⟨t, rfl, tup_new⟩⟩
        | false => exact h0 hc _ (Evl.Ex.refl _)
      · have hd6 := (e5.trans e6) _ _ hd
        have l1 := plen pk
        have l2 := plen pk2
        have l3 := List.length_filter_le (fun z : Int × Int => decide (leastF g < z.1)) (floorsF (formOfStepF s))
        rw [floors_len] at l1
        have l4 : (formOfStepF s).length = 1 := by rw [es]; rfl
        rw [floors_len, l4] at l3
        refine ⟨D, D2, ys, zs, rfl, rfl, hd6, hd2, sz_of (by omega), fun r hr => ?_⟩
        have e7 := (e5.trans e6).trans (ex_new (o := .lst (ys ++ zs)) hr)
        refine ⟨r, (floorsF g).map (fun z => (z.1, mx z.2 s.2)) ++ (floorsF (formOfStepF s)).filter (fun z => decide (leastF g < z.1)), rfl, ⟨_, lst_new, papp ?_ ?_⟩, ?_, fun p8 H8 e8 h8 => q p8 H8 ((E4.trans e7).trans e8) h8⟩
        · exact pmapL (f := fun z : Int × Int => (z.1, mx z.2 s.2)) (pmono pk fun _ _ z => z.ex e7)
        · exact pmono pk2 fun _ _ z => z.ex (ex_new hr)
        · rw [List.length_append, List.length_map, floors_len]
          omega

/-! ### form_of_steps -/
abbrev sFormOfSteps : Stmt := top 48
theorem scFormOfSteps : FnScope ["steps", "found", "step"] ["steps"] (defScope sFormOfSteps) := ⟨rfl, rfl, rfl, by decide +kernel, rfl, by decide +kernel, by decide +kernel⟩
/-- a tuple of Steps -/
def StT (K : PySem.W.Frag) (C : Addr) (H : Hp) (a : Addr) (ss : List Stp) : Prop := ∃ xs, SqT K H a xs ∧ Paired (fun s x => StV C H x s) ss xs
theorem StT.ex {H H' : Hp} {a : Addr} {ss : List Stp} (e : Ex H H') (h : StT K C H a ss) : StT K C H' a ss := let ⟨xs, a, b⟩ := h; ⟨xs, ex_t e a, pmono b fun _ _ z => z.ex e⟩
theorem forms_len : ∀ (ss : List Stp) (f : Prs), (ss.foldl (fun f s => formBehindF f (formOfStepF s) s.2) f).length ≤ f.length + ss.length
  | [], _ => Nat.le_refl _
  | s :: r, f => by
    have h1 := forms_len r (formBehindF f (formOfStepF s) s.2)
    have h2 := behind_len f s s.2
    rw [List.foldl_cons, List.length_cons]
    omega
def spFormOfSteps (K : PySem.W.Frag) (C : Addr) : Sp := fun vs H Q _ => ∃ (a : Addr) (ss : List Stp), vs = [.ref a] ∧ StT K C H a ss ∧ ss.length ≤ 800 ∧ ∀ p H', Ex H H' → PsT K H' p (formOfStepsF ss) → Q (.ref p) H'
theorem ok_formOfSteps {f aS : Addr} {fd : FuncData} (F : FnP K "form_of_steps" "form_of_steps" sFormOfSteps [] f fd) (mS : mg "START" = some (.ref aS)) (hS : ∀ H, PsT K H aS [(1, 1)]) (G1 : Cal P w K mg base "form_of_step" 3 (spFormOfStep K C)) (G2 : Cal P w K mg base "form_behind" 2 (spFormBehind K)) :
    FnOk P w K mg base CX0 4 f fd ["steps"] (spFormOfSteps K C) := by
  refine ok_of F scFormOfSteps (fun vs H Q E h => ?_) (fun cdv A outer s H vs Q E hr h => ?_)
  · obtain ⟨a, ss, rfl, _⟩ := h
    rfl
  · obtain ⟨a, ss, rfl, ⟨xs, hx, pr⟩, hl, q⟩ := h
    have nd := scFormOfSteps.nd
    refine ⟨_, pss_cons (ps_set (i := 1) nd rfl (.inl rfl) (pe_glob (v := .ref aS) (by rfl) mS rfl))
      (pss_cons (ps_for PassesOwn.never rfl (pi_tup (pv 0)) (pg_name (i := 2) nd rfl (.inl rfl))
        (pss_one (ps_set (i := 1) nd rfl (.inl rfl) (pe_cal G2 (hr.mono (by decide)) (pa_cons (pv 1) (pa_cons (pe_cal G1 hr (pa_cons (pv 2) pa_nil)) pa_nil))))))
      (pss_one (ps_ret (pv 1)))), ?_⟩
    refine ⟨.ref a, rfl, a, rfl, ⟨_, hx⟩, ?_⟩
    refine for_it (walk_tup (xs := xs)) (fun i σ H' => ∃ p2 y2, σ = [some (.ref a), some (.ref p2), y2] ∧ Ex H H' ∧ PsT K H' p2 (formOfStepsF (ss.take i)))
      ⟨aS, none, rfl, Evl.Ex.refl _, hS H⟩ (fun i σ H' _ z => ?_) ?_ ?_
    · obtain ⟨_, _, _, z, _⟩ := z
      exact ex_t z hx
    · rintro i x σ H' H'' hi ⟨p2, y2, rfl, e1, hp2⟩ ⟨rfl, hxi⟩
      obtain ⟨z, hz, hv⟩ := pget pr hxi
      refine ⟨_, rfl, _, rfl, _, z, rfl, hv.ex e1, fun p3 H3 e3 hp3 => ⟨p2, p3, formOfStepsF (ss.take i), z, rfl, hp2.ex e3, hp3, ?_, fun p4 H4 e4 hp4 => ⟨p4, _, rfl, (e1.trans e3).trans e4, ?_⟩⟩⟩
      · have := forms_len (ss.take i) [(1, 1)]
        have l1 : (ss.take i).length ≤ ss.length := by rw [List.length_take]; omega
        have l2 : ([((1 : Int), (1 : Int))] : Prs).length = 1 := rfl
        unfold formOfStepsF
        omega
      · rw [take_snoc hz]
        unfold formOfStepsF
        rw [List.foldl_append]
        exact hp4
    · rintro σ H' ⟨p2, y2, rfl, e1, hp2⟩
      have et : ss.take xs.length = ss := List.take_of_length_le (by rw [plen pr]; exact Nat.le_refl _)
      rw [et] at hp2
      exact ⟨_, rfl, q p2 H' e1 hp2⟩
end
end K8

set_option maxRecDepth 100000
/-! towns by their sizes: the plain part of summed -/
namespace K8
def Asc (l : Prs) : Prop := l.Pairwise fun a b => a.1 < b.1
def getP (t : Prs) (k : Int) : Int := ((t.find? fun z => decide (z.1 = k)).map (·.2)).getD 0
def putP (t : Prs) (k n : Int) : Prs := if (t.any fun z => decide (z.1 = k)) = true then t.map (fun z => if z.1 = k then (z.1, n) else z) else t ++ [(k, n)]
def addP (t : Prs) (q : Int × Int) : Prs := putP t q.1 (getP t q.1 + q.2)
def sumP (ps : Prs) : Prs := ps.foldl addP []
theorem put_keys (t : Prs) (k n : Int) : (putP t k n).map (·.1) = if (t.any fun z => decide (z.1 = k)) = true then t.map (·.1) else t.map (·.1) ++ [k] := by
  unfold putP
  split
  · rw [List.map_map]
    refine List.map_congr_left fun z _ => ?_
    show (if z.1 = k then (z.1, n) else z).1 = z.1
    split <;> rfl
  · rw [List.map_append]
    rfl
theorem put_nodup {t : Prs} (k n : Int) (h : (t.map (·.1)).Nodup) : ((putP t k n).map (·.1)).Nodup := by
  rw [put_keys]
  split
  · exact h
  · rename_i hn
    refine List.nodup_append.mpr ⟨h, List.nodup_cons.mpr ⟨by simp, List.nodup_nil⟩, fun a ha b hb e => hn ?_⟩
    rw [List.mem_singleton.mp hb] at e
    obtain ⟨z, hz, e2⟩ := List.mem_map.mp ha
    exact List.any_eq_true.mpr ⟨z, hz, decide_eq_true (e2.trans e)⟩
theorem put_mem {t : Prs} {k n : Int} {z : Int × Int} (h : z ∈ putP t k n) : z = (k, n) ∨ z ∈ t := by
  unfold putP at h
  split at h
  · obtain ⟨y, hy, e⟩ := List.mem_map.mp h
    by_cases hk : y.1 = k
    · rw [if_pos hk, hk] at e
      exact .inl e.symm
    · rw [if_neg hk] at e
      exact .inr (by rw [← e]; exact hy)
  · rcases List.mem_append.mp h with h | h
    · exact .inr h
    · exact .inl (List.mem_singleton.mp h)
theorem put_len (t : Prs) (k n : Int) : (putP t k n).length ≤ t.length + 1 := by
  unfold putP
  split
  · rw [List.length_map]
    omega
  · rw [List.length_append]
    exact Nat.le_refl _
theorem get_new {t : Prs} {k : Int} (h : ∀ z ∈ t, z.1 ≠ k) : getP t k = 0 := by
  have e : t.find? (fun z => decide (z.1 = k)) = none := List.find?_eq_none.mpr fun z hz q => h z hz (of_decide_eq_true q)
  unfold getP
  rw [e]
  rfl
theorem put_new {t : Prs} {k n : Int} (h : ∀ z ∈ t, z.1 ≠ k) : putP t k n = t ++ [(k, n)] := by
  unfold putP
  rw [if_neg]
  intro q
  obtain ⟨z, hz, e⟩ := List.any_eq_true.mp q
  exact h z hz (of_decide_eq_true e)
theorem get_pos {t : Prs} {k : Int} (h : ∀ z ∈ t, 1 ≤ z.2) : 0 ≤ getP t k := by
  unfold getP
  cases e : t.find? (fun z => decide (z.1 = k)) with
  | none => exact Int.le_refl _
  | some z =>
    have := h z (List.mem_of_find?_eq_some e)
    show 0 ≤ z.2
    omega
/-- the dict behind a part of the pairs -/
structure Tab (ps t : Prs) : Prop where
  nd : (t.map (·.1)).Nodup
  src : ∀ z ∈ t, ∃ p ∈ ps, p.1 = z.1
  pos : Pos ps → Pos t
  asc : Asc ps → t = ps
  len : t.length ≤ ps.length
theorem tab_nil : Tab [] [] := ⟨List.nodup_nil, (fun _ h => nomatch h), (fun _ _ h => nomatch h), fun _ => rfl, Nat.le_refl _⟩
theorem tab_add {ps t : Prs} (h : Tab ps t) (q : Int × Int) : Tab (ps ++ [q]) (addP t q) := by
  refine ⟨put_nodup _ _ h.nd, fun z hz => ?_, fun hp => ?_, fun ha => ?_, ?_⟩
  · rcases put_mem hz with e | e
    · exact ⟨q, List.mem_append_right _ List.mem_cons_self, by rw [e]⟩
    · obtain ⟨p, h1, h2⟩ := h.src z e
      exact ⟨p, List.mem_append_left _ h1, h2⟩
  · have hps : Pos ps := fun z hz => hp z (List.mem_append_left _ hz)
    have hq := hp q (List.mem_append_right _ List.mem_cons_self)
    have ht := h.pos hps
    have hg := get_pos (t := t) (k := q.1) fun z hz => (ht z hz).2
    intro z hz
    rcases put_mem hz with e | e
    · rw [e]
      exact ⟨hq.1, by show 1 ≤ getP t q.1 + q.2; omega⟩
    · exact ht z e
  · obtain ⟨h1, _, h3⟩ := List.pairwise_append.mp ha
    have e := h.asc h1
    have hne : ∀ z ∈ t, z.1 ≠ q.1 := fun z hz => by
      rw [e] at hz
      have := h3 z hz q List.mem_cons_self
      omega
    unfold addP
    rw [get_new hne, put_new hne, e]
    have e2 : (0 : Int) + q.2 = q.2 := by omega
    rw [e2]
  · have := put_len t q.1 (getP t q.1 + q.2)
    have := h.len
    rw [List.length_append, List.length_singleton]
    unfold addP
    omega
theorem asc_uniq : ∀ {l m : Prs}, Asc l → Asc m → (∀ q, q ∈ l ↔ q ∈ m) → l = m
  | [], [], _, _, _ => rfl
  | [], b :: m, _, _, h => nomatch (h b).mpr List.mem_cons_self
  | a :: l, [], _, _, h => nomatch (h a).mp List.mem_cons_self
  | a :: l, b :: m, h1, h2, h => by
    obtain ⟨a1, a2⟩ := List.pairwise_cons.mp h1
    obtain ⟨b1, b2⟩ := List.pairwise_cons.mp h2
    have e : a = b := by
      rcases List.mem_cons.mp ((h a).mp List.mem_cons_self) with e | ha
      · exact e
      · rcases List.mem_cons.mp ((h b).mpr List.mem_cons_self) with e | hb
        · exact e.symm
        · have := b1 a ha
          have := a1 b hb
          omega
    subst e
    refine congrArg (a :: ·) (asc_uniq a2 b2 fun q => ⟨fun hq => ?_, fun hq => ?_⟩)
    · rcases List.mem_cons.mp ((h q).mp (List.mem_cons_of_mem _ hq)) with e | hb
      · have := a1 q hq
        rw [e] at this
        omega
      · exact hb
    · rcases List.mem_cons.mp ((h q).mpr (List.mem_cons_of_mem _ hq)) with e | hb
      · have := b1 q hq
        rw [e] at this
        omega
      · exact hb
/-- what summed gives -/
structure SumOk (ps qs : Prs) : Prop where
  up : Asc qs
  same : Asc ps → qs = ps
  src : ∀ q ∈ qs, ∃ p ∈ ps, p.1 = q.1
  pos : Pos ps → Pos qs
  len : qs.length ≤ ps.length
theorem sum_ok {ps t qs : Prs} (h : Tab ps t) (hp : qs.Perm t) (hs : qs.Pairwise fun a b => ¬ (b.1 < a.1 ∨ (b.1 = a.1 ∧ b.2 < a.2))) : SumOk ps qs := by
  have nd : (qs.map (·.1)).Nodup := (hp.map (·.1)).nodup_iff.mpr h.nd
  have up : Asc qs := by
    have nd2 : qs.Pairwise fun a b => a.1 ≠ b.1 := List.pairwise_map.mp nd
    exact (hs.and nd2).imp fun ⟨h1, h2⟩ => by omega
  refine ⟨up, fun ha => ?_, fun q hq => h.src q (hp.mem_iff.mp hq), fun hps q hq => h.pos hps q (hp.mem_iff.mp hq), by rw [hp.length_eq]; exact h.len⟩
  have e := h.asc ha
  subst e
  exact asc_uniq up ha fun q => hp.mem_iff
theorem asc_filter {l : Prs} (h : Asc l) (p : Int × Int → Bool) : Asc (l.filter p) := List.Pairwise.filter _ h
end K8

set_option maxRecDepth 100000
set_option maxHeartbeats 4000000
/-! summed -/
namespace K8
open PySem PySem.Spec PyProof.Rows L2
open Evl (Ex ex_l ex_t sz_of sz_lt)
theorem val_find : ∀ (t : Prs) (k : Int), valV (ditK t) (Sum.inl k : L2.Key) = (t.find? fun z => decide (z.1 = k)).map fun z => V.int z.2
  | [], _ => rfl
  | q :: r, k => by
    by_cases e : q.1 = k
    · rw [List.find?_cons_of_pos (p := fun z : Int × Int => decide (z.1 = k)) (decide_eq_true e)]
      exact valV_pos (p := ((Sum.inl q.1 : L2.Key), V.int q.2)) (by rw [e])
    · rw [List.find?_cons_of_neg (p := fun z : Int × Int => decide (z.1 = k)) (by rw [decide_eq_false e]; decide), ← val_find r k]
      unfold valV
      show (List.find? _ (((Sum.inl q.1 : L2.Key), V.int q.2) :: ditK r)).map _ = _
      rw [List.find?_cons_of_neg]
      intro z
      exact e (Sum.inl.inj (of_decide_eq_true z))
theorem val_dit (t : Prs) (k : Int) : (valV (ditK t) (Sum.inl k : L2.Key)).getD (V.int 0) = V.int (getP t k) := by
  rw [val_find]
  unfold getP
  cases t.find? fun z => decide (z.1 = k) <;> rfl
theorem any_dit (t : Prs) (k : Int) : ((ditK t).any fun kv => decide (kv.1 = (Sum.inl k : L2.Key))) = t.any fun z => decide (z.1 = k) := by
  unfold ditK
  rw [List.any_map]
  congr 1
  funext z
  show decide ((Sum.inl z.1 : L2.Key) = Sum.inl k) = decide (z.1 = k)
  rw [key_ll, Bool.beq_eq_decide_eq]
theorem put_dit (t : Prs) (k n : Int) : putK (ditK t) (Sum.inl k : L2.Key) (V.int n) = ditK (putP t k n) := by
  unfold putK putP
  rw [any_dit]
  split
  · unfold ditK
    rw [List.map_map, List.map_map]
    refine List.map_congr_left fun z _ => ?_
    show (if (Sum.inl z.1 : L2.Key) = Sum.inl k then ((Sum.inl z.1 : L2.Key), V.int n) else (Sum.inl z.1, V.int z.2)) = (Sum.inl (if z.1 = k then (z.1, n) else z).1, V.int (if z.1 = k then (z.1, n) else z).2)
    by_cases e : z.1 = k
    · rw [if_pos (by rw [e]), if_pos e]
    · rw [if_neg (fun h => e (Sum.inl.inj h)), if_neg e]
  · unfold ditK
    rw [List.map_append]
    rfl
theorem pboth {α β γ : Type} {f : γ → α} {g : γ → β} {F : α → β → Prop} : ∀ {l : List γ}, (∀ z ∈ l, F (f z) (g z)) → Paired F (l.map f) (l.map g)
  | [], _ => .nil
  | z :: l, h => .cons (h z List.mem_cons_self) (pboth fun y hy => h y (List.mem_cons_of_mem _ hy))
section
variable {P : Program} {w : World} {K : PySem.W.Frag} {mg : Str → Option Value} {base : Heap}
def spSummed (K : PySem.W.Frag) : Sp := fun vs H Q _ => ∃ (a : Addr) (ps : Prs), vs = [.ref a] ∧ PsX K H a ps ∧ ps.length ≤ 1000 ∧ ∀ r qs H', Ex H H' → PsT K H' r qs → SumOk ps qs → Q (.ref r) H'

abbrev sSummed : Stmt := top 15
theorem scSummed : FnScope ["pairs", "table", "size", "many"] ["pairs"] (defScope sSummed) := ⟨rfl, rfl, rfl, by decide +kernel, rfl, by decide +kernel, by decide +kernel⟩
theorem ok_Summed {f : Addr} {fd : FuncData} (F : FnP K "summed" "summed" sSummed [] f fd) (T : Bt mg) : FnOk P w K mg base CX0 1 f fd ["pairs"] (spSummed K) := by
  refine ok_of F scSummed (fun vs H Q E h => ?_) (fun cdv A outer s H vs Q E hr h => ?_)
  · obtain ⟨a, g, rfl, _⟩ := h
    rfl
  · obtain ⟨a, g, rfl, hX, hl, q⟩ := h
    have nd := scSummed.nd
    have hu := hu_of hr
    refine ⟨_, pss_cons (ps_set (i := 1) nd rfl (.inl rfl) pe_dnewK)
      (pss_cons (ps_for PassesOwn.never rfl (pi_or (pi_list (pv 0)) (pi_tup (pv 0))) (pg_tup rfl (pgs_cons (pg_name (i := 2) nd rfl (.inl rfl)) (pgs_cons (pg_name (i := 3) nd rfl (.inl rfl)) pgs_nil)))
        (pss_one (ps_dput hu (pv 1) (pv 2) (pe_op op_add (pe_dget2 hu (pv 1) (pv 2) pe_int ⟨rfl, rfl, rfl, rfl⟩) (pv 3)) rfl)))
      (pss_one (ps_ret (pe_callTy call_tuple_of (by rfl) T.tuple (by decide +kernel) (pa_cons (pe_callB (cr_sortedK rfl) (by rfl) T.sorted (by decide +kernel)
        (pa_cons (pe_bm0 PySem.F.plainAttrs_dict PySem.F.slot_dict_items PySem.F.type_dict_items mt_itemsK (pv 1)) pa_nil)) pa_nil))))), ?_⟩
    intro d hd
    have e0 : Ex H (upd H d (.dK [])) := ex_new hd
    refine for_prX g hX (fun Q hQ => ⟨_, rfl, hQ⟩) (fun i σ H' => ∃ y2 y3, σ = [some (.ref a), some (.ref d), y2, y3] ∧ Ex H H' ∧ ∃ t, H' d = some (.dK (ditK t)) ∧ Tab (g.take i) t)
      ⟨none, none, rfl, e0, [], upd_same, by rw [List.take_zero]; exact tab_nil⟩ (fun n σ' H' ⟨_, _, _, z, _⟩ => z) ?_ ?_
    · rintro i z σ H' hz ⟨y2, y3, rfl, e1, t, ht, tb⟩
      have l1 := tb.len
      rw [List.length_take] at l1
      refine ⟨_, rfl, d, rfl, .inl ⟨_, .inl ht⟩, _, rfl, _, DGet.k (k := Sum.inl z.1) ht, _, rfl, getP t z.1, z.2, val_dit t z.1, rfl, _, rfl, _, rfl, d, _, rfl, DPut.k (k := Sum.inl z.1) ht ?_, ?_⟩
      · unfold ditK
        rw [List.length_map]
        exact sz_lt (by omega)
      · refine ⟨_, _, rfl, ex_mut e1 hd, addP t z, ?_, ?_⟩
        · rw [upd_same, put_dit]
          rfl
        · rw [take_snoc hz]
          exact tab_add tb z
    · rintro σ H' ⟨y2, y3, rfl, e1, t, ht, tb⟩
      rw [List.take_length] at tb
      refine ⟨_, rfl, .inr (.inr (.inl ⟨rfl, .inl ⟨_, ht⟩⟩)), d, _, rfl, rfl, ht, fun p hp => ⟨p, d, t, rfl, upd_same, (by rw [upd_ne (ne_of_none ht hp)]; exact ht), fun H2 l zs k1 k2 k3 k4 k5 => ⟨l, _, rfl, .inl ⟨.inl (.inl k4), fun r hr2 => ?_⟩⟩⟩⟩
      have e2 : Ex H H2 := (e1.trans (ex_new hp)).trans k1
      exact q r (zs.map (·.2)) _ (e2.trans (ex_new hr2)) ⟨_, tup_new, pboth fun z hz => ⟨z.1, rfl, .inl (.inl (ex_new hr2 _ _ (k5 z hz)))⟩⟩ (sum_ok tb k2 (k3.imp fun {a b} h => SrtO.lexB_no.mp h))


abbrev sLawSum : Stmt := top 56
theorem scLawSum : FnScope ["_law_pairs_so", "_law_tally_so", "_law_size_so", "_law_much"] ["_law_pairs_so"] (defScope sLawSum) := ⟨rfl, rfl, rfl, by decide +kernel, rfl, by decide +kernel, by decide +kernel⟩
theorem ok_LawSum {f : Addr} {fd : FuncData} (F : FnP K "_law_sum" "_law_sum" sLawSum [] f fd) (T : Bt mg) : FnOk P w K mg base CX0 1 f fd ["_law_pairs_so"] (spSummed K) := by
  refine ok_of F scLawSum (fun vs H Q E h => ?_) (fun cdv A outer s H vs Q E hr h => ?_)
  · obtain ⟨a, g, rfl, _⟩ := h
    rfl
  · obtain ⟨a, g, rfl, hX, hl, q⟩ := h
    have nd := scLawSum.nd
    have hu := hu_of hr
    refine ⟨_, pss_cons (ps_set (i := 1) nd rfl (.inl rfl) pe_dnewK)
      (pss_cons (ps_for PassesOwn.never rfl (pi_or (pi_list (pv 0)) (pi_tup (pv 0))) (pg_tup rfl (pgs_cons (pg_name (i := 2) nd rfl (.inl rfl)) (pgs_cons (pg_name (i := 3) nd rfl (.inl rfl)) pgs_nil)))
        (pss_one (ps_dput hu (pv 1) (pv 2) (pe_op op_add (pe_dget2 hu (pv 1) (pv 2) pe_int ⟨rfl, rfl, rfl, rfl⟩) (pv 3)) rfl)))
      (pss_one (ps_ret (pe_callTy call_tuple_of (by rfl) T.tuple (by decide +kernel) (pa_cons (pe_callB (cr_sortedK rfl) (by rfl) T.sorted (by decide +kernel)
        (pa_cons (pe_bm0 PySem.F.plainAttrs_dict PySem.F.slot_dict_items PySem.F.type_dict_items mt_itemsK (pv 1)) pa_nil)) pa_nil))))), ?_⟩
    intro d hd
    have e0 : Ex H (upd H d (.dK [])) := ex_new hd
    refine for_prX g hX (fun Q hQ => ⟨_, rfl, hQ⟩) (fun i σ H' => ∃ y2 y3, σ = [some (.ref a), some (.ref d), y2, y3] ∧ Ex H H' ∧ ∃ t, H' d = some (.dK (ditK t)) ∧ Tab (g.take i) t)
      ⟨none, none, rfl, e0, [], upd_same, by rw [List.take_zero]; exact tab_nil⟩ (fun n σ' H' ⟨_, _, _, z, _⟩ => z) ?_ ?_
    · rintro i z σ H' hz ⟨y2, y3, rfl, e1, t, ht, tb⟩
      have l1 := tb.len
      rw [List.length_take] at l1
      refine ⟨_, rfl, d, rfl, .inl ⟨_, .inl ht⟩, _, rfl, _, DGet.k (k := Sum.inl z.1) ht, _, rfl, getP t z.1, z.2, val_dit t z.1, rfl, _, rfl, _, rfl, d, _, rfl, DPut.k (k := Sum.inl z.1) ht ?_, ?_⟩
      · unfold ditK
        rw [List.length_map]
        exact sz_lt (by omega)
      · refine ⟨_, _, rfl, ex_mut e1 hd, addP t z, ?_, ?_⟩
        · rw [upd_same, put_dit]
          rfl
        · rw [take_snoc hz]
          exact tab_add tb z
    · rintro σ H' ⟨y2, y3, rfl, e1, t, ht, tb⟩
      rw [List.take_length] at tb
      refine ⟨_, rfl, .inr (.inr (.inl ⟨rfl, .inl ⟨_, ht⟩⟩)), d, _, rfl, rfl, ht, fun p hp => ⟨p, d, t, rfl, upd_same, (by rw [upd_ne (ne_of_none ht hp)]; exact ht), fun H2 l zs k1 k2 k3 k4 k5 => ⟨l, _, rfl, .inl ⟨.inl (.inl k4), fun r hr2 => ?_⟩⟩⟩⟩
      have e2 : Ex H H2 := (e1.trans (ex_new hp)).trans k1
      exact q r (zs.map (·.2)) _ (e2.trans (ex_new hr2)) ⟨_, tup_new, pboth fun z hz => ⟨z.1, rfl, .inl (.inl (ex_new hr2 _ _ (k5 z hz)))⟩⟩ (sum_ok tb k2 (k3.imp fun {a b} h => SrtO.lexB_no.mp h))

end
end K8

set_option maxRecDepth 100000
set_option maxHeartbeats 4000000
/-! County without its texts -/
namespace K8
open PySem PySem.Spec PyProof.Rows L2
open Evl (Ex ex_l ex_t sz_of sz_lt)
structure ClsC (K : PySem.W.Frag) (C : Addr) : Prop where
  cl : Cls K C
  nR : NoAttr K C "own_runs"
/-- a County of these towns -/
def CoV (K : PySem.W.Frag) (C : Addr) (H : Hp) (v : V) (rs : Prs) : Prop := ∃ a dx r, v = V.ref a ∧ H a = some (.ins C dx [("own_runs", .ref r)]) ∧ PsT K H r rs
theorem CoV.exn {K : PySem.W.Frag} {C : Addr} {H H' : Hp} {v : V} {rs : Prs} (e : ExN H H') (h : CoV K C H v rs) : CoV K C H' v rs :=
  let ⟨a, dx, r, e1, e2, e3⟩ := h
  ⟨a, dx, r, e1, e _ _ e2 (fun _ z => nomatch z), e3.exn e⟩
theorem CoV.ex {K : PySem.W.Frag} {C : Addr} {H H' : Hp} {v : V} {rs : Prs} (e : Ex H H') (h : CoV K C H v rs) : CoV K C H' v rs := h.exn (ExN.of e)
/-- sizes below 2 ^ 64 -/
def Bd (rs : Prs) : Prop := ∀ q ∈ rs, q.1 < 2 ^ 64
theorem cmul_of {q : Int × Int} (h1 : 1 ≤ q.1) (h2 : q.1 < 2 ^ 64) : CMul q.1 q.2 := .inl ⟨by omega, h2⟩
section
variable {P : Program} {w : World} {K : PySem.W.Frag} {mg : Str → Option Value} {base : Heap} {C : Addr}
abbrev sCoInit : Stmt := inClass (top 20) 0
theorem scCoInit : FnScope ["self", "runs", "size", "many"] ["self", "runs"] (defScope sCoInit) := ⟨rfl, rfl, rfl, by decide +kernel, rfl, by decide +kernel, by decide +kernel⟩
def spCoInit (K : PySem.W.Frag) (C : Addr) : Sp := fun vs H Q _ => ∃ (p dx a : Addr) (ps : Prs), vs = [.ref p, .ref a] ∧ H p = some (.ins C dx []) ∧ PsX K H a ps ∧ Pos ps ∧ ps.length ≤ 1000 ∧
  ∀ r qs H', ExB p H H' → H' p = some (.ins C dx [("own_runs", .ref r)]) → PsT K H' r qs → SumOk ps qs → Q .non H'
theorem ok_coInit {f : Addr} {fd : FuncData} {dvs : List V} (F : FnP K "__init__" "County.__init__" sCoInit dvs f fd) (T : ClsC K C) (G : Cal P w K mg base "summed" 1 (spSummed K)) : FnOk P w K mg base CX0 2 f fd ["self", "runs"] (spCoInit K C) := by
  refine ok_of F scCoInit (fun vs H Q E h => ?_) (fun cdv A outer s H vs Q E hr h => ?_)
  · obtain ⟨p, dx, a, ps, rfl, _⟩ := h
    rfl
  · obtain ⟨p, dx, a, ps, rfl, hp, hX, hpos, hl, q⟩ := h
    have nd := scCoInit.nd
    refine ⟨_, pss_cons (ps_for PassesOwn.never rfl (pi_or (pi_list (pv 1)) (pi_tup (pv 1))) (pg_tup rfl (pgs_cons (pg_name (i := 2) nd rfl (.inl rfl)) (pgs_cons (pg_name (i := 3) nd rfl (.inl rfl)) pgs_nil)))
        (pss_one (ps_if (PW.pt (pw_or (pt_cmpR op_lt (pv 2) pe_int (nomark _)) (pw_or1 (pt_cmpR op_lt (pv 3) pe_int (nomark _))))) (pss_one ps_never) pss_nil)))
      (pss_one (ps_fld (pv 0) (pe_cal G hr (pa_cons (pv 1) pa_nil)) rfl)), ?_⟩
    refine for_prX ps hX (fun Q hQ => ⟨_, rfl, hQ⟩) (fun i σ H' => ∃ y2 y3, σ = [some (.ref p), some (.ref a), y2, y3] ∧ Ex H H') ⟨none, none, rfl, Evl.Ex.refl _⟩ (fun n σ' H' ⟨_, _, _, z⟩ => z) ?_ ?_
    · rintro i z σ H' hz ⟨y2, y3, rfl, e1⟩
      have hz' := hpos z (List.mem_of_getElem? hz)
      refine ⟨_, rfl, _, _, rfl, rfl, _, rfl, ?_⟩
      rw [decide_eq_false (by omega : ¬ z.1 < 1)]
      refine iteF ⟨_, rfl, _, _, rfl, rfl, _, rfl, ?_⟩
      rw [decide_eq_false (by omega : ¬ z.2 < 1)]
      exact iteF ⟨_, _, rfl, e1⟩
    · rintro σ H' ⟨y2, y3, rfl, e1⟩
      refine ⟨_, rfl, a, ps, rfl, hX.ex e1, hl, fun r qs H2 e2 h2 hs => ?_⟩
      have hp2 := (e1.trans e2) _ _ hp
      refine ⟨_, rfl, p, C, dx, [], rfl, hp2, T.cl, T.nR, (by show 0 < 1000; decide), ?_⟩
      refine q r qs _ (fun b o h hb => ?_) upd_same (h2.ext (ExT.mut hp2 rfl)) hs
      rw [upd_ne hb]
      exact (e1.trans e2) _ _ h

/-! ### runs, rows, rows_from -/
abbrev sCoRuns : Stmt := inClass (top 20) 2
theorem scCoRuns : FnScope ["self"] ["self"] (defScope sCoRuns) := ⟨rfl, rfl, rfl, by decide +kernel, rfl, by decide +kernel, by decide +kernel⟩
def spCoRuns (K : PySem.W.Frag) (C : Addr) : Sp := fun vs H Q _ => ∃ (v : V) (rs : Prs), vs = [v] ∧ CoV K C H v rs ∧ ∀ r, PsT K H r rs → Q (.ref r) H
theorem ok_coRuns {f : Addr} {fd : FuncData} (F : FnP K "runs" "County.runs" sCoRuns [] f fd) (T : ClsC K C) : FnOk P w K mg base CX0 1 f fd ["self"] (spCoRuns K C) := by
  refine ok_of F scCoRuns (fun vs H Q E h => ?_) (fun cdv A outer s H vs Q E hr h => ?_)
  · obtain ⟨v, rs, rfl, _⟩ := h
    rfl
  · obtain ⟨v, rs, rfl, ⟨a, dx, r, rfl, ha, hrs⟩, q⟩ := h
    exact ⟨_, pss_one (ps_ret (pe_fld (pv 0) rfl)), _, rfl, a, C, dx, _, _, rfl, ha, T.cl, T.nR, rfl, q r hrs⟩
abbrev sCoRows : Stmt := inClass (top 20) 4
abbrev nCoRows : List Str := ["self", "size", "many"]
theorem scCoRows : FnScope nCoRows ["self"] (defScope sCoRows) := ⟨rfl, rfl, rfl, by decide +kernel, rfl, by decide +kernel, by decide +kernel⟩
def spCoRows (K : PySem.W.Frag) (C : Addr) : Sp := fun vs H Q _ => ∃ (v : V) (rs : Prs), vs = [v] ∧ CoV K C H v rs ∧ Pos rs ∧ Bd rs ∧ rs.length ≤ 1000 ∧ ∀ H', Ex H H' → Q (.int (rowsF rs)) H'
theorem ok_coRows {f : Addr} {fd : FuncData} (F : FnP K "rows" "County.rows" sCoRows [] f fd) (T : ClsC K C) (B : Bt mg) : FnOk P w K mg base CX0 1 f fd ["self"] (spCoRows K C) := by
  refine ok_of F scCoRows (fun vs H Q E h => ?_) (fun cdv A outer s H vs Q E hr h => ?_)
  · obtain ⟨v, rs, rfl, _⟩ := h
    rfl
  · obtain ⟨v, rs, rfl, ⟨a, dx, r, rfl, ha, hrs⟩, hp, hb, hl, q⟩ := h
    have nd := scCoRows.nd
    refine ⟨_, pss_one (ps_ret (pe_callB (cr_sum rfl) (by rfl) B.sum (by decide +kernel) (pa_cons
      (pe_lc (own := [("size", 1), ("many", 2)]) (g := gPr K 1 2) (tt := tYes) rfl nd (pi_tup (pe_fld (pv 0) rfl)) (blkOk_by (N := nCoRows) (sc := defScope sCoRows) (by decide +kernel))
        (fun _ _ _ _ _ => pg_tup rfl (pgs_cons (pg_name (i := 1) nd rfl (Or.inl rfl)) (pgs_cons (pg_name (i := 2) nd rfl (Or.inl rfl)) pgs_nil))) (fun _ _ _ _ _ => pts_nil)
        (fun _ _ _ _ _ => pe_op op_mul (pv 1) (pv 2))) pa_nil))), ?_⟩
    refine ⟨_, rfl, a, C, dx, _, _, rfl, ha, T.cl, T.nR, rfl, r, rfl, lc_prTI rs (fun _ => true) (fun q => q.1 * q.2) hrs (by omega) (fun _ _ => rfl) (fun p H1 hpm e1 N1 N0 h1 h0 => ?_) fun D H2 hD e2 hd => ?_⟩
    · exact ⟨_, rfl, _, rfl, _, _, rfl, rfl, cmul_of (hp p hpm).1 (hb p hpm), h1 rfl _ (Evl.Ex.refl _)⟩
    · rw [filter_all] at hd
      exact ⟨D, _, rfl, .inl (.inl hd), q _ e2⟩
abbrev sCoFrom : Stmt := inClass (top 20) 10
abbrev nCoFrom : List Str := ["self", "least", "size", "many"]
theorem scCoFrom : FnScope nCoFrom ["self", "least"] (defScope sCoFrom) := ⟨rfl, rfl, rfl, by decide +kernel, rfl, by decide +kernel, by decide +kernel⟩
def spCoFrom (K : PySem.W.Frag) (C : Addr) : Sp := fun vs H Q _ => ∃ (v : V) (rs : Prs) (k : Int), vs = [v, .int k] ∧ CoV K C H v rs ∧ Pos rs ∧ Bd rs ∧ rs.length ≤ 1000 ∧ ∀ H', Ex H H' → Q (.int (fromF rs k)) H'
theorem ok_coFrom {f : Addr} {fd : FuncData} (F : FnP K "rows_from" "County.rows_from" sCoFrom [] f fd) (T : ClsC K C) (B : Bt mg) : FnOk P w K mg base CX0 1 f fd ["self", "least"] (spCoFrom K C) := by
  refine ok_of F scCoFrom (fun vs H Q E h => ?_) (fun cdv A outer s H vs Q E hr h => ?_)
  · obtain ⟨v, rs, k, rfl, _⟩ := h
    rfl
  · obtain ⟨v, rs, k, rfl, ⟨a, dx, r, rfl, ha, hrs⟩, hp, hb, hl, q⟩ := h
    have nd := scCoFrom.nd
    refine ⟨_, pss_one (ps_ret (pe_callB (cr_sum rfl) (by rfl) B.sum (by decide +kernel) (pa_cons
      (pe_lc (own := [("size", 2), ("many", 3)]) (g := gPr K 2 3) (tt := tTest (tOp (rI0 fun i j => .bl (decide (j ≤ i))) (tVar 2) (tVar 1))) rfl nd (pi_tup (pe_fld (pv 0) rfl)) (blkOk_by (N := nCoFrom) (sc := defScope sCoFrom) (by decide +kernel))
        (fun _ _ _ _ _ => pg_tup rfl (pgs_cons (pg_name (i := 2) nd rfl (Or.inl rfl)) (pgs_cons (pg_name (i := 3) nd rfl (Or.inl rfl)) pgs_nil))) (fun _ _ _ _ _ => pts_one (pt_cmpR op_ge (pv 2) (pv 1) (nomark _)))
        (fun _ _ _ _ _ => pe_op op_mul (pv 2) (pv 3))) pa_nil))), ?_⟩
    refine ⟨_, rfl, a, C, dx, _, _, rfl, ha, T.cl, T.nR, rfl, r, rfl, lc_prTI rs (fun z => decide (k ≤ z.1)) (fun q => q.1 * q.2) hrs (by omega) (fun _ _ => rfl) (fun p H1 hpm e1 N1 N0 h1 h0 => ?_) fun D H2 hD e2 hd => ?_⟩
    · refine ⟨_, rfl, _, rfl, _, _, rfl, rfl, _, rfl, ?_⟩
      cases hc : decide (k ≤ p.1) with
      | true => exact ⟨_, rfl, _, rfl, _, _, rfl, rfl, cmul_of (hp p hpm).1 (hb p hpm), h1 hc _ (Evl.Ex.refl _)⟩
      | false => exact h0 hc _ (Evl.Ex.refl _)
    · exact ⟨D, _, rfl, .inl (.inl hd), q _ e2⟩

/-! ### only -/
abbrev sCoOnly : Stmt := inClass (top 20) 12
abbrev nCoOnly : List Str := ["self", "least", "run"]
theorem scCoOnly : FnScope nCoOnly ["self", "least"] (defScope sCoOnly) := ⟨rfl, rfl, rfl, by decide +kernel, rfl, by decide +kernel, by decide +kernel⟩
def spCoOnly (K : PySem.W.Frag) (C : Addr) : Sp := fun vs H Q _ => ∃ (v : V) (rs : Prs) (k : Int), vs = [v, .int k] ∧ CoV K C H v rs ∧ Pos rs ∧ Asc rs ∧ rs.length ≤ 1000 ∧ ∀ v' H', Ex H H' → CoV K C H' v' (onlyF rs k) → Q v' H'
theorem ok_coOnly {f : Addr} {fd : FuncData} (F : FnP K "only" "County.only" sCoOnly [] f fd) (T : ClsC K C) (G : MkC P w K mg base "County" C 2 (spCoInit K C)) : FnOk P w K mg base CX0 4 f fd ["self", "least"] (spCoOnly K C) := by
  refine ok_of F scCoOnly (fun vs H Q E h => ?_) (fun cdv A outer s H vs Q E hr h => ?_)
  · obtain ⟨v, rs, k, rfl, _⟩ := h
    rfl
  · obtain ⟨v, rs, k, rfl, ⟨a, dx, r, rfl, ha, xs, hx, pr⟩, hp, hasc, hl, q⟩ := h
    have nd := scCoOnly.nd
    refine ⟨_, pss_one (ps_ret (pe_mk G hr (pa_cons
      (pe_lc (own := [("run", 2)]) (g := gName 2) (tt := tTest (tOp (rI0 fun i j => .bl (decide (j ≤ i))) (tOp (rIxT K) (tVar 2) (tC (.int 0))) (tVar 1))) rfl nd (pi_tup (pe_fld (pv 0) rfl)) (blkOk_by (N := nCoOnly) (sc := defScope sCoOnly) (by decide +kernel))
        (fun _ _ _ _ _ => pg_name (i := 2) nd rfl (Or.inl rfl)) (fun _ _ _ _ _ => pts_one (pt_cmpR op_ge (pe_ix ix_tup (pv 2) pe_int (fun _ _ => rfl)) (pv 1) (nomark _)))
        (fun _ _ _ _ _ => pv 2)) pa_nil))), ?_⟩
    refine ⟨_, rfl, a, C, dx, _, _, rfl, ha, T.cl, T.nR, rfl, r, rfl, ⟨_, hx⟩, lc_map rs (fun z => decide (k ≤ z.1)) (fun z v H => PrV K H v z) (by rw [plen pr]; exact walk_tup) (by omega) (fun H' e => ex_t e hx) (fun _ _ _ _ e z => z.exn e) ?_ ?_⟩
    · rintro i z x H1 H2 hz e1 ⟨rfl, hxi⟩ N1 N0 h1 h0
      obtain ⟨z', hz', T1, rfl, hT⟩ := pget pr hxi
      rw [hz] at hz'
      cases hz'
      refine ⟨rfl, .ref T1, rfl, T1, _, 0, .int z.1, rfl, rfl, ex_t e1 hT, rfl, _, rfl, _, _, rfl, rfl, _, rfl, ?_⟩
      cases hc : decide (k ≤ z.1) with
      | true => exact ⟨_, rfl, h1 hc _ _ (Evl.Ex.refl _) ⟨T1, rfl, ex_t e1 hT⟩⟩
      | false => exact h0 hc _ (Evl.Ex.refl _)
    · intro D H2 ys hD e2 hd pk
      intro x dx2 hx2 hdx2 hne
      have e3 : Ex H2 (upd (upd H2 dx2 (.own x)) x (.ins C dx2 [])) := fun b o h => by
        rw [upd_ne (ne_of_none h hx2), upd_ne (ne_of_none h hdx2)]
        exact h
      have hk : (onlyF rs k).length ≤ rs.length := List.length_filter_le _ _
      refine ⟨x, dx2, D, onlyF rs k, rfl, upd_same, .inl ⟨ys, .inl (.inl (e3 _ _ hd)), pmono pk fun _ _ z => z.ex e3⟩, pos_only hp k, by omega, fun r2 qs H4 e4 h4 h5 hs => ⟨rfl, ?_⟩⟩
      have eq := hs.same (asc_filter hasc _)
      subst eq
      exact q _ _ (e2.trans (ex_made hx2 hdx2 e4)) ⟨x, dx2, r2, rfl, h4, h5⟩
end
end K8

set_option maxRecDepth 100000
set_option maxHeartbeats 4000000
/-! steps and scripts at work -/
namespace K8
open PySem PySem.Spec PyProof.Rows L2
open Evl (Ex ex_l ex_t sz_of sz_lt)
/-- towns as every County here has them -/
structure Twn (rs : Prs) : Prop where
  pos : Pos rs
  asc : Asc rs
  bd : Bd rs
  len : rs.length ≤ 1000
theorem twn_nil : Twn [] := ⟨(fun _ h => nomatch h), List.Pairwise.nil, (fun _ h => nomatch h), Nat.zero_le _⟩
theorem twn_only {rs : Prs} (h : Twn rs) (k : Int) : Twn (onlyF rs k) :=
  ⟨pos_only h.pos k, asc_filter h.asc _, fun q hq => h.bd q (List.mem_filter.mp hq).1, Nat.le_trans (List.length_filter_le _ _) h.len⟩
theorem twn_step {rs : Prs} (h : Twn rs) (s : Stp) : Twn (stepF s rs) := by
  unfold stepF
  split
  · exact twn_only h s.2
  · split
    · exact h
    · exact twn_nil
def spCoInit0 (K : PySem.W.Frag) (C e : Addr) : Sp := fun vs H Q E => spCoInit K C (vs ++ [.ref e]) H Q E
section
variable {P : Program} {w : World} {K : PySem.W.Frag} {mg : Str → Option Value} {base : Heap} {C CC CS : Addr}
theorem co_no {r : Addr} {m : Str} (h : ¬ m = "own_runs") : ([("own_runs", V.ref r)] : List (Str × V)).lookup m = none := by
  have e : ([("own_runs", V.ref r)] : List (Str × V)) = putF "own_runs" (.ref r) [] := rfl
  rw [e, lookup_putF, if_neg h]
  rfl
abbrev sStepCall : Stmt := inClass (top 35) 5
theorem scStepCall : FnScope ["self", "county"] ["self", "county"] (defScope sStepCall) := ⟨rfl, rfl, rfl, by decide +kernel, rfl, by decide +kernel, by decide +kernel⟩
def spStepCall (K : PySem.W.Frag) (CS CC : Addr) : Sp := fun vs H Q _ => ∃ (v c : V) (s : Stp) (rs : Prs), vs = [v, c] ∧ StV CS H v s ∧ 1 ≤ s.2 ∧ CoV K CC H c rs ∧ Twn rs ∧ ∀ v' H', Ex H H' → CoV K CC H' v' (stepF s rs) → Q v' H'
theorem ok_stepCall {f e : Addr} {fd : FuncData} {tk : Tok} (F : FnP K "__call__" "Step.__call__" sStepCall [] f fd) (T1 : ClsS K CS) (T2 : ClsC K CC) (mT : mg "TOWN" = some (.str "town" tk))
    (G1 : MeC P w K mg base CC "only" 4 (spCoOnly K CC)) (G2 : PrC P w K mg base CC "rows" 1 (spCoRows K CC)) (G3 : MkC P w K mg base "County" CC 2 (spCoInit0 K CC e)) (he : ∀ H, PsT K H e []) :
    FnOk P w K mg base CX0 5 f fd ["self", "county"] (spStepCall K CS CC) := by
  refine ok_of F scStepCall (fun vs H Q E h => ?_) (fun cdv A outer s H vs Q E hr h => ?_)
  · obtain ⟨v, c, s, rs, rfl, _⟩ := h
    rfl
  · obtain ⟨v, c, ⟨b, n⟩, rs, rfl, hs, hn, hc, ht, q⟩ := h
    obtain ⟨a, dx, rfl, ha⟩ := hs
    have hc0 := hc
    obtain ⟨a2, dx2, r, rfl, ha2, hrs⟩ := hc
    refine ⟨_, pss_cons (ps_if (pt_cmpR op_eq (pe_fld (pv 0) rfl) (pe_glob (v := .str "town") (by rfl) mT ⟨_, rfl⟩) (nomark _)) (pss_one (ps_ret (pe_me (pv 1) T2.cl G1 hr (pa_cons (pe_fld (pv 0) rfl) pa_nil)))) pss_nil)
      (pss_one (ps_ret (pe_ifExp (pt_cmpR op_ge (pe_pr (pv 1) T2.cl G2 (hr.mono (by decide))) (pe_fld (pv 0) rfl) (nomark _)) (pv 1) (pe_mk0 G3 (hr.mono (by decide)))))), ?_⟩
    refine ⟨_, rfl, a, CS, dx, _, _, rfl, ha, T1.cl, T1.nK, stFs_kind _, rfl, _, rfl, ?_⟩
    cases b with
    | true =>
      rw [show decide (V.str (kindS true) = V.str "town") = true by decide +kernel]
      refine iteT ?_
      refine ⟨_, rfl, a2, dx2, _, rfl, ha2, co_no (by decide +kernel), _, rfl, a, CS, dx, _, _, rfl, ha, T1.cl, T1.nL, stFs_least _, _, rs, n, rfl, hc0, ht.pos, ht.asc, ht.len, fun v' H' e' h' => q v' H' e' h'⟩
    | false =>
      rw [show decide (V.str (kindS false) = V.str "town") = false by decide +kernel]
      refine iteF ?_
      refine ⟨_, rfl, a2, dx2, _, rfl, ha2, _, rs, rfl, hc0, ht.pos, ht.bd, ht.len, fun H1 e1 => ⟨_, rfl, a, CS, dx, _, _, rfl, e1 _ _ ha, T1.cl, T1.nL, stFs_least _, _, _, rfl, rfl, _, rfl, ?_⟩⟩
      have es : stepF (false, n) rs = if n ≤ rowsF rs then rs else [] := rfl
      cases hcmp : decide (n ≤ rowsF rs) with
      | true =>
        refine iteT ⟨_, rfl, q _ _ e1 ?_⟩
        rw [es, if_pos (of_decide_eq_true hcmp)]
        exact hc0.ex e1
      | false =>
        refine iteF fun x dx3 hx3 hdx3 hne => ?_
        refine ⟨x, dx3, e, [], rfl, upd_same, .inr (he _), (fun _ h => nomatch h), Nat.zero_le _, fun r2 qs H4 e4 h4 h5 hs => ⟨rfl, ?_⟩⟩
        have eq := hs.same List.Pairwise.nil
        subst eq
        refine q _ _ (e1.trans (ex_made hx3 hdx3 e4)) ?_
        rw [es, if_neg (of_decide_eq_false hcmp)]
        exact ⟨x, dx3, r2, rfl, h4, h5⟩

/-! ### Script -/
def scFs (r f : Addr) : List (Str × V) := putF "own_form" (.ref f) (putF "own_steps" (.ref r) [])
theorem sc_ne : ¬ (("own_steps" : Str) = "own_form") := by decide +kernel
theorem scFs_form (r f : Addr) : (scFs r f).lookup ("own_form" : Str) = some (.ref f) := by
  unfold scFs
  rw [lookup_putF, if_pos rfl]
theorem scFs_steps (r f : Addr) : (scFs r f).lookup ("own_steps" : Str) = some (.ref r) := by
  unfold scFs
  rw [lookup_putF, if_neg sc_ne, lookup_putF, if_pos rfl]
theorem scFs_no {r f : Addr} {m : Str} (h1 : ¬ m = "own_form") (h2 : ¬ m = "own_steps") : (scFs r f).lookup m = none := by
  unfold scFs
  rw [lookup_putF, if_neg h1, lookup_putF, if_neg h2]
  rfl
structure ClsP (K : PySem.W.Frag) (C : Addr) : Prop where
  cl : Cls K C
  nS : NoAttr K C "own_steps"
  nF : NoAttr K C "own_form"
def StL (K : PySem.W.Frag) (C : Addr) (H : Hp) (a : Addr) (ss : List Stp) : Prop := ∃ xs, SqL K H a xs ∧ Paired (fun s x => StV C H x s) ss xs
def ScV (K : PySem.W.Frag) (C CS : Addr) (H : Hp) (v : V) (ss : List Stp) : Prop := ∃ a dx r f, v = V.ref a ∧ H a = some (.ins C dx (scFs r f)) ∧ StT K CS H r ss ∧ PsT K H f (formOfStepsF ss)
theorem StT.mut {H : Hp} {a p : Addr} {ss : List Stp} {x y : HO} (hp : H p = some x) (hx : tf x = false) (hn : ∀ dx s, x ≠ .ins CS dx (stFs s)) (h : StT K CS H a ss) : StT K CS (upd H p y) a ss := by
  obtain ⟨xs, h1, pr⟩ := h
  refine ⟨xs, ext_t (ExT.mut hp hx) h1, pmono pr fun s v hv => ?_⟩
  obtain ⟨b, dx, e, hb⟩ := hv
  exact ⟨b, dx, e, by rw [upd_ne (fun z => by rw [z, hp] at hb; exact hn dx s (Option.some.inj hb))]; exact hb⟩
theorem StT.exn {H H' : Hp} {a : Addr} {ss : List Stp} (e : ExN H H') (h : StT K CS H a ss) : StT K CS H' a ss := let ⟨xs, a, b⟩ := h; ⟨xs, exn_t e a, pmono b fun _ _ z => z.exn e⟩
theorem ScV.exn {H H' : Hp} {v : V} {ss : List Stp} (e : ExN H H') (h : ScV K C CS H v ss) : ScV K C CS H' v ss :=
  let ⟨a, dx, r, f, e1, e2, e3, e4⟩ := h
  ⟨a, dx, r, f, e1, e _ _ e2 (fun _ z => nomatch z), e3.exn e, e4.exn e⟩
theorem ScV.ex {H H' : Hp} {v : V} {ss : List Stp} (e : Ex H H') (h : ScV K C CS H v ss) : ScV K C CS H' v ss := h.exn (ExN.of e)
abbrev sScInit : Stmt := inClass (top 49) 0
theorem scScInit : FnScope ["self", "steps"] ["self", "steps"] (defScope sScInit) := ⟨rfl, rfl, rfl, by decide +kernel, rfl, by decide +kernel, by decide +kernel⟩
def spScInit (K : PySem.W.Frag) (C CS : Addr) : Sp := fun vs H Q _ => ∃ (p dx a : Addr) (ss : List Stp), vs = [.ref p, .ref a] ∧ H p = some (.ins C dx []) ∧ (StL K CS H a ss ∨ StT K CS H a ss) ∧ ss.length ≤ 800 ∧
  ∀ r f H', ExB p H H' → H' p = some (.ins C dx (scFs r f)) → StT K CS H' r ss → PsT K H' f (formOfStepsF ss) → Q .non H'
theorem ins_ne {C CS : Addr} {dx : Addr} : ∀ dy s, (HO.ins C dx []) ≠ .ins CS dy (stFs s) := fun dy s z => by
  injection z with _ _ z
  have := stFs_least s
  rw [← z] at this
  cases this
theorem ins_ne2 {C CS : Addr} {dx r : Addr} : ∀ dy s, (HO.ins C dx (putF "own_steps" (.ref r) [])) ≠ .ins CS dy (stFs s) := fun dy s z => by
  injection z with _ _ z
  have h := stFs_least s
  rw [← z, lookup_putF, if_neg (by decide +kernel)] at h
  cases h
theorem ok_scInit {f : Addr} {fd : FuncData} {dvs : List V} (F : FnP K "__init__" "Script.__init__" sScInit dvs f fd) (T : ClsP K C) (B : Bt mg) (G : Cal P w K mg base "form_of_steps" 4 (spFormOfSteps K CS)) : FnOk P w K mg base CX0 5 f fd ["self", "steps"] (spScInit K C CS) := by
  refine ok_of F scScInit (fun vs H Q E h => ?_) (fun cdv A outer s H vs Q E hr h => ?_)
  · obtain ⟨p, dx, a, ss, rfl, _⟩ := h
    rfl
  · obtain ⟨p, dx, a, ss, rfl, hp, hX, hl, q⟩ := h
    refine ⟨_, pss_cons (ps_fld (pv 0) (pe_callTy call_tuple_of (by rfl) B.tuple (by decide +kernel) (pa_cons (pv 1) pa_nil)) rfl)
      (pss_one (ps_fld (pv 0) (pe_cal G hr (pa_cons (pe_fld (pv 0) rfl) pa_nil)) rfl)), ?_⟩
    have key : ∀ (r : Addr) (H1 : Hp), Ex H H1 → StT K CS H1 r ss → (∃ a C' dx' fs, V.ref p = V.ref a ∧ H1 a = some (.ins C' dx' fs) ∧ Cls K C' ∧ NoAttr K C' "own_steps" ∧ fs.length < 1000 ∧
        tRet (tC .non) { nx := fun _ H' => Q .non H', rt := fun _ H' => True } [] H1) → ∀ (Hx : Hp), True := fun _ _ _ _ _ _ => trivial
    have fin : ∀ (r : Addr) (H1 : Hp), Ex H H1 → StT K CS H1 r ss → sFld K (tVar 0) (tCa (spFormOfSteps K CS) (tCons (tFld K (tVar 0) "own_steps") tNil)) "own_form" { nx := fun _ H' => Q .non H', rt := Q } (start ["self", "steps"] [.ref p, .ref a]) (upd H1 p (.ins C dx (putF "own_steps" (.ref r) []))) := by
      intro r H1 e1 hs
      have hp1 := e1 _ _ hp
      have hs2 : StT K CS (upd H1 p (.ins C dx (putF "own_steps" (.ref r) []))) r ss := hs.mut hp1 rfl ins_ne
      refine ⟨_, rfl, p, C, dx, _, _, rfl, upd_same, T.cl, T.nS, (by rw [lookup_putF, if_pos rfl]), r, ss, rfl, hs2, hl, fun f2 H2 e2 hf => ?_⟩
      have hp2 : H2 p = some (.ins C dx (putF "own_steps" (.ref r) [])) := e2 _ _ upd_same
      refine ⟨_, rfl, p, C, dx, _, rfl, hp2, T.cl, T.nF, (by show 1 < 1000; decide), q r f2 _ (fun b o h hb => ?_) upd_same ((hs2.ex e2).mut hp2 rfl ins_ne2) (hf.ext (ExT.mut hp2 rfl))⟩
      rw [upd_ne hb]
      exact e2 _ _ (by rw [upd_ne hb]; exact e1 _ _ h)
    rcases hX with ⟨xs, hx, pr⟩ | ⟨xs, hx, pr⟩
    · refine ⟨_, rfl, a, xs, rfl, .inl ⟨hx, fun l hl2 => ?_⟩⟩
      have e1 : Ex H (upd H l (.tup xs)) := ex_new hl2
      exact ⟨_, rfl, p, C, dx, [], rfl, e1 _ _ hp, T.cl, T.nS, (by show 0 < 1000; decide), fin l _ e1 ⟨xs, tup_new, pmono pr fun _ _ z => z.ex e1⟩⟩
    · exact ⟨_, rfl, a, xs, rfl, .inr ⟨hx, _, rfl, p, C, dx, [], rfl, hp, T.cl, T.nS, (by show 0 < 1000; decide), fin a _ (Evl.Ex.refl _) ⟨xs, hx, pr⟩⟩⟩
end
end K8

set_option maxRecDepth 100000
set_option maxHeartbeats 4000000
/-! Script: least, floor, the call -/
namespace K8
open PySem PySem.Spec PyProof.Rows L2
open Evl (Ex ex_l ex_t sz_of sz_lt)
section
variable {P : Program} {w : World} {K : PySem.W.Frag} {mg : Str → Option Value} {base : Heap} {C CC CS : Addr}
theorem form_short (ss : List Stp) (h : ss.length ≤ 800) : (formOfStepsF ss).length ≤ 1000 := by
  have := forms_len ss [(1, 1)]
  have l2 : ([((1 : Int), (1 : Int))] : Prs).length = 1 := rfl
  unfold formOfStepsF
  omega
abbrev sScLeast : Stmt := inClass (top 49) 5
theorem scScLeast : FnScope ["self"] ["self"] (defScope sScLeast) := ⟨rfl, rfl, rfl, by decide +kernel, rfl, by decide +kernel, by decide +kernel⟩
def spScLeast (K : PySem.W.Frag) (C CS : Addr) : Sp := fun vs H Q _ => ∃ (v : V) (ss : List Stp), vs = [v] ∧ ScV K C CS H v ss ∧ ss.length ≤ 800 ∧ ∀ H', Ex H H' → Q (.int (leastF (formOfStepsF ss))) H'
theorem ok_scLeast {f : Addr} {fd : FuncData} (F : FnP K "least" "Script.least" sScLeast [] f fd) (T : ClsP K C) (G : Cal P w K mg base "least_in" 1 (spLeastIn K)) : FnOk P w K mg base CX0 2 f fd ["self"] (spScLeast K C CS) := by
  refine ok_of F scScLeast (fun vs H Q E h => ?_) (fun cdv A outer s H vs Q E hr h => ?_)
  · obtain ⟨v, ss, rfl, _⟩ := h
    rfl
  · obtain ⟨v, ss, rfl, ⟨a, dx, r, f2, rfl, ha, hst, hf⟩, hl, q⟩ := h
    exact ⟨_, pss_one (ps_ret (pe_cal G hr (pa_cons (pe_fld (pv 0) rfl) pa_nil))), _, rfl, a, C, dx, _, _, rfl, ha, T.cl, T.nF, scFs_form _ _, f2, _, rfl, hf, form_short ss hl, fun H1 e1 => q H1 e1⟩
abbrev sScFloor : Stmt := inClass (top 49) 8
theorem scScFloor : FnScope ["self", "size"] ["self", "size"] (defScope sScFloor) := ⟨rfl, rfl, rfl, by decide +kernel, rfl, by decide +kernel, by decide +kernel⟩
def spScFloor (K : PySem.W.Frag) (C CS : Addr) : Sp := fun vs H Q _ => ∃ (v : V) (ss : List Stp) (n : Int), vs = [v, .int n] ∧ ScV K C CS H v ss ∧ ss.length ≤ 800 ∧ ∀ H', Ex H H' → Q (.int (floorF (formOfStepsF ss) n)) H'
theorem ok_scFloor {f : Addr} {fd : FuncData} (F : FnP K "floor" "Script.floor" sScFloor [] f fd) (T : ClsP K C) (G : Cal P w K mg base "floor_in" 2 (spFloorIn K)) : FnOk P w K mg base CX0 3 f fd ["self", "size"] (spScFloor K C CS) := by
  refine ok_of F scScFloor (fun vs H Q E h => ?_) (fun cdv A outer s H vs Q E hr h => ?_)
  · obtain ⟨v, ss, n, rfl, _⟩ := h
    rfl
  · obtain ⟨v, ss, n, rfl, ⟨a, dx, r, f2, rfl, ha, hst, hf⟩, hl, q⟩ := h
    exact ⟨_, pss_one (ps_ret (pe_cal G hr (pa_cons (pe_fld (pv 0) rfl) (pa_cons (pv 1) pa_nil)))), _, rfl, a, C, dx, _, _, rfl, ha, T.cl, T.nF, scFs_form _ _, _, rfl, f2, _, n, rfl, hf, form_short ss hl, fun H1 e1 => q H1 e1⟩
abbrev sScCall : Stmt := inClass (top 49) 12
abbrev nScCall : List Str := ["self", "county", "found", "step"]
theorem scScCall : FnScope nScCall ["self", "county"] (defScope sScCall) := ⟨rfl, rfl, rfl, by decide +kernel, rfl, by decide +kernel, by decide +kernel⟩
def spScCall (K : PySem.W.Frag) (C CS CC : Addr) : Sp := fun vs H Q _ => ∃ (v c : V) (ss : List Stp) (rs : Prs), vs = [v, c] ∧ ScV K C CS H v ss ∧ ss.length ≤ 800 ∧ (∀ s ∈ ss, 1 ≤ s.2) ∧ CoV K CC H c rs ∧ Twn rs ∧
  ∀ v' H', Ex H H' → CoV K CC H' v' (runF ss rs) → Twn (runF ss rs) → Q v' H'
theorem run_snoc (ss : List Stp) (s : Stp) (rs : Prs) : runF (ss ++ [s]) rs = stepF s (runF ss rs) := by
  unfold runF
  rw [List.foldl_append]
  rfl
theorem ok_scCall {f : Addr} {fd : FuncData} (F : FnP K "__call__" "Script.__call__" sScCall [] f fd) (T : ClsP K C) (G : InC P w K mg base CS 5 (spStepCall K CS CC)) : FnOk P w K mg base CX0 6 f fd ["self", "county"] (spScCall K C CS CC) := by
  refine ok_of F scScCall (fun vs H Q E h => ?_) (fun cdv A outer s H vs Q E hr h => ?_)
  · obtain ⟨v, c, ss, rs, rfl, _⟩ := h
    rfl
  · obtain ⟨v, c, ss, rs, rfl, ⟨a, dx, r, f2, rfl, ha, ⟨xs, hx, pr⟩, hf⟩, hl, hs, hc, ht, q⟩ := h
    have nd := scScCall.nd
    refine ⟨_, pss_cons (ps_set (i := 2) nd rfl (.inl rfl) (pv 1))
      (pss_cons (ps_for PassesOwn.never rfl (pi_tup (pe_fld (pv 0) rfl)) (pg_name (i := 3) nd rfl (.inl rfl))
        (pss_one (ps_set (i := 2) nd rfl (.inl rfl) (pe_in (pv 3) G hr (pa_cons (pv 2) pa_nil)))))
      (pss_one (ps_ret (pv 2)))), ?_⟩
    refine ⟨c, rfl, _, rfl, a, C, dx, _, _, rfl, ha, T.cl, T.nS, scFs_steps _ _, r, rfl, ⟨_, hx⟩, ?_⟩
    refine for_it (walk_tup (xs := xs)) (fun i σ H' => ∃ c2 y2, σ = [some (.ref a), some c, some c2, y2] ∧ Ex H H' ∧ CoV K CC H' c2 (runF (ss.take i) rs) ∧ Twn (runF (ss.take i) rs))
      ⟨c, none, rfl, Evl.Ex.refl _, hc, ht⟩ (fun i σ H' _ z => ?_) ?_ ?_
    · obtain ⟨_, _, _, z, _⟩ := z
      exact ex_t z hx
    · rintro i x σ H' H'' hi ⟨c2, y2, rfl, e1, hc2, ht2⟩ ⟨rfl, hxi⟩
      obtain ⟨z, hz, hv⟩ := pget pr hxi
      have hv' := hv.ex e1
      obtain ⟨b, dxb, rfl, hb⟩ := hv
      refine ⟨_, rfl, b, rfl, _, rfl, ?_, _, c2, z, _, rfl, hv', hs z (List.mem_of_getElem? hz), hc2, ht2, fun v3 H3 e3 h3 => ⟨v3, some (.ref b), rfl, e1.trans e3, ?_⟩⟩
      · exact .inr ⟨dxb, _, e1 _ _ hb⟩
      · rw [take_snoc hz, run_snoc]
        exact ⟨h3, twn_step ht2 z⟩
    · rintro σ H' ⟨c2, y2, rfl, e1, hc2, ht2⟩
      have et : ss.take xs.length = ss := List.take_of_length_le (by rw [plen pr]; exact Nat.le_refl _)
      rw [et] at hc2 ht2
      exact ⟨_, rfl, q c2 H' e1 hc2 ht2⟩
end
end K8

set_option maxRecDepth 100000
set_option maxHeartbeats 4000000
/-! texts: numbers and runs -/
namespace K8
open PySem PySem.Spec PyProof.Rows L2
open Evl (Ex ex_l ex_t sz_of sz_lt)
/-- the built-in classes tell each other apart -/
def IsiB (K : PySem.W.Frag) : Bool := ["int", "str", "list", "tuple"].all fun t => ["int", "str", "list", "tuple", "bool"].all fun c => decide (PySem.W.kitOne K (.type t) (.type c) = some (decide (t = c)))
structure Isi (K : PySem.W.Frag) : Prop where
  a : ∀ t ∈ ["int", "str", "list", "tuple"], ∀ c ∈ ["int", "str", "list", "tuple", "bool"], PySem.W.kitOne K (.type t) (.type c) = some (decide (t = c))
theorem isi_of {K : PySem.W.Frag} (h : IsiB K = true) : Isi K := ⟨fun t ht c hc => of_decide_eq_true (List.all_eq_true.mp (List.all_eq_true.mp h t ht) c hc)⟩
theorem bl_all {α : Type} : ∀ {l : List α} {ys : List V}, Paired (fun _ y => y = V.bl true) l ys → ∃ bs : List Bool, ys = bs.map V.bl ∧ bs.all _root_.id = true
  | _, _, .nil => ⟨[], rfl, rfl⟩
  | _, _, .cons r t => by
    obtain ⟨bs, e, h⟩ := bl_all t
    exact ⟨true :: bs, by rw [e, r]; rfl, by rw [List.all_cons, h]; rfl⟩
theorem tyx_tup {K : PySem.W.Frag} {H : Hp} {a : Addr} {xs : List V} (h : SqT K H a xs) : TyX K H (.ref a) (.type "tuple") := by
  rcases h with (h | ⟨o, h⟩) | ⟨o, its, n, h, c, _⟩
  · exact .base (.tup h)
  · exact .fTuple h
  · exact .kTuple h c
theorem tyx_lst {K : PySem.W.Frag} {H : Hp} {a : Addr} {xs : List V} (h : SqL K H a xs) : TyX K H (.ref a) (.type "list") := by
  rcases h with (h | ⟨o, h⟩) | ⟨o, its, n, h, c, _⟩
  · exact .base (.lst h)
  · exact .base (.frz h)
  · exact .kList h c

/-! ### number_in -/
def numV (t : Str) : Option Int := match atI t.cps.toList 0 with
  | none => none
  | some c => if (decide (t = ("" : Str)) || !(t.cps.toList.all fun c => decide (c ∈ ("0123456789" : Str).cps.toList)) || decide ((⟨#[c]⟩ : Str) = ("0" : Str)) || decide (640 < t.length)) = true then none else PySem.intText? t
theorem numV_of {t : Str} {n : Int} (h : numV t = some n) : ∃ c, atI t.cps.toList 0 = some c ∧ t ≠ ("" : Str) ∧ (∀ c ∈ t.cps.toList, c ∈ ("0123456789" : Str).cps.toList) ∧ (⟨#[c]⟩ : Str) ≠ ("0" : Str) ∧ t.length ≤ 640 ∧ PySem.intText? t = some n := by
  unfold numV at h
  cases ha : atI t.cps.toList 0 with
  | none =>
    rw [ha] at h
    cases h
  | some c =>
    rw [ha] at h
    dsimp only at h
    split at h
    · cases h
    · rename_i hc
      rw [Bool.or_eq_true, Bool.or_eq_true, Bool.or_eq_true] at hc
      refine ⟨c, rfl, fun z => hc (.inl (.inl (.inl (decide_eq_true z)))), fun d hd => ?_, fun z => hc (.inl (.inr (decide_eq_true z))), Nat.le_of_not_lt fun z => hc (.inr (decide_eq_true z)), h⟩
      cases hall : t.cps.toList.all fun c => decide (c ∈ ("0123456789" : Str).cps.toList) with
      | true => exact of_decide_eq_true (List.all_eq_true.mp hall d hd)
      | false => exact (hc (.inl (.inl (.inr (by rw [hall]; rfl))))).elim
section
variable {P : Program} {w : World} {K : PySem.W.Frag} {mg : Str → Option Value} {base : Heap} {C CC CS : Addr}
abbrev sNumber : Stmt := top 4
abbrev nNumber : List Str := ["text", "sign"]
theorem scNumber : FnScope nNumber ["text"] (defScope sNumber) := ⟨rfl, rfl, rfl, by decide +kernel, rfl, by decide +kernel, by decide +kernel⟩
def spNumber : Sp := fun vs H Q _ => ∃ (t : Str) (n : Int), vs = [.str t] ∧ numV t = some n ∧ ∀ H', Ex H H' → Q (.int n) H'
theorem ok_number {f : Addr} {fd : FuncData} (F : FnP K "number_in" "number_in" sNumber [] f fd) (T : Bt mg) : FnOk P w K mg base CX0 1 f fd ["text"] spNumber := by
  refine ok_of F scNumber (fun vs H Q E h => ?_) (fun cdv A outer s H vs Q E hr h => ?_)
  · obtain ⟨t, n, rfl, _⟩ := h
    rfl
  · obtain ⟨t, n, rfl, hn, q⟩ := h
    have nd := scNumber.nd
    obtain ⟨c0, h0, h1, h2, h3, h4, h5⟩ := numV_of hn
    refine ⟨_, pss_cons (ps_if (PW.pt (pw_or (pt_cmpR op_eq (pv 0) pe_str (nomark _)) (pw_or1 (pt_not (pt_val (pe_callB (cr_all rfl) (by rfl) T.all (by decide +kernel) (pa_cons
        (pe_lc (own := [("sign", 1)]) (g := gName 1) (tt := tYes) rfl nd (pi_str (pv 0)) (blkOk_by (N := nNumber) (sc := defScope sNumber) (by decide +kernel))
          (fun _ _ _ _ _ => pg_name (i := 1) nd rfl (Or.inl rfl)) (fun _ _ _ _ _ => pts_nil)
          (fun _ _ _ _ _ => pe_cmpR op_in_sign (pv 1) pe_str (by rfl))) pa_nil))))))) (pss_one ps_never) pss_nil)
      (pss_one (ps_ret (pe_ifExp (PW.pt (pw_and (pt_cmpR op_eq (pe_ix ix_str (pv 0) pe_int (fun _ _ => rfl)) pe_str (nomark _)) (pw_and1 (pt_cmpR op_ne (pv 0) pe_str (nomark _))))) pe_non
        (pe_callTy call_int_str (by rfl) T.int (by decide +kernel) (pa_cons (pv 0) pa_nil))))), ?_⟩
    refine ⟨_, rfl, rfl, false, (by rw [decide_eq_false]; exact fun z => h1 (V.str.inj z)), iteF ⟨_, rfl, t, rfl, ?_⟩⟩
    refine lc_map t.cps.toList (fun _ => true) (fun _ v _ => v = .bl true) (by rw [Array.length_toList]; exact walk_str) (by rw [Array.length_toList]; exact Nat.le_trans h4 (by decide)) (fun _ _ => trivial) (fun _ _ _ _ _ z => z) ?_ ?_
    · rintro i c x H1 H2 hc e1 ⟨rfl, c', hc', rfl⟩ N1 N0 k1 k0
      rw [Array.getElem?_toList, hc'] at hc
      cases hc
      refine ⟨rfl, _, rfl, c, _, rfl, rfl, ?_⟩
      rw [decide_eq_true (h2 c (List.mem_of_getElem? (by rw [Array.getElem?_toList]; exact hc')))]
      exact k1 rfl _ _ (Evl.Ex.refl _) rfl
    · intro D H2 ys hD e2 hd pk
      obtain ⟨bs, e, hb⟩ := bl_all pk
      rw [e] at hd
      refine ⟨D, bs, rfl, .inl (.inl hd), true, by rw [hb], iteF ?_⟩
      refine ⟨_, rfl, t, 0, c0, rfl, rfl, ?_, h0, rfl, false, by rw [decide_eq_false]; exact fun z => h3 (V.str.inj z), iteF (iteF ⟨_, rfl, t, n, rfl, h5, h4, q _ e2⟩)⟩
      have := sizeLine_eq
      omega
end
end K8

set_option maxRecDepth 100000
set_option maxHeartbeats 4000000
/-! run_in, run_text, is_number, is_run, is_runs -/
namespace K8
open PySem PySem.Spec PyProof.Rows L2
open Evl (Ex ex_l ex_t sz_of sz_lt)
def allV {α β : Type} (f : α → Option β) : List α → Option (List β)
  | [] => some []
  | a :: r => match f a with
    | none => none
    | some b => (allV f r).map (b :: ·)
theorem all_get {α β γ : Type} {f : α → Option β} {G : β → γ → Prop} : ∀ {l : List α} {m : List β} {ys : List γ}, allV f l = some m → Paired (fun a y => ∃ b, f a = some b ∧ G b y) l ys → Paired G m ys
  | [], m, _, h, .nil => by
    cases h
    exact .nil
  | a :: r, m, _, h, .cons ⟨b, e, g⟩ t => by
    unfold allV at h
    rw [e] at h
    dsimp only at h
    cases hr : allV f r with
    | none =>
      rw [hr] at h
      cases h
    | some l =>
      rw [hr] at h
      cases h
      exact .cons g (all_get hr t)
theorem all_mem {α β : Type} {f : α → Option β} : ∀ {l : List α} {m : List β}, allV f l = some m → ∀ a ∈ l, ∃ b, f a = some b
  | [], _, _, a, ha => nomatch ha
  | a :: r, m, h, x, hx => by
    unfold allV at h
    cases e : f a with
    | none =>
      rw [e] at h
      cases h
    | some b =>
      rw [e] at h
      dsimp only at h
      cases hr : allV f r with
      | none =>
        rw [hr] at h
        cases h
      | some l =>
        rcases List.mem_cons.mp hx with e2 | hx
        · rw [e2]
          exact ⟨b, e⟩
        · exact all_mem hr x hx
theorem all_len {α β : Type} {f : α → Option β} : ∀ {l : List α} {m : List β}, allV f l = some m → m.length = l.length
  | [], _, h => by cases h; rfl
  | a :: r, m, h => by
    unfold allV at h
    cases e : f a with
    | none =>
      rw [e] at h
      cases h
    | some b =>
      rw [e] at h
      dsimp only at h
      cases hr : allV f r with
      | none =>
        rw [hr] at h
        cases h
      | some l =>
        rw [hr] at h
        cases h
        exact congrArg (· + 1) (all_len hr)
def runV (t : Str) : Option (Int × Int) := if 1000 < t.length then none else match allV numV (Txt.split t ("x" : Str)) with
  | some [a] => if 1 ≤ a then some (a, 1) else none
  | some [a, b] => if 1 ≤ a ∧ 2 ≤ b then some (a, b) else none
  | _ => none
theorem runV_of {t : Str} {q : Int × Int} (h : runV t = some q) : t.length ≤ 1000 ∧ 1 ≤ q.1 ∧ 1 ≤ q.2 ∧ ((allV numV (Txt.split t ("x" : Str)) = some [q.1] ∧ q.2 = 1) ∨ (allV numV (Txt.split t ("x" : Str)) = some [q.1, q.2] ∧ 2 ≤ q.2)) := by
  unfold runV at h
  split at h
  · cases h
  · rename_i hl
    refine ⟨by omega, ?_⟩
    split at h
    · rename_i a e
      split at h
      · cases h
        exact ⟨by assumption, Int.le_refl _, .inl ⟨e, rfl⟩⟩
      · cases h
    · rename_i a b e
      split at h
      · rename_i hc
        cases h
        exact ⟨hc.1, by show 1 ≤ b; omega, .inr ⟨e, hc.2⟩⟩
      · cases h
    · cases h
section
variable {P : Program} {w : World} {K : PySem.W.Frag} {mg : Str → Option Value} {base : Heap} {C CC CS : Addr}
abbrev sRunIn : Stmt := top 16
abbrev nRunIn : List Str := ["text", "parts", "part"]
theorem scRunIn : FnScope nRunIn ["text"] (defScope sRunIn) := ⟨rfl, rfl, rfl, by decide +kernel, rfl, by decide +kernel, by decide +kernel⟩
def spRunIn (K : PySem.W.Frag) : Sp := fun vs H Q _ => ∃ (t : Str) (q : Int × Int), vs = [.str t] ∧ runV t = some q ∧ ∀ p H', Ex H H' → SqT K H' p [.int q.1, .int q.2] → Q (.ref p) H'
theorem ok_runIn {f : Addr} {fd : FuncData} {tk tk2 : Tok} (F : FnP K "run_in" "run_in" sRunIn [] f fd) (T : Bt mg) (mX : mg "TIMES" = some (.str "x" tk)) (mP : mg "PAIR" = some (.int 2 tk2)) (G : Cal P w K mg base "number_in" 1 spNumber) :
    FnOk P w K mg base CX0 2 f fd ["text"] (spRunIn K) := by
  refine ok_of F scRunIn (fun vs H Q E h => ?_) (fun cdv A outer s H vs Q E hr h => ?_)
  · obtain ⟨t, n, rfl, _⟩ := h
    rfl
  · obtain ⟨t, ⟨a, b⟩, rfl, hq, q⟩ := h
    have nd := scRunIn.nd
    obtain ⟨hl, ha, hb, hcs⟩ := runV_of hq
    have hsz := sizeLine_eq
    refine ⟨_, pss_cons (ps_setLc (i := 1) (own := [("part", 2)]) (g := gName 2) (tt := tYes) rfl nd rfl rfl (sw_true rfl rfl rfl (by decide +kernel))
        (pi_list (pe_split (pv 0) (pe_glob (v := .str "x") (by rfl) mX ⟨_, rfl⟩))) (blkOk_by (N := nRunIn) (sc := defScope sRunIn) (by decide +kernel))
        (fun _ _ _ _ _ => pg_name (i := 2) nd rfl (Or.inl rfl)) (fun _ _ _ _ _ => pts_nil) (fun _ _ _ _ _ => pe_cal G hr (pa_cons (pv 2) pa_nil)))
      (pss_cons (ps_if (PW.pt (pw_or (pt_cmpR op_in_seq pe_non (pv 1) (by rfl)) (pw_or (pt_cmpR op_gt (pe_callB call_len_seq (by rfl) T.len (by decide +kernel) (pa_cons (pv 1) pa_nil)) (pe_glob (v := .int 2) (by rfl) mP ⟨_, rfl⟩) (nomark _))
        (pw_or1 (pt_cmpR op_lt (pe_ix ix_list (pv 1) pe_int (fun _ _ => rfl)) pe_int (nomark _)))))) (pss_one ps_never) pss_nil)
      (pss_cons (ps_if (PW.pt (pw_and (pt_cmpR op_eq (pe_callB call_len_seq (by rfl) T.len (by decide +kernel) (pa_cons (pv 1) pa_nil)) (pe_glob (v := .int 2) (by rfl) mP ⟨_, rfl⟩) (nomark _))
        (pw_and1 (pt_cmpR op_lt (pe_ix ix_list (pv 1) pe_int (fun _ _ => rfl)) (pe_glob (v := .int 2) (by rfl) mP ⟨_, rfl⟩) (nomark _))))) (pss_one ps_never) pss_nil)
      (pss_one (ps_ret (pe_tup (pa_cons (pe_ix ix_list (pv 1) pe_int (fun _ _ => rfl)) (pa_cons (pe_ifExp (pt_cmpR op_eq (pe_callB call_len_seq (by rfl) T.len (by decide +kernel) (pa_cons (pv 1) pa_nil)) (pe_glob (v := .int 2) (by rfl) mP ⟨_, rfl⟩) (nomark _))
        (pe_ix ix_list (pv 1) pe_int (fun _ _ => rfl)) pe_int) pa_nil))))))), ?_⟩
    refine ⟨_, rfl, ⟨t, rfl⟩, t, "x", rfl, rfl, rfl, by omega, fun p0 hp0 => ⟨p0, rfl, ⟨_, lst_new⟩, ?_⟩⟩
    have e0 : Ex H (upd H p0 (.lst ((Txt.split t ("x" : Str)).map V.str))) := ex_new hp0
    obtain ⟨ns, hns⟩ : ∃ ns, allV numV (Txt.split t ("x" : Str)) = some ns := by
      rcases hcs with ⟨h, _⟩ | ⟨h, _⟩ <;> exact ⟨_, h⟩
    have hlen : (Txt.split t ("x" : Str)).length ≤ 100000 := Nat.le_trans (PyProof.Rows.split_le t _) (by omega)
    refine lc_map (Txt.split t ("x" : Str)) (fun _ => true) (fun z v _ => ∃ n, numV z = some n ∧ v = .int n) (by rw [← List.length_map (f := V.str)]; exact walk_list) hlen (fun H' e => ex_l e lst_new) (fun _ _ _ _ _ z => z) ?_ ?_
    · rintro i z x H1 H2 hz e1 ⟨rfl, hx⟩ N1 N0 k1 k0
      rw [List.getElem?_map, hz] at hx
      obtain rfl := Option.some.inj hx
      obtain ⟨n, hn⟩ := all_mem hns z (List.mem_of_getElem? hz)
      exact ⟨rfl, _, rfl, z, n, rfl, hn, fun H3 e3 => k1 rfl _ _ e3 ⟨n, hn, rfl⟩⟩
    · intro D H2 ys hD e2 hd pk
      rw [filter_all] at pk
      have e02 := e0.trans e2
      rcases hcs with ⟨hv, h1⟩ | ⟨hv, h1⟩
      · have ey := pmapEq (all_get hv pk)
        subst ey
        have h1' : b = 1 := h1
        subst h1'
        have hd' : SqL K H2 D [.int a] := .inl (.inl hd)
        have ha' : 1 ≤ a := ha
        refine ⟨.ref D, rfl, D, _, rfl, .inl hd', rfl, rfl, false, rfl, iteF ⟨_, rfl, D, _, rfl, .inl hd', _, _, rfl, rfl, false, rfl, iteF ⟨_, rfl, D, _, _, _, rfl, rfl, hd', rfl, _, _, rfl, rfl, false, ?_, iteF ?_⟩⟩⟩
        · show V.bl (decide (a < 1)) = V.bl false
          rw [decide_eq_false (by omega)]
        · refine ⟨_, rfl, D, _, rfl, .inl hd', rfl, false, rfl, iteF ⟨_, rfl, D, _, _, _, rfl, rfl, hd', rfl, _, rfl, D, _, rfl, .inl hd', rfl, false, rfl, iteF ⟨(by show 2 ≤ sizeLine; decide), fun p hp => q p _ (e02.trans (ex_new hp)) tup_new⟩⟩⟩
      · have ey := pmapEq (all_get hv pk)
        subst ey
        have hd' : SqL K H2 D [.int a, .int b] := .inl (.inl hd)
        have ha' : 1 ≤ a := ha
        have h1' : 2 ≤ b := h1
        refine ⟨.ref D, rfl, D, _, rfl, .inl hd', rfl, rfl, false, rfl, iteF ⟨_, rfl, D, _, rfl, .inl hd', _, _, rfl, rfl, false, rfl, iteF ⟨_, rfl, D, _, _, _, rfl, rfl, hd', rfl, _, _, rfl, rfl, false, ?_, iteF ?_⟩⟩⟩
        · show V.bl (decide (a < 1)) = V.bl false
          rw [decide_eq_false (by omega)]
        · refine ⟨_, rfl, D, _, rfl, .inl hd', rfl, true, rfl, iteT ⟨_, rfl, D, _, _, _, rfl, rfl, hd', rfl, _, _, rfl, rfl, false, ?_, iteF ⟨_, rfl, D, _, _, _, rfl, rfl, hd', rfl, _, rfl, D, _, rfl, .inl hd', rfl, true, rfl, iteT ⟨_, rfl, D, _, _, _, rfl, rfl, hd', rfl, (by show 2 ≤ sizeLine; decide), fun p hp => q p _ (e02.trans (ex_new hp)) tup_new⟩⟩⟩⟩
          show V.bl (decide (b < 2)) = V.bl false
          rw [decide_eq_false (by omega)]
end
end K8

set_option maxRecDepth 100000
set_option maxHeartbeats 4000000
/-! run_text, is_number, is_run, is_runs -/
namespace K8
open PySem PySem.Spec PyProof.Rows L2
open Evl (Ex ex_l ex_t sz_of sz_lt)
theorem str_len (a b : Str) : (a ++ b).length = a.length + b.length := Array.size_append
section
variable {K : PySem.W.Frag} {a b : Addr} {xs ys : List V}
theorem walk_zipT {n : Nat} (hn : n = min xs.length ys.length) : Walk (RZ.ItzT K a b) n (fun H => SqT K H a xs ∧ SqT K H b ys) (YPair (fun i => xs[i]?) (fun i => ys[i]?)) := by
  subst hn
  refine ⟨fun i _ hi q => ?_, fun _ q => ⟨xs, ys, q.1, q.2, by omega⟩, fun i H v H' _ q y => ?_⟩
  · have h1 : i < xs.length := by omega
    have h2 : i < ys.length := by omega
    exact ⟨xs, ys, xs[i], ys[i], q.1, q.2, by simp [h1], by simp [h2]⟩
  · obtain ⟨T, x, z, h1, h2, h3, h4, h5⟩ := y
    exact ⟨T, x, z, h1, h2, h3, h4 xs q.1, h5 ys q.2⟩
end
/-- a number as a text -/
def intT (n : Int) : Str := (toString n : String)
def runT (q : Int × Int) : Str := if q.2 = 1 then intT q.1 else ((Str.empty ++ intT q.1) ++ ("x" : Str)) ++ intT q.2
def runTok (q : Int × Int) : Bool := decide (q.1.natAbs.log2 < 1920) && decide (q.2.natAbs.log2 < 1920) && decide ((intT q.1).length ≤ 1000) && decide ((intT q.2).length ≤ 1000)
section
variable {P : Program} {w : World} {K : PySem.W.Frag} {mg : Str → Option Value} {base : Heap} {C CC CS : Addr}
abbrev sRunText : Stmt := top 17
abbrev nRunText : List Str := ["run", "size", "many"]
theorem scRunText : FnScope nRunText ["run"] (defScope sRunText) := ⟨rfl, rfl, rfl, by decide +kernel, rfl, by decide +kernel, by decide +kernel⟩
def spRunText (K : PySem.W.Frag) : Sp := fun vs H Q _ => ∃ (v : V) (q : Int × Int), vs = [v] ∧ PrV K H v q ∧ runTok q = true ∧ ∀ H', Ex H H' → Q (.str (runT q)) H'
theorem ok_runText {f : Addr} {fd : FuncData} {tk : Tok} (F : FnP K "run_text" "run_text" sRunText [] f fd) (T : Bt mg) (mX : mg "TIMES" = some (.str "x" tk)) : FnOk P w K mg base CX0 1 f fd ["run"] (spRunText K) := by
  refine ok_of F scRunText (fun vs H Q E h => ?_) (fun cdv A outer s H vs Q E hr h => ?_)
  · obtain ⟨t, n, rfl, _⟩ := h
    rfl
  · obtain ⟨v, ⟨a, b⟩, rfl, ⟨T1, rfl, hT⟩, hok, q⟩ := h
    have nd := scRunText.nd
    unfold runTok at hok
    rw [Bool.and_eq_true, Bool.and_eq_true, Bool.and_eq_true] at hok
    obtain ⟨⟨⟨g1, g2⟩, g3⟩, g4⟩ := hok
    have h1 : a.natAbs.log2 < 1920 := of_decide_eq_true g1
    have h2 : b.natAbs.log2 < 1920 := of_decide_eq_true g2
    have h3 : (intT a).length ≤ 1000 := of_decide_eq_true g3
    have h4 : (intT b).length ≤ 1000 := of_decide_eq_true g4
    have hsz := sizeLine_eq
    refine ⟨_, pss_cons (ps_asg (pv 0) (pg_tup rfl (pgs_cons (pg_name (i := 1) nd rfl (.inl rfl)) (pgs_cons (pg_name (i := 2) nd rfl (.inl rfl)) pgs_nil))))
      (pss_one (ps_ret (pe_ifExp (pt_cmpR op_eq (pv 2) pe_int (nomark _)) (pe_callTy call_str_int (by rfl) T.str (by decide +kernel) (pa_cons (pv 1) pa_nil))
        (pe_joined (.cons (pe_fmt (pv 1)) (.cons (pe_fmt (pe_glob (v := .str "x") (by rfl) mX ⟨_, rfl⟩)) (.cons (pe_fmt (pv 2)) .nil))))))), ?_⟩
    refine ⟨_, rfl, T1, _, rfl, hT, rfl, _, _, rfl, _, _, rfl, rfl, _, rfl, rfl, _, rfl, ?_⟩
    have h0 : Str.empty.length = 0 := rfl
    have hx : (("x" : Str)).length = 1 := by decide +kernel
    by_cases hb : b = 1
    · subst hb
      refine iteT ⟨_, rfl, a, rfl, h1, ?_⟩
      exact q H (Evl.Ex.refl _)
    · rw [decide_eq_false (fun z => hb (V.int.inj z))]
      refine iteF ⟨_, rfl, .inr ⟨a, rfl, h1, intT a, rfl, ?_, .inl ⟨"x", rfl, ?_, "x", rfl, ?_, _, rfl, .inr ⟨b, rfl, h2, intT b, rfl, ?_, ?_⟩⟩⟩⟩
      · rw [str_len]; omega
      · omega
      · rw [str_len, str_len]; omega
      · rw [str_len, str_len, str_len]; omega
      · have := q H (Evl.Ex.refl _)
        unfold runT at this
        rw [if_neg hb] at this
        exact this
abbrev sIsNum : Stmt := top 2
theorem scIsNum : FnScope ["thing"] ["thing"] (defScope sIsNum) := ⟨rfl, rfl, rfl, by decide +kernel, rfl, by decide +kernel, by decide +kernel⟩
def spIsNum : Sp := fun vs H Q _ => ∃ n : Int, vs = [.int n] ∧ ∀ H', Ex H H' → Q (.bl true) H'
theorem ok_isNum {f : Addr} {fd : FuncData} (F : FnP K "is_number" "is_number" sIsNum [] f fd) (T : Bt mg) (I : Isi K) : FnOk P w K mg base CX0 1 f fd ["thing"] spIsNum := by
  refine ok_of F scIsNum (fun vs H Q E h => ?_) (fun cdv A outer s H vs Q E hr h => ?_)
  · obtain ⟨n, rfl, _⟩ := h
    rfl
  · obtain ⟨n, rfl, q⟩ := h
    refine ⟨_, pss_one (ps_ret (pe_and (pe_callB call_isi (by rfl) T.isinstance (by decide +kernel) (pa_cons (pv 0) (pa_cons (pe_bltn (v := .ty "int") (by rfl) T.int (by decide +kernel) rfl) pa_nil)))
      (pe_one (pe_not (pe_callB call_isi (by rfl) T.isinstance (by decide +kernel) (pa_cons (pv 0) (pa_cons (pe_bltn (v := .ty "bool") (by rfl) T.bool (by decide +kernel) rfl) pa_nil))))))), ?_⟩
    refine ⟨_, rfl, _, _, _, _, true, rfl, .ty "int", .base (.int n), I.a "int" (by decide) "int" (by decide), true, rfl, iteT ⟨_, rfl, _, _, _, _, false, rfl, .ty "bool", .base (.int n), I.a "int" (by decide) "bool" (by decide), false, rfl, ?_⟩⟩
    exact q H (Evl.Ex.refl _)
abbrev sIsRun : Stmt := top 18
abbrev nIsRun : List Str := ["thing", "part"]
theorem scIsRun : FnScope nIsRun ["thing"] (defScope sIsRun) := ⟨rfl, rfl, rfl, by decide +kernel, rfl, by decide +kernel, by decide +kernel⟩
def spIsRun (K : PySem.W.Frag) : Sp := fun vs H Q _ => ∃ (v : V) (q : Int × Int), vs = [v] ∧ PrV K H v q ∧ 1 ≤ q.1 ∧ 1 ≤ q.2 ∧ ∀ H', Ex H H' → Q (.bl true) H'
theorem ok_isRun {f : Addr} {fd : FuncData} {tk2 : Tok} (F : FnP K "is_run" "is_run" sIsRun [] f fd) (T : Bt mg) (I : Isi K) (mP : mg "PAIR" = some (.int 2 tk2)) (G : Cal P w K mg base "is_number" 1 spIsNum) : FnOk P w K mg base CX0 2 f fd ["thing"] (spIsRun K) := by
  refine ok_of F scIsRun (fun vs H Q E h => ?_) (fun cdv A outer s H vs Q E hr h => ?_)
  · obtain ⟨v, q, rfl, _⟩ := h
    rfl
  · obtain ⟨v, ⟨a, b⟩, rfl, ⟨T1, rfl, hT⟩, ha, hb, q⟩ := h
    have nd := scIsRun.nd
    refine ⟨_, pss_cons (ps_if (PW.pt (pw_or (pt_not (pt_val (pe_callB call_isi (by rfl) T.isinstance (by decide +kernel) (pa_cons (pv 0) (pa_cons (pe_bltn (v := .ty "tuple") (by rfl) T.tuple (by decide +kernel) rfl) pa_nil)))))
        (pw_or1 (pt_cmpR op_ne (pe_callB call_len_seq (by rfl) T.len (by decide +kernel) (pa_cons (pv 0) pa_nil)) (pe_glob (v := .int 2) (by rfl) mP ⟨_, rfl⟩) (nomark _))))) (pss_one ps_never) pss_nil)
      (pss_one (ps_ret (pe_callB (cr_all rfl) (by rfl) T.all (by decide +kernel) (pa_cons
        (pe_lc (own := [("part", 1)]) (g := gName 1) (tt := tYes) rfl nd (pi_tup (pv 0)) (blkOk_by (N := nIsRun) (sc := defScope sIsRun) (by decide +kernel))
          (fun _ _ _ _ _ => pg_name (i := 1) nd rfl (Or.inl rfl)) (fun _ _ _ _ _ => pts_nil)
          (fun _ _ _ _ _ => pe_and (pe_cal G hr (pa_cons (pv 1) pa_nil)) (pe_one (pe_cmpR op_gt (pv 1) pe_int (nomark _))))) pa_nil)))), ?_⟩
    refine ⟨_, rfl, _, _, _, _, true, rfl, .ty "tuple", tyx_tup hT, I.a "tuple" (by decide) "tuple" (by decide), true, rfl, iteF ⟨_, rfl, T1, _, rfl, .inr hT, rfl, false, rfl, iteF ⟨_, rfl, T1, rfl, ⟨_, hT⟩, ?_⟩⟩⟩
    refine lc_map [a, b] (fun _ => true) (fun _ v _ => v = .bl true) (walk_tup (xs := [.int a, .int b])) (by show 2 ≤ 100000; decide) (fun H' e => ex_t e hT) (fun _ _ _ _ _ z => z) ?_ ?_
    · rintro i z x H1 H2 hz e1 ⟨rfl, hx⟩ N1 N0 k1 k0
      have hx' : (([a, b] : List Int).map V.int)[i]? = some x := hx
      rw [List.getElem?_map, hz] at hx'
      obtain rfl := Option.some.inj hx'
      have hzp : 0 < z := by
        have := List.mem_of_getElem? hz
        rcases List.mem_cons.mp this with e | h
        · rw [e]; exact ha
        · rw [List.mem_singleton.mp h]; exact hb
      refine ⟨rfl, _, rfl, z, rfl, fun H3 e3 => ⟨true, rfl, iteT ⟨_, rfl, _, _, rfl, rfl, ?_⟩⟩⟩
      show N1 (V.bl (decide (0 < z))) H3
      rw [decide_eq_true hzp]
      exact k1 rfl _ _ e3 rfl
    · intro D H2 ys hD e2 hd pk
      obtain ⟨bs, e, hb⟩ := bl_all pk
      rw [e] at hd
      refine ⟨D, bs, rfl, .inl (.inl hd), ?_⟩
      rw [hb]
      exact q _ e2
abbrev sIsRuns : Stmt := top 19
abbrev nIsRuns : List Str := ["thing", "run", "later"]
theorem scIsRuns : FnScope nIsRuns ["thing"] (defScope sIsRuns) := ⟨rfl, rfl, rfl, by decide +kernel, rfl, by decide +kernel, by decide +kernel⟩
def spIsRuns (K : PySem.W.Frag) : Sp := fun vs H Q _ => ∃ (a : Addr) (ps : Prs), vs = [.ref a] ∧ PsT K H a ps ∧ Pos ps ∧ Asc ps ∧ ps ≠ [] ∧ ps.length ≤ 1000 ∧ ∀ H', Ex H H' → Q (.bl true) H'
theorem asc_next : ∀ {ps : Prs} {i : Nat} {p q : Int × Int}, Asc ps → ps[i]? = some p → (ps.drop 1)[i]? = some q → p.1 < q.1
  | [], i, p, q, _, h, _ => by simp at h
  | [a], i, p, q, _, _, h => by simp at h
  | a :: b :: r, 0, p, q, h, h1, h2 => by
    cases h1
    cases h2
    exact (List.pairwise_cons.mp h).1 b List.mem_cons_self
  | a :: b :: r, i + 1, p, q, h, h1, h2 => asc_next (i := i) (List.pairwise_cons.mp h).2 h1 h2
theorem ok_isRuns {f : Addr} {fd : FuncData} (F : FnP K "is_runs" "is_runs" sIsRuns [] f fd) (T : Bt mg) (I : Isi K) (G : Cal P w K mg base "is_run" 2 (spIsRun K)) : FnOk P w K mg base CX0 3 f fd ["thing"] (spIsRuns K) := by
  refine ok_of F scIsRuns (fun vs H Q E h => ?_) (fun cdv A outer s H vs Q E hr h => ?_)
  · obtain ⟨v, q, rfl, _⟩ := h
    rfl
  · obtain ⟨a, ps, rfl, ⟨xs, hx, pr⟩, hp, hasc, hne, hl, q⟩ := h
    have nd := scIsRuns.nd
    have l1 := plen pr
    refine ⟨_, pss_cons (ps_if (PW.pt (pw_or (pt_not (pt_val (pe_callB call_isi (by rfl) T.isinstance (by decide +kernel) (pa_cons (pv 0) (pa_cons (pe_bltn (v := .ty "tuple") (by rfl) T.tuple (by decide +kernel) rfl) pa_nil)))))
        (pw_or1 (pt_not (pt_val (pe_callB (cr_all rfl) (by rfl) T.all (by decide +kernel) (pa_cons
        (pe_lc (own := [("run", 1)]) (g := gName 1) (tt := tYes) rfl nd (pi_tup (pv 0)) (blkOk_by (N := nIsRuns) (sc := defScope sIsRuns) (by decide +kernel))
          (fun _ _ _ _ _ => pg_name (i := 1) nd rfl (Or.inl rfl)) (fun _ _ _ _ _ => pts_nil)
          (fun _ _ _ _ _ => pe_cal G hr (pa_cons (pv 1) pa_nil))) pa_nil))))))) (pss_one ps_never) pss_nil)
      (pss_one (ps_ret (pe_callB (cr_all rfl) (by rfl) T.all (by decide +kernel) (pa_cons
        (pe_lc (own := [("run", 1), ("later", 2)]) (g := gPr K 1 2) (tt := tYes) (te := tOp (rI0 fun i j => .bl (decide (i < j))) (tOp (rIxT K) (tVar 1) (tC (.int 0))) (tOp (rIxT K) (tVar 2) (tC (.int 0)))) rfl nd (RZ.pi_zipA (by rfl) T.zip (pa_cons (pv 0) (pa_cons (pe_slice sl_tup (pv 0) (po_some pe_int) po_none) pa_nil))) (blkOk_by (N := nIsRuns) (sc := defScope sIsRuns) (by decide +kernel))
          (fun _ _ _ _ _ => pg_tup rfl (pgs_cons (pg_name (i := 1) nd rfl (Or.inl rfl)) (pgs_cons (pg_name (i := 2) nd rfl (Or.inl rfl)) pgs_nil))) (fun _ _ _ _ _ => pts_nil)
          (fun _ _ _ _ _ => pe_cmpR op_lt (pe_ix ix_tup (pv 1) pe_int (fun _ _ => rfl)) (pe_ix ix_tup (pv 2) pe_int (fun _ _ => rfl)) (nomark _))) pa_nil)))), ?_⟩
    refine ⟨_, rfl, _, _, _, _, true, rfl, .ty "tuple", tyx_tup hx, I.a "tuple" (by decide) "tuple" (by decide), true, rfl, iteF ⟨_, rfl, a, rfl, ⟨_, hx⟩, ?_⟩⟩
    refine lc_map ps (fun _ => true) (fun _ v _ => v = .bl true) (by rw [l1]; exact walk_tup) (by omega) (fun H' e => ex_t e hx) (fun _ _ _ _ _ z => z) ?_ ?_
    · rintro i z x H1 H2 hz e1 ⟨rfl, hxi⟩ N1 N0 k1 k0
      obtain ⟨z', hz', hv⟩ := pget pr hxi
      rw [hz] at hz'
      obtain rfl := Option.some.inj hz'
      have h2 := hp z (List.mem_of_getElem? hz)
      exact ⟨rfl, _, rfl, x, z, rfl, hv.ex e1, h2.1, h2.2, fun H3 e3 => k1 rfl _ _ e3 rfl⟩
    · intro D H2 ys hD e2 hd pk
      obtain ⟨bs, e, hb⟩ := bl_all pk
      rw [e] at hd
      refine ⟨D, bs, rfl, .inl (.inl hd), true, by rw [hb], iteF ?_⟩
      have hx2 := ex_t e2 hx
      have hlp : 0 < ps.length := List.length_pos_iff.mpr hne
      refine ⟨.ref a, rfl, .ref a, rfl, 1, rfl, a, xs, rfl, hx2, ?_, fun c hc => ⟨a, c, xs, _, rfl, .inr ⟨?_, tup_new, ?_⟩⟩⟩
      · intro hw
        have h1 := hw.1
        rw [show HT.sIx xs.length 0 (some 1) = min 1 xs.length from HT.sIx_nat xs.length 0 1] at h1
        omega
      · exact ex_t (ex_new hc) hx2
      · have e3 : Ex H2 (upd H2 c (.tup (cutV xs (some 1) none))) := ex_new hc
        have prd : Paired (fun q x => PrV K (upd H2 c (.tup (cutV xs (some 1) none))) x q) (ps.drop 1) (cutV xs (some 1) none) := by
          have h := pdrop 1 (pmono pr fun _ _ z => PrV.ex (e2.trans e3) z)
          rw [← cut1V] at h
          exact h
        refine lc_map (ps.zip (ps.drop 1)) (fun _ => true) (fun _ v _ => v = .bl true) (walk_zipT (by rw [List.length_zip, l1, plen prd])) ?_ (fun H' e => ⟨ex_t (e3.trans e) hx2, ex_t e tup_new⟩) (fun _ _ _ _ _ z => z) ?_ ?_
        · rw [List.length_zip]
          omega
        · rintro i z x H3 H4 hz eH ⟨T1, x1, x2, rfl, hT, rfl, h1, h2⟩ N1 N0 n1 n0
          obtain ⟨z1, hz1, T2, rfl, hT2⟩ := pget pr h1
          obtain ⟨z2, hz2, T3, rfl, hT3⟩ := pget prd h2
          have e5 : Ex H3 (upd H3 T1 (.tup [.ref T2, .ref T3])) := ex_new hT
          have hlt := asc_next hasc hz1 hz2
          refine ⟨T1, _, rfl, tup_new, rfl, _, _, rfl, _, _, rfl, rfl, rfl, ?_⟩
          refine ⟨.ref T2, rfl, T2, _, 0, .int z1.1, rfl, rfl, ex_t (((e2.trans e3).trans eH).trans e5) hT2, rfl, .ref T3, rfl, T3, _, 0, .int z2.1, rfl, rfl, ex_t (eH.trans e5) hT3, rfl, _, _, rfl, rfl, ?_⟩
          show N1 (V.bl (decide (z1.1 < z2.1))) _
          rw [decide_eq_true hlt]
          exact n1 rfl _ _ e5 rfl
        · intro D2 H5 ys2 hD2 e6 hd2 pk2
          obtain ⟨bs2, e, hb2⟩ := bl_all pk2
          rw [e] at hd2
          refine ⟨D2, bs2, rfl, .inl (.inl hd2), ?_⟩
          rw [hb2]
          exact q _ ((e2.trans e3).trans e6)
end
end K8

set_option maxRecDepth 100000
set_option maxHeartbeats 4000000
/-! County.of, County.text, Step.of, Script.of -/
namespace K8
open PySem PySem.Spec PyProof.Rows L2
open Evl (Ex ex_l ex_t sz_of sz_lt)
def prD (q : Int × Int) : PyData := .tuple [.int q.1, .int q.2]
theorem dp_prs {K : PySem.W.Frag} {H : Hp} : ∀ {ps : Prs} {xs : List V}, Paired (fun q x => PrV K H x q) ps xs → DpAll K H xs (ps.map prD)
  | _, _, .nil => .nil
  | _, _, .cons ⟨T, e, h⟩ t => by
    subst e
    exact .cons (.tup h (.cons (.int _) (.cons (.int _) .nil))) (dp_prs t)
theorem lay_prs : ∀ ps : Prs, PyData.canLayAll0 (ps.map prD) = true ∧ PyData.depthAll (ps.map prD) ≤ 1
  | [] => ⟨rfl, Nat.zero_le _⟩
  | q :: r => by
    obtain ⟨h1, h2⟩ := lay_prs r
    refine ⟨?_, ?_⟩
    · show (PyData.canLay0 (prD q) && PyData.canLayAll0 (r.map prD)) = true
      rw [h1]
      rfl
    · show max (PyData.depth (prD q)) (PyData.depthAll (r.map prD)) ≤ 1
      have : PyData.depth (prD q) = 1 := rfl
      omega
theorem shp_prs (ps : Prs) : SeqAt.shaped (.list (ps.map prD)) = true := by
  obtain ⟨h1, h2⟩ := lay_prs ps
  unfold SeqAt.shaped
  rw [Bool.and_eq_true]
  refine ⟨h1, decide_eq_true ?_⟩
  show PyData.depthAll (ps.map prD) + 1 ≤ 64
  omega
theorem non_prs : ∀ ps : Prs, ((ps.map prD).any fun z => PyData.eqv z .none) = false
  | [] => rfl
  | q :: r => by
    rw [List.map_cons, List.any_cons, non_prs r]
    rfl
def coV (t : Str) : Option Prs := if (decide (t = ("-" : Str)) || decide (900 < t.length)) = true then none else match allV runV (Txt.split t (" " : Str)) with
  | none => none
  | some ps => if (ps.Pairwise fun a b => a.1 < b.1) ∧ ps ≠ [] then some ps else none
theorem coV_of {t : Str} {ps : Prs} (h : coV t = some ps) : t ≠ ("-" : Str) ∧ t.length ≤ 900 ∧ allV runV (Txt.split t (" " : Str)) = some ps ∧ Asc ps ∧ ps ≠ [] := by
  unfold coV at h
  split at h
  · cases h
  · rename_i hc
    rw [Bool.or_eq_true] at hc
    refine ⟨fun z => hc (.inl (decide_eq_true z)), Nat.le_of_not_lt fun z => hc (.inr (decide_eq_true z)), ?_⟩
    split at h
    · cases h
    · rename_i ps' e
      split at h
      · rename_i hx
        cases h
        exact ⟨e, hx.1, hx.2⟩
      · cases h
theorem all_each {α β : Type} {f : α → Option β} {p : β → Prop} (hp : ∀ a b, f a = some b → p b) : ∀ {l : List α} {m : List β}, allV f l = some m → ∀ b ∈ m, p b
  | [], m, h, b, hb => by
    cases h
    cases hb
  | a :: r, m, h, b, hb => by
    unfold allV at h
    cases e : f a with
    | none =>
      rw [e] at h
      cases h
    | some b0 =>
      rw [e] at h
      dsimp only at h
      cases hr : allV f r with
      | none =>
        rw [hr] at h
        cases h
      | some l =>
        rw [hr] at h
        cases h
        rcases List.mem_cons.mp hb with e2 | hb
        · rw [e2]
          exact hp _ _ e
        · exact all_each hp hr b hb
def coT (rs : Prs) : Str := if rs.length = 0 then ("-" : Str) else Txt.join (" " : Str) (rs.map runT)
def coTok (rs : Prs) : Bool := rs.all runTok && decide (rs.length ≤ 1000) && decide (((rs.map runT).map (·.length)).sum + (rs.map runT).length * (" " : Str).length ≤ 16777216)
section
variable {P : Program} {w : World} {K : PySem.W.Frag} {mg : Str → Option Value} {base : Heap} {C CC CS : Addr}
abbrev sCoOf : Stmt := inClass (top 20) 1
abbrev nCoOf : List Str := ["text", "runs", "part"]
theorem scCoOf : FnScope nCoOf ["text"] (defScope sCoOf) := ⟨rfl, rfl, rfl, by decide +kernel, rfl, by decide +kernel, by decide +kernel⟩
def spCoOf (K : PySem.W.Frag) (CC : Addr) : Sp := fun vs H Q _ => ∃ (t : Str) (ps : Prs), vs = [.str t] ∧ coV t = some ps ∧ ∀ v H', Ex H H' → CoV K CC H' v ps → Q v H'
theorem ok_coOf {f : Addr} {fd : FuncData} {tk : Tok} (F : FnP K "of" "County.of" sCoOf [] f fd) (T : Bt mg) (mN : mg "NOTHING" = some (.str "-" tk)) (G1 : Cal P w K mg base "run_in" 2 (spRunIn K)) (G2 : Cal P w K mg base "is_runs" 3 (spIsRuns K))
    (G3 : MkC P w K mg base "County" CC 2 (spCoInit K CC)) : FnOk P w K mg base CX0 4 f fd ["text"] (spCoOf K CC) := by
  refine ok_of F scCoOf (fun vs H Q E h => ?_) (fun cdv A outer s H vs Q E hr h => ?_)
  · obtain ⟨t, n, rfl, _⟩ := h
    rfl
  · obtain ⟨t, ps, rfl, hq, q⟩ := h
    have nd := scCoOf.nd
    obtain ⟨h1, hl, hps, hasc, hne⟩ := coV_of hq
    have hpos : Pos ps := fun z hz => all_each (p := fun q => 1 ≤ q.1 ∧ 1 ≤ q.2) (fun a b hab => ⟨(runV_of hab).2.1, (runV_of hab).2.2.1⟩) hps z hz
    have hln : (Txt.split t (" " : Str)).length ≤ 900 + 2 := Nat.le_trans (PyProof.Rows.split_le t _) (by omega)
    have hpl := all_len hps
    have hsz := sizeLine_eq
    refine ⟨_, pss_cons (ps_if (pt_cmpR op_eq (pv 0) (pe_glob (v := .str "-") (by rfl) mN ⟨_, rfl⟩) (nomark _)) (pss_one ps_never) pss_nil)
      (pss_cons (ps_setLc (i := 1) (own := [("part", 2)]) (g := gName 2) (tt := tYes) rfl nd rfl rfl (sw_true rfl rfl rfl (by decide +kernel))
        (pi_list (pe_split (pv 0) pe_str)) (blkOk_by (N := nCoOf) (sc := defScope sCoOf) (by decide +kernel))
        (fun _ _ _ _ _ => pg_name (i := 2) nd rfl (Or.inl rfl)) (fun _ _ _ _ _ => pts_nil) (fun _ _ _ _ _ => pe_cal G1 (hr.mono (by decide)) (pa_cons (pv 2) pa_nil)))
      (pss_cons (ps_if (PW.pt (pw_or (pt_cmpR (op_inD (Nat.lt_of_le_of_lt (Nat.le_trans (Nat.add_le_add_left (by decide : 65 ≤ 16 * 3 + 200) _) (Nat.le_of_eq (Nat.add_assoc _ _ _).symm)) hr.un)) pe_non (pv 1) (by rfl)) (pw_or1 (pt_not (pt_val (pe_cal G2 hr (pa_cons (pe_callTy call_tuple_of (by rfl) T.tuple (by decide +kernel) (pa_cons (pv 1) pa_nil)) pa_nil))))))) (pss_one ps_never) pss_nil)
      (pss_one (ps_ret (pe_mk G3 hr (pa_cons (pv 1) pa_nil)))))), ?_⟩
    refine ⟨_, rfl, rfl, false, (by rw [decide_eq_false]; exact fun z => h1 (V.str.inj z)), iteF ⟨_, rfl, ⟨t, rfl⟩, t, (" " : Str), rfl, rfl, rfl, by omega, fun p0 hp0 => ⟨p0, rfl, ⟨_, lst_new⟩, ?_⟩⟩⟩
    have e0 : Ex H (upd H p0 (.lst ((Txt.split t (" " : Str)).map V.str))) := ex_new hp0
    refine lc_map (Txt.split t (" " : Str)) (fun _ => true) (fun z v H => ∃ q, runV z = some q ∧ PrV K H v q) (by rw [← List.length_map (f := V.str)]; exact walk_list) (by omega) (fun H' e => ex_l e lst_new) (fun _ _ _ _ e ⟨n, a, b⟩ => ⟨n, a, b.exn e⟩) ?_ ?_
    · rintro i z x H1 H2 hz e1 ⟨rfl, hx⟩ N1 N0 k1 k0
      rw [List.getElem?_map, hz] at hx
      obtain rfl := Option.some.inj hx
      obtain ⟨n, hn⟩ := all_mem hps z (List.mem_of_getElem? hz)
      exact ⟨rfl, _, rfl, z, n, rfl, hn, fun p H3 e3 h3 => k1 rfl _ _ e3 ⟨n, hn, p, rfl, h3⟩⟩
    · intro D H2 ys hD e2 hd pk
      rw [filter_all] at pk
      have pk2 : Paired (fun q v => PrV K H2 v q) ps ys := all_get hps pk
      have e02 := e0.trans e2
      have hd' : SqL K H2 D ys := .inl (.inl hd)
      refine ⟨.ref D, rfl, _, _, .non, .lst hd' (dp_prs pk2), rfl, shp_prs ps, false, by rw [non_prs], iteF ⟨_, rfl, D, ys, rfl, .inl ⟨hd', fun p hp => ?_⟩⟩⟩
      have e3 : Ex H2 (upd H2 p (.tup ys)) := ex_new hp
      refine ⟨p, ps, rfl, ⟨ys, tup_new, pmono pk2 fun _ _ z => z.ex e3⟩, hpos, hasc, hne, by omega, fun H3 e4 => ⟨true, rfl, iteF ⟨_, rfl, ?_⟩⟩⟩
      intro x dx2 hx2 hdx2 hne2
      have e5 : Ex H3 (upd (upd H3 dx2 (.own x)) x (.ins CC dx2 [])) := fun b o h => by
        rw [upd_ne (ne_of_none h hx2), upd_ne (ne_of_none h hdx2)]
        exact h
      refine ⟨x, dx2, D, ps, rfl, upd_same, .inl ⟨ys, ex_l ((e3.trans e4).trans e5) hd', pmono pk2 fun _ _ z => z.ex ((e3.trans e4).trans e5)⟩, hpos, by omega, fun r2 qs H4 e6 h4 h5 hs => ⟨rfl, ?_⟩⟩
      have eq := hs.same hasc
      subst eq
      exact q _ _ (((e02.trans e3).trans e4).trans (ex_made hx2 hdx2 e6)) ⟨x, dx2, r2, rfl, h4, h5⟩

/-! ### County.text -/
abbrev sCoText : Stmt := inClass (top 20) 3
abbrev nCoText : List Str := ["self", "run"]
theorem scCoText : FnScope nCoText ["self"] (defScope sCoText) := ⟨rfl, rfl, rfl, by decide +kernel, rfl, by decide +kernel, by decide +kernel⟩
def spCoText (K : PySem.W.Frag) (C : Addr) : Sp := fun vs H Q _ => ∃ (v : V) (rs : Prs), vs = [v] ∧ CoV K C H v rs ∧ coTok rs = true ∧ ∀ H', Ex H H' → Q (.str (coT rs)) H'
theorem ok_coText {f : Addr} {fd : FuncData} {tk : Tok} (F : FnP K "text" "County.text" sCoText [] f fd) (T : ClsC K C) (B : Bt mg) (mN : mg "NOTHING" = some (.str "-" tk)) (G : Cal P w K mg base "run_text" 1 (spRunText K)) : FnOk P w K mg base CX0 2 f fd ["self"] (spCoText K C) := by
  refine ok_of F scCoText (fun vs H Q E h => ?_) (fun cdv A outer s H vs Q E hr h => ?_)
  · obtain ⟨v, rs, rfl, _⟩ := h
    rfl
  · obtain ⟨v, rs, rfl, ⟨a, dx, r, rfl, ha, xs, hx, pr⟩, hok, q⟩ := h
    have nd := scCoText.nd
    unfold coTok at hok
    rw [Bool.and_eq_true, Bool.and_eq_true] at hok
    obtain ⟨⟨g1, g2⟩, g3⟩ := hok
    have g2 := of_decide_eq_true g2
    have g3 := of_decide_eq_true g3
    have hpl := plen pr
    refine ⟨_, pss_one (ps_ret (pe_ifExp (pt_cmpR op_gt (pe_callB call_len_seq (by rfl) B.len (by decide +kernel) (pa_cons (pe_fld (pv 0) rfl) pa_nil)) pe_int (nomark _))
      (pe_join pe_str (pe_lc (own := [("run", 1)]) (g := gName 1) (tt := tYes) rfl nd (pi_tup (pe_fld (pv 0) rfl)) (blkOk_by (N := nCoText) (sc := defScope sCoText) (by decide +kernel))
        (fun _ _ _ _ _ => pg_name (i := 1) nd rfl (Or.inl rfl)) (fun _ _ _ _ _ => pts_nil)
        (fun _ _ _ _ _ => pe_cal G hr (pa_cons (pv 1) pa_nil)))) (pe_glob (v := .str "-") (by rfl) mN ⟨_, rfl⟩))), ?_⟩
    refine ⟨_, rfl, a, C, dx, _, _, rfl, ha, T.cl, T.nR, rfl, r, xs, rfl, .inr hx, _, _, rfl, rfl, _, rfl, ?_⟩
    cases rs with
    | nil =>
      have e0 : xs = [] := by
        cases pr
        rfl
      subst e0
      exact iteF (q H (Evl.Ex.refl _))
    | cons q0 rs0 =>
      have hc : decide ((0 : Int) < (xs.length : Int)) = true := decide_eq_true (by rw [← hpl, List.length_cons]; omega)
      rw [hc]
      refine iteT ⟨⟨_, rfl⟩, _, rfl, a, C, dx, _, _, rfl, ha, T.cl, T.nR, rfl, r, rfl, ⟨_, hx⟩, ?_⟩
      refine lc_map (q0 :: rs0) (fun _ => true) (fun z v _ => v = .str (runT z)) (by rw [hpl]; exact walk_tup) (by omega) (fun H' e => ex_t e hx) (fun _ _ _ _ _ z => z) ?_ ?_
      · rintro i z x H1 H2 hz e1 ⟨rfl, hxi⟩ N1 N0 k1 k0
        obtain ⟨z', hz', hv⟩ := pget pr hxi
        rw [hz] at hz'
        obtain rfl := Option.some.inj hz'
        exact ⟨rfl, _, rfl, x, z, rfl, hv.ex e1, List.all_eq_true.mp g1 z (List.mem_of_getElem? hz), fun H3 e3 => k1 rfl _ _ e3 rfl⟩
      · intro D H2 ys hD e2 hd pk
        rw [filter_all] at pk
        have e := pmapEq pk
        have e2' : ys = ((q0 :: rs0).map runT).map V.str := by rw [e, List.map_map]; rfl
        subst e2'
        refine ⟨(" " : Str), D, (q0 :: rs0).map runT, rfl, rfl, .inl (.inl (.inl hd)), g3, ?_⟩
        have := q H2 e2
        unfold coT at this
        rw [if_neg (by rw [List.length_cons]; omega)] at this
        exact this
end
end K8

set_option maxRecDepth 100000
set_option maxHeartbeats 4000000
/-! Step.of, Script.of -/
namespace K8
open PySem PySem.Spec PyProof.Rows L2
open Evl (Ex ex_l ex_t sz_of sz_lt)
def stepN (b : Bool) (t : Str) : Option Stp := match numV (cutS t (some (((kindS b).length : Int) + 1)) none) with
  | none => none
  | some n => if 0 < n then some (b, n) else none
def stepV (t : Str) : Option Stp := if 900 < t.length then none else if Txt.startswith t (kindS true ++ (" " : Str)) = true then stepN true t else if Txt.startswith t (kindS false ++ (" " : Str)) = true then stepN false t else none
theorem stepN_of {b : Bool} {t : Str} {s : Stp} (h : stepN b t = some s) : s.1 = b ∧ 0 < s.2 ∧ numV (cutS t (some (((kindS b).length : Int) + 1)) none) = some s.2 := by
  unfold stepN at h
  split at h
  · cases h
  · rename_i n e
    split at h
    · rename_i hn
      cases h
      exact ⟨rfl, hn, e⟩
    · cases h
theorem stepV_of {t : Str} {s : Stp} (h : stepV t = some s) : t.length ≤ 900 ∧ 0 < s.2 ∧ ((Txt.startswith t (kindS true ++ (" " : Str)) = true ∧ s.1 = true ∧ numV (cutS t (some (((kindS true).length : Int) + 1)) none) = some s.2) ∨
    (Txt.startswith t (kindS true ++ (" " : Str)) = false ∧ Txt.startswith t (kindS false ++ (" " : Str)) = true ∧ s.1 = false ∧ numV (cutS t (some (((kindS false).length : Int) + 1)) none) = some s.2)) := by
  unfold stepV at h
  split at h
  · cases h
  · rename_i hl
    refine ⟨Nat.le_of_not_lt hl, ?_⟩
    split at h
    · rename_i h1
      obtain ⟨a, b, c⟩ := stepN_of h
      exact ⟨b, .inl ⟨h1, a, c⟩⟩
    · rename_i h1
      split at h
      · rename_i h2
        obtain ⟨a, b, c⟩ := stepN_of h
        exact ⟨b, .inr ⟨Bool.eq_false_iff.mpr h1, h2, a, c⟩⟩
      · cases h
def scV (t : Str) : Option (List Stp) := if (decide (t = ("-" : Str)) || decide (700 < t.length)) = true then none else allV stepV (Txt.split t ("; " : Str))
theorem scV_of {t : Str} {ss : List Stp} (h : scV t = some ss) : t ≠ ("-" : Str) ∧ t.length ≤ 700 ∧ allV stepV (Txt.split t ("; " : Str)) = some ss := by
  unfold scV at h
  split at h
  · cases h
  · rename_i hc
    rw [Bool.or_eq_true] at hc
    exact ⟨fun z => hc (.inl (decide_eq_true z)), Nat.le_of_not_lt fun z => hc (.inr (decide_eq_true z)), h⟩
section
variable {P : Program} {w : World} {K : PySem.W.Frag} {mg : Str → Option Value} {base : Heap} {C CC CS : Addr}
abbrev sStepOf : Stmt := inClass (top 35) 1
abbrev nStepOf : List Str := ["text", "kind", "least"]
theorem scStepOf : FnScope nStepOf ["text"] (defScope sStepOf) := ⟨rfl, rfl, rfl, by decide +kernel, rfl, by decide +kernel, by decide +kernel⟩
def spStepOf (CS : Addr) : Sp := fun vs H Q _ => ∃ (t : Str) (s : Stp), vs = [.str t] ∧ stepV t = some s ∧ ∀ v H', Ex H H' → StV CS H' v s → Q v H'
theorem kind_len (b : Bool) : (kindS b).length ≤ 10 := by cases b <;> decide +kernel
theorem ok_stepOf {f aK : Addr} {fd : FuncData} (F : FnP K "of" "Step.of" sStepOf [] f fd) (T : Bt mg) (mK : mg "KINDS" = some (.ref aK)) (hK : ∀ H, SqT K H aK [.str "town", .str "county"]) (G1 : Cal P w K mg base "number_in" 1 spNumber)
    (G2 : MkC P w K mg base "Step" CS 1 (spStepInit CS)) : FnOk P w K mg base CX0 3 f fd ["text"] (spStepOf CS) := by
  refine ok_of F scStepOf (fun vs H Q E h => ?_) (fun cdv A outer s H vs Q E hr h => ?_)
  · obtain ⟨t, n, rfl, _⟩ := h
    rfl
  · obtain ⟨t, ⟨b, n⟩, rfl, hs, q⟩ := h
    have nd := scStepOf.nd
    obtain ⟨hl, hn, hcs⟩ := stepV_of hs
    have hsz := sizeLine_eq
    have h1s : ((" " : Str)).length = 1 := by decide +kernel
    refine ⟨_, pss_cons (ps_for PassesOwn.never rfl (pi_tup (pe_glob (v := .ref aK) (by rfl) mK rfl)) (pg_name (i := 1) nd rfl (.inl rfl))
        (pss_one (ps_if (pt_val (pe_m1 PySem.F.slot_str_startswith PySem.F.type_str_startswith mt_startswith (pv 0) (pe_op op_add_str (pv 1) pe_str)))
          (pss_cons (ps_set (i := 2) nd rfl (.inl rfl) (pe_cal G1 (hr.mono (by decide)) (pa_cons (pe_slice sl_str (pv 0) (po_some (pe_op op_add (pe_callB call_len_str (by rfl) T.len (by decide +kernel) (pa_cons (pv 1) pa_nil)) pe_int)) po_none) pa_nil)))
          (pss_one (ps_if (PW.pt (pw_and (pt_cmpR op_notN (pv 2) pe_non (nomark _)) (pw_and1 (pt_cmpR op_gt (pv 2) pe_int (nomark _))))) (pss_one (ps_ret (pe_mk G2 hr (pa_cons (pv 1) (pa_cons (pv 2) pa_nil))))) pss_nil))) pss_nil)))
      (pss_one ps_never), ?_⟩
    refine ⟨aK, rfl, ⟨_, hK H⟩, ?_⟩
    refine for_it (walk_tup (xs := [.str (kindS true), .str (kindS false)])) (fun i σ H' => ∃ y1 y2, σ = [some (.str t), y1, y2] ∧ Ex H H' ∧ (i = 0 ∨ (i = 1 ∧ Txt.startswith t (kindS true ++ (" " : Str)) = false)))
      ⟨none, none, rfl, Evl.Ex.refl _, .inl rfl⟩ (fun i σ H' _ z => hK H') ?_ ?_
    · rintro i x σ H' H'' hi ⟨y1, y2, rfl, e1, hi01⟩ ⟨rfl, hxi⟩
      rcases hi01 with rfl | ⟨rfl, hf⟩
      · obtain rfl := Option.some.inj hxi
        have hk := kind_len true
        refine ⟨_, rfl, ⟨t, rfl⟩, _, rfl, kindS true, (" " : Str), rfl, rfl, by omega, t, _, rfl, rfl, ?_⟩
        rcases hcs with ⟨h1, h2, h3⟩ | ⟨h1, h2, h3, h4⟩
        · have h2' : b = true := h2
          subst h2'
          refine ⟨true, by rw [h1], iteT ?_⟩
          refine ⟨_, rfl, _, rfl, kindS true, rfl, by omega, _, _, rfl, rfl, _, rfl, t, rfl, by omega, _, n, rfl, h3, fun H3 e3 => ?_⟩
          refine ⟨_, rfl, rfl, true, rfl, iteT ⟨_, rfl, n, 0, rfl, rfl, true, congrArg V.bl (decide_eq_true hn), iteT ⟨_, rfl, _, rfl, ?_⟩⟩⟩
          intro x dx2 hx2 hdx2 hne2
          refine ⟨x, dx2, (true, n), rfl, upd_same, hn, fun H4 e6 h4 => ⟨rfl, q _ _ ((e1.trans e3).trans (ex_made hx2 hdx2 e6)) ⟨x, dx2, rfl, h4⟩⟩⟩
        · refine ⟨false, by rw [h1], iteF ⟨_, _, rfl, e1, .inr ⟨rfl, h1⟩⟩⟩
      · obtain rfl := Option.some.inj hxi
        have hk := kind_len false
        refine ⟨_, rfl, ⟨t, rfl⟩, _, rfl, kindS false, (" " : Str), rfl, rfl, by omega, t, _, rfl, rfl, ?_⟩
        rcases hcs with ⟨h1, h2, h3⟩ | ⟨h1, h2, h3, h4⟩
        · rw [hf] at h1
          cases h1
        · have h3' : b = false := h3
          subst h3'
          refine ⟨true, by rw [h2], iteT ?_⟩
          refine ⟨_, rfl, _, rfl, kindS false, rfl, by omega, _, _, rfl, rfl, _, rfl, t, rfl, by omega, _, n, rfl, h4, fun H3 e3 => ?_⟩
          refine ⟨_, rfl, rfl, true, rfl, iteT ⟨_, rfl, n, 0, rfl, rfl, true, congrArg V.bl (decide_eq_true hn), iteT ⟨_, rfl, _, rfl, ?_⟩⟩⟩
          intro x dx2 hx2 hdx2 hne2
          refine ⟨x, dx2, (false, n), rfl, upd_same, hn, fun H4 e6 h4 => ⟨rfl, q _ _ ((e1.trans e3).trans (ex_made hx2 hdx2 e6)) ⟨x, dx2, rfl, h4⟩⟩⟩
    · rintro σ H' ⟨y1, y2, rfl, e1, hi01⟩
      rcases hi01 with h | ⟨h, _⟩
      · cases h
      · cases h

/-! ### Script.of -/
abbrev sScOf : Stmt := inClass (top 49) 1
abbrev nScOf : List Str := ["text", "part"]
theorem scScOf : FnScope nScOf ["text"] (defScope sScOf) := ⟨rfl, rfl, rfl, by decide +kernel, rfl, by decide +kernel, by decide +kernel⟩
def spScOf (K : PySem.W.Frag) (C CS : Addr) : Sp := fun vs H Q _ => ∃ (t : Str) (ss : List Stp), vs = [.str t] ∧ scV t = some ss ∧ ∀ v H', Ex H H' → ScV K C CS H' v ss → ss.length ≤ 800 → (∀ s ∈ ss, 1 ≤ s.2) → Q v H'
theorem ok_scOf {f : Addr} {fd : FuncData} {tk tk2 : Tok} (F : FnP K "of" "Script.of" sScOf [] f fd) (mN : mg "NOTHING" = some (.str "-" tk)) (mB : mg "BETWEEN" = some (.str "; " tk2)) (G1 : StC P w K mg base "Step" "of" 3 (spStepOf CS))
    (G2 : MkC P w K mg base "Script" C 5 (spScInit K C CS)) : FnOk P w K mg base CX0 7 f fd ["text"] (spScOf K C CS) := by
  refine ok_of F scScOf (fun vs H Q E h => ?_) (fun cdv A outer s H vs Q E hr h => ?_)
  · obtain ⟨t, n, rfl, _⟩ := h
    rfl
  · obtain ⟨t, ss, rfl, hs, q⟩ := h
    have nd := scScOf.nd
    obtain ⟨hne, hl, hall⟩ := scV_of hs
    have hsz := sizeLine_eq
    have hln : (Txt.split t ("; " : Str)).length ≤ 702 := Nat.le_trans (PyProof.Rows.split_le t _) (by omega)
    have hsl := all_len hall
    have hpos : ∀ s ∈ ss, 1 ≤ s.2 := fun s hs => all_each (p := fun s : Stp => 1 ≤ s.2) (fun a b hab => (stepV_of hab).2.1) hall s hs
    refine ⟨_, pss_cons (ps_if (pt_cmpR op_eq (pv 0) (pe_glob (v := .str "-") (by rfl) mN ⟨_, rfl⟩) (nomark _)) (pss_one ps_never) pss_nil)
      (pss_one (ps_ret (pe_mk G2 hr (pa_cons
        (pe_lc (own := [("part", 1)]) (g := gName 1) (tt := tYes) rfl nd (pi_list (pe_split (pv 0) (pe_glob (v := .str "; ") (by rfl) mB ⟨_, rfl⟩))) (blkOk_by (N := nScOf) (sc := defScope sScOf) (by decide +kernel))
          (fun _ _ _ _ _ => pg_name (i := 1) nd rfl (Or.inl rfl)) (fun _ _ _ _ _ => pts_nil)
          (fun _ _ _ _ _ => pe_st G1 (hr.mono (by decide)) (pa_cons (pv 1) pa_nil))) pa_nil)))), ?_⟩
    refine ⟨_, rfl, rfl, false, (by rw [decide_eq_false]; exact fun z => hne (V.str.inj z)), iteF ⟨_, rfl, ⟨t, rfl⟩, t, ("; " : Str), rfl, rfl, rfl, by omega, fun p0 hp0 => ⟨p0, rfl, ⟨_, lst_new⟩, ?_⟩⟩⟩
    have e0 : Ex H (upd H p0 (.lst ((Txt.split t ("; " : Str)).map V.str))) := ex_new hp0
    refine lc_map (Txt.split t ("; " : Str)) (fun _ => true) (fun z v H => ∃ q, stepV z = some q ∧ StV CS H v q) (by rw [← List.length_map (f := V.str)]; exact walk_list) (by omega) (fun H' e => ex_l e lst_new) (fun _ _ _ _ e ⟨n, a, b⟩ => ⟨n, a, b.exn e⟩) ?_ ?_
    · rintro i z x H1 H2 hz e1 ⟨rfl, hx⟩ N1 N0 k1 k0
      rw [List.getElem?_map, hz] at hx
      obtain rfl := Option.some.inj hx
      obtain ⟨n, hn⟩ := all_mem hall z (List.mem_of_getElem? hz)
      exact ⟨rfl, _, rfl, z, n, rfl, hn, fun v H3 e3 h3 => k1 rfl _ _ e3 ⟨n, hn, h3⟩⟩
    · intro D H2 ys hD e2 hd pk
      rw [filter_all] at pk
      have pk2 : Paired (fun s v => StV CS H2 v s) ss ys := all_get hall pk
      have e02 := e0.trans e2
      intro x dx2 hx2 hdx2 hne2
      have e5 : Ex H2 (upd (upd H2 dx2 (.own x)) x (.ins C dx2 [])) := fun b o h => by
        rw [upd_ne (ne_of_none h hx2), upd_ne (ne_of_none h hdx2)]
        exact h
      refine ⟨x, dx2, D, ss, rfl, upd_same, .inl ⟨ys, .inl (.inl (e5 _ _ hd)), pmono pk2 fun _ _ z => z.ex e5⟩, by omega, fun r f2 H4 e6 h4 h5 h6 => ⟨rfl, ?_⟩⟩
      exact q _ _ (e02.trans (ex_made hx2 hdx2 e6)) ⟨x, dx2, r, f2, rfl, h4, h5, h6⟩ (by omega) hpos
end
end K8

set_option maxRecDepth 100000
set_option maxHeartbeats 4000000
/-! the law's draws: box, take, of -/
namespace K8
open PySem PySem.Spec PyProof.Rows L2
open Evl (Ex ex_l ex_t sz_of sz_lt)
/-- a source of draws at u, so many mixed ones drawn -/
def UrnAt (H : Hp) (u : Addr) (c : Int) : Prop := ∃ a b : Int, H u = some (.lst [.int a, .int b, .int c]) ∧ 0 ≤ c
theorem exb_refl (p : Addr) (H : Hp) : ExB p H H := fun _ _ h _ => h
theorem exb_trans {p : Addr} {H H1 H2 : Hp} (a : ExB p H H1) (b : ExB p H1 H2) : ExB p H H2 := fun x o h n => b x o (a x o h n) n
theorem exb_of {p : Addr} {H H1 : Hp} (a : Ex H H1) : ExB p H H1 := fun x o h _ => a x o h
theorem exb_upd {p : Addr} {H : Hp} {x : HO} : ExB p H (upd H p x) := fun b o h n => by rw [upd_ne n]; exact h
theorem exb_exn {p : Addr} {H H1 : Hp} {xs : List V} (a : ExB p H H1) (h : H p = some (.lst xs)) : ExN H H1 := fun b o e n => a b o e fun z => by
  rw [z, h] at e
  exact n xs (Option.some.inj e).symm
theorem UrnAt.exn {H H1 : Hp} {u : Addr} {c : Int} (h : UrnAt H u c) (e : ExB u H H1) : ExN H H1 := let ⟨_, _, a, _⟩ := h; exb_exn e a
theorem UrnAt.ex {H H1 : Hp} {u : Addr} {c : Int} (h : UrnAt H u c) (e : Ex H H1) : UrnAt H1 u c := let ⟨x, y, a, b⟩ := h; ⟨x, y, e _ _ a, b⟩
/-- new but for the urn: all stays -/
theorem exb_ex {p : Addr} {H H1 : Hp} (a : ExB p H H1) (h : H p = none) : Ex H H1 := fun b o e => a b o e (ne_of_none e h)
theorem at_pos {α : Type} {xs : List α} {k : Int} {v : α} (h0 : 0 ≤ k) (h : xs[k.toNat]? = some v) : atI xs k = some v := by
  obtain ⟨hk, _⟩ := List.getElem?_eq_some_iff.mp h
  unfold atI ixN
  rw [if_pos h0, if_pos (by omega)]
  exact h
theorem bit_lim : ∀ b : Bool, (-(2 ^ 64 : Int) < (if b = true then 1 else 0) ∧ (if b = true then (1 : Int) else 0) < 2 ^ 64) := by
  intro b
  cases b <;> decide
section
variable {P : Program} {w : World} {K : PySem.W.Frag} {mg : Str → Option Value} {base : Heap} {C CC CS : Addr}
abbrev sBox : Stmt := top 51
abbrev nBox : List Str := ["_law_script", "_law_k", "_law_cell"]
theorem scBox : FnScope nBox ["_law_script", "_law_k"] (defScope sBox) := ⟨rfl, rfl, rfl, by decide +kernel, rfl, by decide +kernel, by decide +kernel⟩
def spBox (K : PySem.W.Frag) : Sp := fun vs H Q _ => ∃ (s : Addr) (ns : List Int) (k : Int), vs = [.ref s, .int k] ∧ SqL K H s (ns.map V.int) ∧ 0 ≤ k ∧ k < 1000 ∧ ∀ u H', Ex H H' → H u = none → UrnAt H' u 0 → Q (.ref u) H'
theorem ok_box {f : Addr} {fd : FuncData} (F : FnP K "_law_box" "_law_box" sBox [] f fd) (T : Bt mg) : FnOk P w K mg base CX0 1 f fd ["_law_script", "_law_k"] (spBox K) := by
  refine ok_of F scBox (fun vs H Q E h => ?_) (fun cdv A outer s H vs Q E hr h => ?_)
  · obtain ⟨s0, ns, k, rfl, _⟩ := h
    rfl
  · obtain ⟨s0, ns, k, rfl, hs, h0, h1, q⟩ := h
    have nd := scBox.nd
    refine ⟨_, pss_cons (ps_set (i := 2) nd rfl (.inl rfl) (pe_ifExp (pt_cmpR op_lt (pv 1) (pe_callB call_len_seq (by rfl) T.len (by decide +kernel) (pa_cons (pv 0) pa_nil)) (nomark _)) (pe_ix ix_list (pv 0) (pv 1) (fun _ _ => rfl)) pe_int))
      (pss_one (ps_ret (pe_lst (pa_cons (pe_op op_mul (pe_callB call_abs (by rfl) T.abs (by decide +kernel) (pa_cons (pv 2) pa_nil)) (pe_callTy call_int1 (by rfl) T.int (by decide +kernel) (pa_cons
          (pe_cmpR op_ge (pe_callB call_abs (by rfl) T.abs (by decide +kernel) (pa_cons (pv 2) pa_nil)) (pe_op op_pow pe_int pe_int) (nomark _)) pa_nil)))
        (pa_cons (pe_op op_add (pe_op op_add (pe_op op_mod (pe_callTy call_int1 (by rfl) T.int (by decide +kernel) (pa_cons (pv 2) pa_nil)) pe_int) (pe_op op_mul pe_int (pv 1))) pe_int) (pa_cons pe_int pa_nil)))))), ?_⟩
    have fin : ∀ n : Int, tRet (tLst (tCons (tOp (rI CMul fun i j => .int (i * j)) (tCB (fun xs H Q => ∃ i, xs = [.int i] ∧ Q (.int (if i < 0 then -i else i)) H) (tCons (tVar 2) tNil)) (tCB (fun xs H Q => (∃ i, xs = [.int i] ∧ Q (.int i) H) ∨ ∃ k, xs = [.bl k] ∧ Q (.int (if k then 1 else 0)) H) (tCons
        (tOp (rI0 fun i j => .bl (decide (j ≤ i))) (tCB (fun xs H Q => ∃ i, xs = [.int i] ∧ Q (.int (if i < 0 then -i else i)) H) (tCons (tVar 2) tNil)) (tOp (rI CPow fun i j => .int (i ^ j.toNat)) (tC (.int 10)) (tC (.int 18)))) tNil)))
        (tCons (tOp (rI0 fun i j => .int (i + j)) (tOp (rI0 fun i j => .int (i + j)) (tOp (rI (fun _ j => 0 < j) fun i j => .int (i % j)) (tCB (fun xs H Q => (∃ i, xs = [.int i] ∧ Q (.int i) H) ∨ ∃ k, xs = [.bl k] ∧ Q (.int (if k then 1 else 0)) H) (tCons (tVar 2) tNil)) (tC (.int 2305843009213693951)))
          (tOp (rI CMul fun i j => .int (i * j)) (tC (.int 39373)) (tVar 1))) (tC (.int 8628008))) (tCons (tC (.int 0)) tNil)))) { nx := fun _ H' => Q .non H', rt := Q } [some (.ref s0), some (.int k), some (.int n)] H := by
      intro n
      refine ⟨_, rfl, n, rfl, _, rfl, n, rfl, _, _, rfl, rfl, ⟨by decide, by decide, by decide⟩, _, _, rfl, rfl, .inr ⟨_, rfl, _, _, rfl, rfl, .inr (bit_lim _), ?_⟩⟩
      refine ⟨_, rfl, .inl ⟨n, rfl, _, _, rfl, rfl, (by show (0 : Int) < 2305843009213693951; decide), _, rfl, _, _, rfl, rfl, .inl (by decide), _, _, rfl, rfl, _, _, rfl, rfl, (by show 3 ≤ sizeLine; decide), fun p hp => ?_⟩⟩
      exact q p _ (ex_new hp) hp ⟨_, _, upd_same, Int.le_refl _⟩
    refine ⟨_, rfl, _, rfl, s0, _, rfl, .inl hs, _, _, rfl, rfl, _, rfl, ?_⟩
    rw [List.length_map]
    by_cases hk : k < (ns.length : Int)
    · rw [decide_eq_true hk]
      have hj : k.toNat < ns.length := by omega
      refine iteT ⟨_, rfl, _, rfl, s0, _, k, .int (ns[k.toNat]'hj), rfl, rfl, hs, at_pos h0 ?_, fin _⟩
      rw [List.getElem?_map, List.getElem?_eq_getElem hj]
      rfl
    · rw [decide_eq_false hk]
      exact iteF (fin 0)
end
end K8

set_option maxRecDepth 100000
set_option maxHeartbeats 4000000
/-! the law's draws: take, of -/
namespace K8
open PySem PySem.Spec PyProof.Rows L2
open Evl (Ex ex_l ex_t sz_of sz_lt)
section
variable {P : Program} {w : World} {K : PySem.W.Frag} {mg : Str → Option Value} {base : Heap} {C CC CS : Addr}
abbrev sTake : Stmt := top 52
abbrev nTake : List Str := ["_law_urn", "_law_low_so", "_law_drawn", "_law_once", "_law_far", "_law_twice"]
theorem scTake : FnScope nTake ["_law_urn", "_law_low_so"] (defScope sTake) := ⟨rfl, rfl, rfl, by decide +kernel, rfl, by decide +kernel, by decide +kernel⟩
def spTake : Sp := fun vs H Q _ => ∃ (u : Addr) (low c : Int), vs = [.ref u, .int low] ∧ UrnAt H u c ∧ c ≤ 1000000 ∧ 0 < low ∧ low < 1073741824 ∧ ∀ r c' H', 0 ≤ r → r < low → c' ≤ c + 1 → ExB u H H' → UrnAt H' u c' → Q (.int r) H'
theorem ok_take {f : Addr} {fd : FuncData} (F : FnP K "_law_take" "_law_take" sTake [] f fd) (T : Bt mg) : FnOk P w K mg base CX0 1 f fd ["_law_urn", "_law_low_so"] spTake := by
  refine ok_of F scTake (fun vs H Q E h => ?_) (fun cdv A outer s H vs Q E hr h => ?_)
  · obtain ⟨s0, ns, k, rfl, _⟩ := h
    rfl
  · obtain ⟨u, low, c, rfl, ⟨a, b, hu, hc0⟩, hc, hl0, hl1, q⟩ := h
    have nd := scTake.nd
    have emod : ∀ x : Int, 0 ≤ x % low ∧ x % low < low := fun x => ⟨Int.emod_nonneg _ (by omega), Int.emod_lt_of_pos _ hl0⟩
    have hfar : ∀ on : Int, -(2 ^ 64 : Int) < on % 40009 + 7 ∧ on % 40009 + 7 < 2 ^ 64 := fun on => by
      have hfr := Int.emod_nonneg on (show (40009 : Int) ≠ 0 by decide)
      have hfl := Int.emod_lt_of_pos on (show (0 : Int) < 40009 by decide)
      omega
    refine ⟨_, pss_cons (ps_if (pt_cmpR op_gt (pe_ix ix_list (pv 0) pe_int (fun _ _ => rfl)) pe_int (nomark _))
        (pss_cons (ps_set (i := 2) nd rfl (.inl rfl) (pe_op op_mod (pe_callTy call_int1 (by rfl) T.int (by decide +kernel) (pa_cons (pe_ix ix_list (pv 0) pe_int (fun _ _ => rfl)) pa_nil)) (pv 1)))
        (pss_cons (ps_asg (pe_op op_fdiv (pe_ix ix_list (pv 0) pe_int (fun _ _ => rfl)) (pv 1)) (pg_sub (pv 0) pe_int set_list))
        (pss_one (ps_ret (pv 2))))) pss_nil)
      (pss_cons (ps_asg (pe_op op_add (pe_ix ix_list (pv 0) pe_int (fun _ _ => rfl)) pe_int) (pg_sub (pv 0) pe_int set_list))
      (pss_cons (ps_set (i := 3) nd rfl (.inl rfl) (pe_op op_mod (pe_callTy call_int1 (by rfl) T.int (by decide +kernel) (pa_cons
          (pe_op op_mul (pe_op op_add (pe_ix ix_list (pv 0) pe_int (fun _ _ => rfl)) (pe_op op_mul pe_int (pe_ix ix_list (pv 0) pe_int (fun _ _ => rfl)))) (pe_op op_add pe_int (pe_ix ix_list (pv 0) pe_int (fun _ _ => rfl)))) pa_nil)) pe_int))
      (pss_cons (ps_set (i := 4) nd rfl (.inl rfl) (pe_op op_add (pe_op op_mod (pe_callTy call_int1 (by rfl) T.int (by decide +kernel) (pa_cons (pv 3) pa_nil)) pe_int) pe_int))
      (pss_cons (ps_set (i := 5) nd rfl (.inl rfl) (pe_op op_mod (pe_callTy call_int1 (by rfl) T.int (by decide +kernel) (pa_cons
          (pe_op op_mul (pe_op op_add (pe_op op_add (pv 3) (pe_ix ix_list (pv 0) pe_int (fun _ _ => rfl))) (pe_op op_fdiv (pe_ix ix_list (pv 0) pe_int (fun _ _ => rfl)) pe_int)) (pv 4)) pa_nil)) pe_int))
      (pss_one (ps_ret (pe_op op_mod (pe_callTy call_int1 (by rfl) T.int (by decide +kernel) (pa_cons
          (pe_op op_fdiv (pe_op op_mod (pe_callTy call_int1 (by rfl) T.int (by decide +kernel) (pa_cons (pe_op op_add (pe_op op_mul (pv 5) pe_int) (pv 3)) pa_nil)) pe_int) pe_int) pa_nil)) (pv 1)))))))), ?_⟩
    have hS : SqL K H u [.int a, .int b, .int c] := .inl (.inl hu)
    refine ⟨_, rfl, u, _, 0, _, rfl, rfl, hS, rfl, _, _, rfl, rfl, _, rfl, ite2 (fun ha => ?_) (fun ha => ?_)⟩
    · refine ⟨_, rfl, u, _, 0, _, rfl, rfl, hS, rfl, .inl ⟨a, rfl, _, rfl, _, _, rfl, rfl, hl0, ?_⟩⟩
      refine ⟨_, rfl, u, _, 0, _, rfl, rfl, hS, rfl, _, rfl, _, _, rfl, rfl, ⟨hl0, hl1⟩, ?_⟩
      refine ⟨_, rfl, u, _, 0, 0, rfl, rfl, hu, rfl, ?_⟩
      refine ⟨_, rfl, q (a % low) c _ (emod a).1 (emod a).2 (by omega) exb_upd ⟨_, _, upd_same, hc0⟩⟩
    · refine ⟨_, rfl, u, _, 2, _, rfl, rfl, hS, rfl, _, _, rfl, rfl, ?_⟩
      refine ⟨_, rfl, u, _, 2, 2, rfl, rfl, hu, rfl, ?_⟩
      have hu2 : upd H u (.lst ([V.int a, V.int b, V.int c].set 2 (V.int (c + 1)))) u = some (.lst [V.int a, V.int b, V.int (c + 1)]) := upd_same
      have hS2 : SqL K (upd H u (.lst ([V.int a, V.int b, V.int c].set 2 (V.int (c + 1))))) u [V.int a, V.int b, V.int (c + 1)] := .inl (.inl hu2)
      refine ⟨_, rfl, u, _, 1, _, rfl, rfl, hS2, rfl, _, rfl, u, _, 2, _, rfl, rfl, hS2, rfl, _, _, rfl, rfl, .inl (by decide), _, _, rfl, rfl, _, rfl, u, _, 2, _, rfl, rfl, hS2, rfl, _, _, rfl, rfl, _, _, rfl, rfl, .inr ?_, ?_⟩
      · show -(2 ^ 64 : Int) < 39373 + (c + 1) ∧ 39373 + (c + 1) < 2 ^ 64
        omega
      refine .inl ⟨_, rfl, _, _, rfl, rfl, (by show (0 : Int) < 2147483647; decide), ?_⟩
      refine ⟨_, rfl, .inl ⟨_, rfl, _, _, rfl, rfl, (by show (0 : Int) < 40009; decide), _, _, rfl, rfl, ?_⟩⟩
      refine ⟨_, rfl, _, rfl, u, _, 2, _, rfl, rfl, hS2, rfl, _, _, rfl, rfl, _, rfl, u, _, 1, _, rfl, rfl, hS2, rfl, _, _, rfl, rfl, ⟨by decide, by decide⟩, _, _, rfl, rfl, _, rfl, _, _, rfl, rfl, .inr (hfar _), ?_⟩
      refine .inl ⟨_, rfl, _, _, rfl, rfl, (by show (0 : Int) < 2147483629; decide), ?_⟩
      refine ⟨_, rfl, _, _, rfl, rfl, .inr (by decide), _, rfl, _, _, rfl, rfl, .inl ⟨_, rfl, _, _, rfl, rfl, (by show (0 : Int) < 2147483587; decide), _, _, rfl, rfl, ⟨by decide, by decide⟩, .inl ⟨_, rfl, _, rfl, _, _, rfl, rfl, hl0, ?_⟩⟩⟩
      exact q _ (c + 1) _ (emod _).1 (emod _).2 (Int.le_refl _) exb_upd ⟨_, _, hu2, by omega⟩
end
end K8

set_option maxRecDepth 100000
set_option maxHeartbeats 4000000
/-! the law's draws: of, lot, heap -/
namespace K8
open PySem PySem.Spec PyProof.Rows L2
open Evl (Ex ex_l ex_t sz_of sz_lt)
theorem ptake {α β : Type} {F : α → β → Prop} : ∀ {l : List α} {m : List β} (n : Nat), Paired F l m → Paired F (l.take n) (m.take n)
  | _, _, 0, _ => .nil
  | _, _, n + 1, .nil => .nil
  | _, _, n + 1, .cons r t => .cons r (ptake n t)
theorem pcut {α : Type} {F : α → V → Prop} {l : List α} {m : List V} (h : Paired F l m) (lo hi : Option Int) : ∃ l', Paired F l' (cutV m lo hi) ∧ (∀ x ∈ l', x ∈ l) ∧ l'.length ≤ l.length := by
  unfold cutV
  refine ⟨_, ptake _ (pdrop _ h), fun x hx => List.mem_of_mem_drop (List.mem_of_mem_take hx), ?_⟩
  rw [List.length_take, List.length_drop]
  omega
section
variable {P : Program} {w : World} {K : PySem.W.Frag} {mg : Str → Option Value} {base : Heap} {C CC CS : Addr}
abbrev sOf : Stmt := top 54
abbrev nOf : List Str := ["_law_urn", "_law_some_so"]
theorem scOf : FnScope nOf ["_law_urn", "_law_some_so"] (defScope sOf) := ⟨rfl, rfl, rfl, by decide +kernel, rfl, by decide +kernel, by decide +kernel⟩
def spOf : Sp := fun vs H Q _ => ∃ (u l : Addr) (c : Int) (xs : List V), vs = [.ref u, .ref l] ∧ UrnAt H u c ∧ c ≤ 1000000 ∧ l ≠ u ∧ H l = some (.lst xs) ∧ 0 < xs.length ∧ xs.length ≤ 1000 ∧ ∀ x c' H', x ∈ xs → c' ≤ c + 1 → ExB u H H' → UrnAt H' u c' → Q x H'
theorem ok_of54 {f : Addr} {fd : FuncData} (F : FnP K "_law_of" "_law_of" sOf [] f fd) (T : Bt mg) (G : Cal P w K mg base "_law_take" 1 spTake) : FnOk P w K mg base CX0 2 f fd ["_law_urn", "_law_some_so"] spOf := by
  refine ok_of F scOf (fun vs H Q E h => ?_) (fun cdv A outer s H vs Q E hr h => ?_)
  · obtain ⟨s0, ns, k, xs, rfl, _⟩ := h
    rfl
  · obtain ⟨u, l, c, xs, rfl, hu, hc, hne, hl, h0, h1, q⟩ := h
    refine ⟨_, pss_one (ps_ret (pe_ix ix_list (pv 1) (pe_cal G hr (pa_cons (pv 0) (pa_cons (pe_callB call_len_seq (by rfl) T.len (by decide +kernel) (pa_cons (pv 1) pa_nil)) pa_nil))) (fun _ _ => rfl))), ?_⟩
    refine ⟨_, rfl, _, rfl, _, rfl, l, xs, rfl, .inl (.inl (.inl hl)), u, _, c, rfl, hu, hc, by omega, by omega, fun r c' H' r0 r1 c1 e1 u1 => ?_⟩
    have hj : r.toNat < xs.length := by omega
    exact ⟨l, xs, r, xs[r.toNat]'hj, rfl, rfl, .inl (.inl (e1 _ _ hl hne)), at_pos r0 (List.getElem?_eq_getElem hj), q _ c' H' (List.getElem_mem hj) c1 e1 u1⟩

/-! ### lot -/
abbrev sLot : Stmt := top 57
abbrev nLot : List Str := ["_law_urn", "_law_most", "_law_high", "_law_pool", "_law_turn"]
theorem scLot : FnScope nLot ["_law_urn", "_law_most", "_law_high"] (defScope sLot) := ⟨rfl, rfl, rfl, by decide +kernel, rfl, by decide +kernel, by decide +kernel⟩
def spLot (K : PySem.W.Frag) : Sp := fun vs H Q _ => ∃ (u : Addr) (most high c : Int), vs = [.ref u, .int most, .int high] ∧ UrnAt H u c ∧ 0 ≤ most ∧ most ≤ 50 ∧ 0 < high ∧ high ≤ 1000 ∧ c + 3 * most + 10 ≤ 1000000 ∧
  ∀ r qs c' H', c' ≤ c + 3 * most + 1 → ExB u H H' → UrnAt H' u c' → PsT K H' r qs → Twn qs → Q (.ref r) H'
theorem ok_lot {f : Addr} {fd : FuncData} (F : FnP K "_law_lot" "_law_lot" sLot [] f fd) (T : Bt mg) (G1 : Cal P w K mg base "_law_take" 1 spTake) (G2 : Cal P w K mg base "_law_of" 2 spOf) (G3 : Cal P w K mg base "_law_sum" 1 (spSummed K)) : FnOk P w K mg base CX0 3 f fd ["_law_urn", "_law_most", "_law_high"] (spLot K) := by
  refine ok_of F scLot (fun vs H Q E h => ?_) (fun cdv A outer s H vs Q E hr h => ?_)
  · obtain ⟨s0, ns, k, xs, rfl, _⟩ := h
    rfl
  · obtain ⟨u, most, high, c, rfl, hu, m0, m1, h0, h1, hc, q⟩ := h
    have nd := scLot.nd
    have hsz := sizeLine_eq
    refine ⟨_, pss_cons (ps_setLc (i := 3) (own := [("_law_turn", 4)]) (g := gName 4) (tt := tYes) rfl nd rfl rfl (sw_true rfl rfl rfl (by decide +kernel))
        (pi_range1 (by rfl) T.range (pa_cons (pv 1) pa_nil)) (blkOk_by (N := nLot) (sc := defScope sLot) (by decide +kernel))
        (fun _ _ _ _ _ => pg_name (i := 4) nd rfl (Or.inl rfl)) (fun _ _ _ _ _ => pts_nil)
        (fun _ _ _ _ _ => pe_tup (pa_cons (pe_op op_add pe_int (pe_cal G1 (hr.mono (by decide)) (pa_cons (pv 0) (pa_cons (pv 2) pa_nil))))
          (pa_cons (pe_op op_add pe_int (pe_cal G1 (hr.mono (by decide)) (pa_cons (pv 0) (pa_cons (pe_cal G2 hr (pa_cons (pv 0) (pa_cons (pe_lst (pa_cons pe_int (pa_cons pe_int (pa_cons pe_int (pa_cons pe_int pa_nil))))) pa_nil))) pa_nil)))) pa_nil))))
      (pss_one (ps_ret (pe_cal G3 (hr.mono (by decide)) (pa_cons (pe_slice sl_list (pv 3) po_none (po_some (pe_cal G1 (hr.mono (by decide)) (pa_cons (pv 0) (pa_cons (pe_op op_add (pv 1) pe_int) pa_nil))))) pa_nil)))), ?_⟩
    refine ⟨_, rfl, most, rfl, by omega, by omega, fun D hD => ?_⟩
    have hDu : D ≠ u := fun z => by
      obtain ⟨_, _, h, _⟩ := hu
      rw [z, h] at hD
      cases hD
    refine lc_it (walk_range (lo := 0) (n := most.toNat)) (fun i H' => ExB u H H' ∧ (∃ c', c' ≤ c + 3 * (i : Int) ∧ UrnAt H' u c') ∧ ∃ ys qs, H' D = some (.lst ys) ∧ qs.length = i ∧ (∀ z ∈ qs, 1 ≤ z.1 ∧ z.1 ≤ 1000 ∧ 1 ≤ z.2) ∧ Paired (fun z v => PrV K H' v z) qs ys)
      ⟨exb_of (ex_new hD), ⟨c, by omega, hu.ex (ex_new hD)⟩, [], [], upd_same, rfl, (fun _ h => nomatch h), .nil⟩ (fun _ _ _ _ => trivial) ?_ ?_
    · rintro i x H1 H2 hi ⟨e1, ⟨c1, hc1, u1⟩, ys, qs, hd, hl, hb, pr⟩ ⟨rfl, rfl⟩
      have hd1 := hd
      refine ⟨rfl, _, rfl, _, rfl, u, high, c1, rfl, u1, by omega, by omega, by omega, fun r2 c2 H3 r20 r21 hc2 e2 u2 => ⟨_, _, rfl, rfl, ?_⟩⟩
      refine ⟨_, rfl, _, rfl, (by show 4 ≤ sizeLine; omega), fun l hl2 => ⟨u, l, c2, _, rfl, u2.ex (ex_new hl2), by omega, fun z => ?_, upd_same, by show 0 < 4; decide, by show 4 ≤ 1000; decide, fun x c3 H4 hx hc3 e3 u3 => ?_⟩⟩
      · obtain ⟨_, _, h, _⟩ := u2
        rw [z, h] at hl2
        cases hl2
      have e3' : ExB u H3 H4 := exb_trans (exb_of (ex_new hl2)) e3
      obtain ⟨n, hn0, hn1, rfl⟩ : ∃ n : Int, 1 ≤ n ∧ n ≤ 4 ∧ x = .int n := by
        simp only [List.mem_cons, List.not_mem_nil, or_false] at hx
        rcases hx with rfl | rfl | rfl | rfl <;> exact ⟨_, by decide, by decide, rfl⟩
      refine ⟨u, n, c3, rfl, u3, by omega, by omega, by omega, fun r4 c4 H5 r40 r41 hc4 e4 u4 => ⟨_, _, rfl, rfl, (by show 2 ≤ sizeLine; omega), fun t ht => ?_⟩⟩
      have E := exb_trans (exb_trans e2 e3') e4
      have e5 : Ex H5 (upd H5 t (.tup [.int (1 + r2), .int (1 + r4)])) := ex_new ht
      have hd5 := e5 _ _ (E _ _ hd hDu)
      have l1 := plen pr
      refine ⟨ys, hd5, sz_lt (by omega), fun b o hb2 hbu => ?_, ⟨c4, by omega, ?_⟩, ys ++ [.ref t], qs ++ [(1 + r2, 1 + r4)], upd_same, by rw [List.length_append, hl]; rfl, fun z hz => ?_, ?_⟩
      · rw [upd_ne (ne_of_none hb2 hD)]
        exact e5 _ _ (E _ _ (e1 _ _ hb2 hbu) hbu)
      · obtain ⟨xa, xb, h5, h6⟩ := u4.ex e5
        exact ⟨xa, xb, by rw [upd_ne (fun z => hDu z.symm)]; exact h5, h6⟩
      · rcases List.mem_append.mp hz with hz | hz
        · exact hb z hz
        · rw [List.mem_singleton.mp hz]
          exact ⟨by show 1 ≤ 1 + r2; omega, by show 1 + r2 ≤ 1000; omega, by show 1 ≤ 1 + r4; omega⟩
      · have en := u1.exn E
        have em := ExN.mut (ys := ys ++ [V.ref t]) hd5
        exact papp (pmono pr fun _ _ z => z.exn ((en.trans (ExN.of e5)).trans em)) (.cons ⟨t, rfl, exn_t em tup_new⟩ .nil)
    · rintro H1 ⟨e1, ⟨c1, hc1, u1⟩, ys, qs, hd, hl, hb, pr⟩
      refine ⟨_, rfl, _, rfl, _, rfl, _, _, rfl, rfl, u, _, c1, rfl, u1, by omega, by omega, by omega, fun r2 c2 H3 r20 r21 hc2 e2 u2 => ⟨_, rfl, ?_⟩⟩
      have hd3 := e2 _ _ hd hDu
      refine ⟨D, ys, rfl, .inl (.inl hd3), fun l hl2 => ?_⟩
      have e3 := ex_new (o := .lst (cutV ys none (some r2))) hl2
      obtain ⟨qs2, pr2, sub, len2⟩ := pcut (pmono pr fun _ _ z => (PrV.exn (u1.exn e2) z).ex e3) none (some r2)
      refine ⟨l, qs2, rfl, .inl ⟨_, lst_new, pr2⟩, by omega, fun r3 qs3 H4 e4 h4 hs => ?_⟩
      refine q r3 qs3 c2 H4 (by omega) (exb_trans (exb_trans e1 e2) (exb_of (e3.trans e4))) (u2.ex (e3.trans e4)) h4 ⟨hs.pos fun z hz => ⟨(hb z (sub z hz)).1, (hb z (sub z hz)).2.2⟩, hs.up, fun z hz => ?_, ?_⟩
      · obtain ⟨p, hp, e⟩ := hs.src z hz
        have := (hb p (sub p hp)).2.1
        omega
      · have := hs.len
        omega

/-! ### heap -/
abbrev sHeap : Stmt := top 58
abbrev nHeap : List Str := ["_law_lot_here", "_law_low", "_law_size_so", "_law_much"]
theorem scHeap : FnScope nHeap ["_law_lot_here", "_law_low"] (defScope sHeap) := ⟨rfl, rfl, rfl, by decide +kernel, rfl, by decide +kernel, by decide +kernel⟩
def spHeap (K : PySem.W.Frag) : Sp := fun vs H Q _ => ∃ (a : Addr) (rs : Prs) (k : Int), vs = [.ref a, .int k] ∧ PsT K H a rs ∧ Twn rs ∧ ∀ H', Ex H H' → Q (.int (fromF rs k)) H'
theorem ok_heap {f : Addr} {fd : FuncData} (F : FnP K "_law_heap" "_law_heap" sHeap [] f fd) (B : Bt mg) : FnOk P w K mg base CX0 1 f fd ["_law_lot_here", "_law_low"] (spHeap K) := by
  refine ok_of F scHeap (fun vs H Q E h => ?_) (fun cdv A outer s H vs Q E hr h => ?_)
  · obtain ⟨v, rs, k, rfl, _⟩ := h
    rfl
  · obtain ⟨r, rs, k, rfl, hrs, ht, q⟩ := h
    have nd := scHeap.nd
    refine ⟨_, pss_one (ps_ret (pe_callB (cr_sum rfl) (by rfl) B.sum (by decide +kernel) (pa_cons
      (pe_lc (own := [("_law_size_so", 2), ("_law_much", 3)]) (g := gPr K 2 3) (tt := tTest (tOp (rI0 fun i j => .bl (decide (j ≤ i))) (tVar 2) (tVar 1))) rfl nd (pi_tup (pv 0)) (blkOk_by (N := nHeap) (sc := defScope sHeap) (by decide +kernel))
        (fun _ _ _ _ _ => pg_tup rfl (pgs_cons (pg_name (i := 2) nd rfl (Or.inl rfl)) (pgs_cons (pg_name (i := 3) nd rfl (Or.inl rfl)) pgs_nil))) (fun _ _ _ _ _ => pts_one (pt_cmpR op_ge (pv 2) (pv 1) (nomark _)))
        (fun _ _ _ _ _ => pe_op op_mul (pv 2) (pv 3))) pa_nil))), ?_⟩
    refine ⟨_, rfl, r, rfl, lc_prTI rs (fun z => decide (k ≤ z.1)) (fun q => q.1 * q.2) hrs (by have := ht.len; omega) (fun _ _ => rfl) (fun p H1 hpm e1 N1 N0 h1 h0 => ?_) fun D H2 hD e2 hd => ?_⟩
    · refine ⟨_, rfl, _, rfl, _, _, rfl, rfl, _, rfl, ?_⟩
      cases hc : decide (k ≤ p.1) with
      | true => exact ⟨_, rfl, _, rfl, _, _, rfl, rfl, cmul_of (ht.pos p hpm).1 (ht.bd p hpm), h1 hc _ (Evl.Ex.refl _)⟩
      | false => exact h0 hc _ (Evl.Ex.refl _)
    · exact ⟨D, _, rfl, .inl (.inl hd), q _ e2⟩
end
end K8

set_option maxRecDepth 100000
set_option maxHeartbeats 4000000
/-! the law's draws: line, host -/
namespace K8
open PySem PySem.Spec PyProof.Rows L2
open Evl (Ex ex_l ex_t sz_of sz_lt)
/-- a drawn step: its kind and its number -/
def LnP (K : PySem.W.Frag) (H : Hp) (x : V) (s : Stp) : Prop := ∃ T, x = V.ref T ∧ SqT K H T [.str (kindS s.1), .int s.2]
def LnT (K : PySem.W.Frag) (H : Hp) (a : Addr) (ss : List Stp) : Prop := ∃ xs, SqT K H a xs ∧ Paired (fun s x => LnP K H x s) ss xs
theorem LnP.exn {K : PySem.W.Frag} {H H' : Hp} {x : V} {q : Stp} (e : ExN H H') (h : LnP K H x q) : LnP K H' x q := let ⟨T, a, b⟩ := h; ⟨T, a, exn_t e b⟩
theorem LnP.ex {K : PySem.W.Frag} {H H' : Hp} {x : V} {q : Stp} (e : Ex H H') (h : LnP K H x q) : LnP K H' x q := h.exn (ExN.of e)
theorem LnT.exn {K : PySem.W.Frag} {H H' : Hp} {a : Addr} {ps : List Stp} (e : ExN H H') (h : LnT K H a ps) : LnT K H' a ps := let ⟨xs, a, b⟩ := h; ⟨xs, exn_t e a, pmono b fun _ _ z => z.exn e⟩
theorem LnT.ex {K : PySem.W.Frag} {H H' : Hp} {a : Addr} {ps : List Stp} (e : Ex H H') (h : LnT K H a ps) : LnT K H' a ps := h.exn (ExN.of e)
section
variable {P : Program} {w : World} {K : PySem.W.Frag} {mg : Str → Option Value} {base : Heap} {C CC CS : Addr}
abbrev sLine : Stmt := top 59
abbrev nLine : List Str := ["_law_urn", "_law_most", "_law_high", "_law_found", "_law_turn", "_law_kind_so"]
theorem scLine : FnScope nLine ["_law_urn", "_law_most", "_law_high"] (defScope sLine) := ⟨rfl, rfl, rfl, by decide +kernel, rfl, by decide +kernel, by decide +kernel⟩
def spLine (K : PySem.W.Frag) : Sp := fun vs H Q _ => ∃ (u : Addr) (most high c : Int), vs = [.ref u, .int most, .int high] ∧ UrnAt H u c ∧ 0 ≤ most ∧ most ≤ 50 ∧ 0 < high ∧ high ≤ 500 ∧ c + 2 * most + 10 ≤ 1000000 ∧
  ∀ r ss c' H', c' ≤ c + 2 * most + 1 → ExB u H H' → UrnAt H' u c' → LnT K H' r ss → (ss.length : Int) ≤ most → (∀ s ∈ ss, 1 ≤ s.2 ∧ s.2 ≤ 2 * high) → Q (.ref r) H'
theorem ok_line {f : Addr} {fd : FuncData} (F : FnP K "_law_line" "_law_line" sLine [] f fd) (T : Bt mg) (G1 : Cal P w K mg base "_law_take" 1 spTake) (G2 : Cal P w K mg base "_law_of" 2 spOf) : FnOk P w K mg base CX0 3 f fd ["_law_urn", "_law_most", "_law_high"] (spLine K) := by
  refine ok_of F scLine (fun vs H Q E h => ?_) (fun cdv A outer s H vs Q E hr h => ?_)
  · obtain ⟨s0, ns, k, xs, rfl, _⟩ := h
    rfl
  · obtain ⟨u, most, high, c, rfl, hu, m0, m1, h0, h1, hc, q⟩ := h
    have nd := scLine.nd
    have hsz := sizeLine_eq
    refine ⟨_, pss_cons (ps_set (i := 3) nd rfl (.inl rfl) (pe_lst pa_nil))
      (pss_cons (ps_for PassesOwn.never rfl (pi_range1 (by rfl) T.range (pa_cons (pe_cal G1 (hr.mono (by decide)) (pa_cons (pv 0) (pa_cons (pe_op op_add (pv 1) pe_int) pa_nil))) pa_nil)) (pg_name (i := 4) nd rfl (.inl rfl))
        (pss_cons (ps_set (i := 5) nd rfl (.inl rfl) (pe_cal G2 hr (pa_cons (pv 0) (pa_cons (pe_lst (pa_cons pe_str (pa_cons pe_str (pa_cons pe_str pa_nil)))) pa_nil))))
        (pss_one (ps_expr (pe_bm PySem.F.plainAttrs_list PySem.F.slot_list_append PySem.F.type_list_append mt_append (pv 3) (pa_cons (pe_tup (pa_cons (pv 5) (pa_cons (pe_op op_add pe_int (pe_cal G1 (hr.mono (by decide))
          (pa_cons (pv 0) (pa_cons (pe_ifExp (pt_cmpR op_eq (pv 5) pe_str (nomark _)) (pv 2) (pe_op op_mul pe_int (pv 2))) pa_nil)))) pa_nil))) pa_nil))))))
      (pss_one (ps_ret (pe_callTy call_tuple_of (by rfl) T.tuple (by decide +kernel) (pa_cons (pv 3) pa_nil))))), ?_⟩
    refine ⟨Nat.zero_le _, fun o ho => ?_⟩
    have e0 : Ex H (upd H o (.lst [])) := ex_new ho
    have hou : o ≠ u := fun z => by
      obtain ⟨_, _, h, _⟩ := hu
      rw [z, h] at ho
      cases ho
    refine ⟨_, rfl, _, rfl, _, _, rfl, rfl, u, _, c, rfl, hu.ex e0, by omega, by omega, by omega, fun r c1 H1 r0 r1 hc1 e1 u1 => ⟨r, rfl, by omega, by omega, ?_⟩⟩
    refine for_it (walk_range (lo := 0) (n := r.toNat)) (fun i σ H' => ∃ y4 y5, σ = [some (.ref u), some (.int most), some (.int high), some (.ref o), y4, y5] ∧ ExB u H H' ∧ (∃ c', c' ≤ c1 + 2 * (i : Int) ∧ UrnAt H' u c') ∧
        ∃ ys ss, H' o = some (.lst ys) ∧ ss.length = i ∧ (∀ z ∈ ss, 1 ≤ z.2 ∧ z.2 ≤ 2 * high) ∧ Paired (fun z v => LnP K H' v z) ss ys)
      ⟨none, none, rfl, exb_trans (exb_of e0) e1, ⟨c1, by omega, u1⟩, [], [], e1 _ _ upd_same hou, rfl, (fun _ h => nomatch h), .nil⟩ (fun _ _ _ _ _ => trivial) ?_ ?_
    · rintro i x σ H2 H3 hi ⟨y4, y5, rfl, e2, ⟨c2, hc2, u2⟩, ys, ss, hd, hl, hb, pr⟩ ⟨rfl, rfl⟩
      refine ⟨_, rfl, (by show 3 ≤ sizeLine; omega), fun l hl2 => ⟨u, l, c2, _, rfl, u2.ex (ex_new hl2), by omega, fun z => ?_, upd_same, by show 0 < 3; decide, by show 3 ≤ 1000; decide, fun x c3 H4 hx hc3 e3 u3 => ?_⟩⟩
      · obtain ⟨_, _, h, _⟩ := u2
        rw [z, h] at hl2
        cases hl2
      have e3' := exb_trans (exb_of (p := u) (ex_new hl2)) e3
      obtain ⟨b, rfl⟩ : ∃ b : Bool, x = .str (kindS b) := by
        simp only [List.mem_cons, List.not_mem_nil, or_false] at hx
        rcases hx with rfl | rfl | rfl
        · exact ⟨true, rfl⟩
        · exact ⟨false, rfl⟩
        · exact ⟨false, rfl⟩
      have hd4 := e3' _ _ hd hou
      have key : ∀ hi2 : Int, 0 < hi2 → hi2 ≤ 2 * high → ∀ r4 c4 H5, 0 ≤ r4 → r4 < hi2 → c4 ≤ c3 + 1 → ExB u H4 H5 → UrnAt H5 u c4 → ∀ t, H5 t = none →
          ∃ ys', upd H5 t (.tup [.str (kindS b), .int (1 + r4)]) o = some (.lst ys') ∧ ys'.length < sizeLine ∧ ∃ y4 y5, [some (.ref u), some (.int most), some (.int high), some (.ref o), some (V.int (0 + (i : Int))), some (V.str (kindS b))] = [some (.ref u), some (.int most), some (.int high), some (.ref o), y4, y5] ∧
            ExB u H (upd (upd H5 t (.tup [.str (kindS b), .int (1 + r4)])) o (.lst (ys' ++ [.ref t]))) ∧ (∃ c', c' ≤ c1 + 2 * ((i + 1 : Nat) : Int) ∧ UrnAt (upd (upd H5 t (.tup [.str (kindS b), .int (1 + r4)])) o (.lst (ys' ++ [.ref t]))) u c') ∧
            ∃ ys2 ss2, (upd (upd H5 t (.tup [.str (kindS b), .int (1 + r4)])) o (.lst (ys' ++ [.ref t]))) o = some (.lst ys2) ∧ ss2.length = i + 1 ∧ (∀ z ∈ ss2, 1 ≤ z.2 ∧ z.2 ≤ 2 * high) ∧
              Paired (fun z v => LnP K (upd (upd H5 t (.tup [.str (kindS b), .int (1 + r4)])) o (.lst (ys' ++ [.ref t]))) v z) ss2 ys2 := by
        intro hi2 hh0 hh1 r4 c4 H5 r40 r41 hc4 e4 u4 t ht
        have E := exb_trans e3' e4
        have e5 : Ex H5 (upd H5 t (.tup [.str (kindS b), .int (1 + r4)])) := ex_new ht
        have hd5 := e5 _ _ (E _ _ hd hou)
        have l1 := plen pr
        have em := ExN.mut (ys := ys ++ [V.ref t]) hd5
        refine ⟨ys, hd5, sz_lt (by omega), _, _, rfl, fun b o2 hb2 hbu => ?_, ⟨c4, by omega, ?_⟩, ys ++ [.ref t], ss ++ [(b, 1 + r4)], upd_same, by rw [List.length_append, hl]; rfl, fun z hz => ?_, ?_⟩
        · rw [upd_ne (ne_of_none hb2 ho)]
          exact e5 _ _ (E _ _ (e2 _ _ hb2 hbu) hbu)
        · obtain ⟨xa, xb, h5, h6⟩ := u4.ex e5
          exact ⟨xa, xb, by rw [upd_ne (fun z => hou z.symm)]; exact h5, h6⟩
        · rcases List.mem_append.mp hz with hz | hz
          · exact hb z hz
          · rw [List.mem_singleton.mp hz]
            exact ⟨by show 1 ≤ 1 + r4; omega, by show 1 + r4 ≤ 2 * high; omega⟩
        · have en := u2.exn E
          exact papp (pmono pr fun _ _ z => z.exn ((en.trans (ExN.of e5)).trans em)) (.cons ⟨t, rfl, exn_t em tup_new⟩ .nil)
      refine ⟨_, rfl, .inl ⟨rfl, _, .inl (.inl hd4)⟩, _, rfl, _, rfl, _, rfl, rfl, b, ?_, ite2 (fun hbt => ?_) (fun hbf => ?_)⟩
      · cases b <;> decide +kernel
      · refine ⟨_, rfl, u, high, c3, rfl, u3, by omega, by omega, by omega, fun r4 c4 H5 r40 r41 hc4 e4 u4 => ⟨_, _, rfl, rfl, (by show 2 ≤ sizeLine; omega), fun t ht => ?_⟩⟩
        obtain ⟨ys', k1, k2, k3⟩ := key high h0 (by omega) r4 c4 H5 r40 r41 hc4 e4 u4 t ht
        exact ⟨o, ys', .ref t, rfl, rfl, k1, k2, k3⟩
      · refine ⟨_, rfl, _, _, rfl, rfl, .inl (by decide), u, _, c3, rfl, u3, by omega, by omega, by omega, fun r4 c4 H5 r40 r41 hc4 e4 u4 => ⟨_, _, rfl, rfl, (by show 2 ≤ sizeLine; omega), fun t ht => ?_⟩⟩
        obtain ⟨ys', k1, k2, k3⟩ := key (2 * high) (by omega) (Int.le_refl _) r4 c4 H5 r40 r41 hc4 e4 u4 t ht
        exact ⟨o, ys', .ref t, rfl, rfl, k1, k2, k3⟩
    · rintro σ H2 ⟨y4, y5, rfl, e2, ⟨c2, hc2, u2⟩, ys, ss, hd, hl, hb, pr⟩
      refine ⟨.ref o, rfl, o, ys, rfl, .inl ⟨.inl (.inl hd), fun l hl2 => ?_⟩⟩
      exact q l ss c2 _ (by omega) (exb_trans e2 (exb_of (ex_new hl2))) (u2.ex (ex_new hl2)) ⟨ys, tup_new, pmono pr fun _ _ z => z.ex (ex_new hl2)⟩ (by omega) hb

/-! ### host -/
abbrev sHost : Stmt := top 60
abbrev nHost : List Str := ["_law_line_so", "_law_kind_so", "_law_low"]
theorem scHost : FnScope nHost ["_law_line_so"] (defScope sHost) := ⟨rfl, rfl, rfl, by decide +kernel, rfl, by decide +kernel, by decide +kernel⟩
def spHost (K : PySem.W.Frag) (C CS : Addr) : Sp := fun vs H Q _ => ∃ (a : Addr) (ss : List Stp), vs = [.ref a] ∧ LnT K H a ss ∧ ss.length ≤ 700 ∧ (∀ s ∈ ss, 1 ≤ s.2) ∧ ∀ v H', Ex H H' → ScV K C CS H' v ss → Q v H'
theorem ok_host {f : Addr} {fd : FuncData} (F : FnP K "_law_host" "_law_host" sHost [] f fd) (G1 : MkC P w K mg base "Step" CS 1 (spStepInit CS)) (G2 : MkC P w K mg base "Script" C 5 (spScInit K C CS)) : FnOk P w K mg base CX0 7 f fd ["_law_line_so"] (spHost K C CS) := by
  refine ok_of F scHost (fun vs H Q E h => ?_) (fun cdv A outer s H vs Q E hr h => ?_)
  · obtain ⟨s0, ns, rfl, _⟩ := h
    rfl
  · obtain ⟨a, ss, rfl, ⟨xs, hx, pr⟩, hl, hb, q⟩ := h
    have nd := scHost.nd
    have l1 := plen pr
    refine ⟨_, pss_one (ps_ret (pe_mk G2 hr (pa_cons
        (pe_lc (own := [("_law_kind_so", 1), ("_law_low", 2)]) (g := gPr K 1 2) (tt := tYes) rfl nd (pi_tup (pv 0)) (blkOk_by (N := nHost) (sc := defScope sHost) (by decide +kernel))
          (fun _ _ _ _ _ => pg_tup rfl (pgs_cons (pg_name (i := 1) nd rfl (Or.inl rfl)) (pgs_cons (pg_name (i := 2) nd rfl (Or.inl rfl)) pgs_nil))) (fun _ _ _ _ _ => pts_nil)
          (fun _ _ _ _ _ => pe_mk G1 (hr.mono (by decide)) (pa_cons (pv 1) (pa_cons (pv 2) pa_nil)))) pa_nil))), ?_⟩
    refine ⟨_, rfl, a, rfl, ⟨_, hx⟩, ?_⟩
    refine lc_map ss (fun _ => true) (fun z v H => StV CS H v z) (by rw [l1]; exact walk_tup) (by omega) (fun H' e => ex_t e hx) (fun _ _ _ _ e z => z.exn e) ?_ ?_
    · rintro i z x H1 H2 hz e1 ⟨rfl, hxi⟩ N1 N0 k1 k0
      obtain ⟨z', hz', T1, rfl, hT⟩ := pget pr hxi
      rw [hz] at hz'
      obtain rfl := Option.some.inj hz'
      refine ⟨T1, _, rfl, ex_t e1 hT, rfl, _, _, rfl, _, _, rfl, rfl, rfl, _, rfl, _, rfl, ?_⟩
      intro x dx2 hx2 hdx2 hne2
      exact ⟨x, dx2, z, rfl, upd_same, hb z (List.mem_of_getElem? hz), fun H4 e6 h4 => ⟨rfl, k1 rfl _ _ (ex_made hx2 hdx2 e6) ⟨x, dx2, rfl, h4⟩⟩⟩
    · intro D H2 ys hD e2 hd pk
      rw [filter_all] at pk
      intro x dx2 hx2 hdx2 hne2
      have e5 : Ex H2 (upd (upd H2 dx2 (.own x)) x (.ins C dx2 [])) := fun b o h => by
        rw [upd_ne (ne_of_none h hx2), upd_ne (ne_of_none h hdx2)]
        exact h
      refine ⟨x, dx2, D, ss, rfl, upd_same, .inl ⟨ys, .inl (.inl (e5 _ _ hd)), pmono pk fun _ _ z => z.ex e5⟩, by omega, fun r f2 H4 e6 h4 h5 h6 => ⟨rfl, ?_⟩⟩
      exact q _ _ (e2.trans (ex_made hx2 hdx2 e6)) ⟨x, dx2, r, f2, rfl, h4, h5, h6⟩
end
end K8

set_option maxRecDepth 100000
set_option maxHeartbeats 4000000
/-! the law's stair -/
namespace K8
open PySem PySem.Spec PyProof.Rows L2
open Evl (Ex ex_l ex_t sz_of sz_lt)
theorem st_snoc (ss : List Stp) (s : Stp) : stairF (ss ++ [s]) = stStep (stairF ss) s := by
  unfold stairF
  rw [List.foldl_append]
  rfl
theorem st_low : ∀ (ss : List Stp) (st : Int × Prs) (M : Int), st.1 ≤ M → (∀ s ∈ ss, s.2 ≤ M) → (ss.foldl stStep st).1 ≤ M
  | [], _, _, h, _ => h
  | s :: r, st, M, h, hs => by
    refine st_low r _ M ?_ fun t ht => hs t (List.mem_cons_of_mem _ ht)
    have := hs s List.mem_cons_self
    show (if s.1 then mx st.1 s.2 else st.1) ≤ M
    rw [mx_eq]
    split <;> omega
theorem st_pos : ∀ (ss : List Stp) (st : Int × Prs), 1 ≤ st.1 → 1 ≤ (ss.foldl stStep st).1
  | [], _, h => h
  | s :: r, st, h => by
    refine st_pos r _ ?_
    show 1 ≤ (if s.1 then mx st.1 s.2 else st.1)
    rw [mx_eq]
    split <;> omega
theorem st_len : ∀ (ss : List Stp) (st : Int × Prs), (ss.foldl stStep st).2.length ≤ st.2.length + ss.length
  | [], _ => Nat.le_refl _
  | s :: r, st => by
    have h1 := st_len r (stStep st s)
    have h2 : (stStep st s).2.length ≤ st.2.length + 1 := by
      show (if s.1 then st.2 else st.2 ++ [(st.1, s.2)]).length ≤ _
      split
      · omega
      · rw [List.length_append]; exact Nat.le_refl _
    rw [List.foldl_cons, List.length_cons]
    omega
/-- how many rows must be there, by size from 1 on -/
def askL (ss : List Stp) : List Int := (List.range (stairF ss).1.toNat).map fun (j : Nat) => askF (stairF ss).1 (stairF ss).2 (1 + (j : Int))
section
variable {P : Program} {w : World} {K : PySem.W.Frag} {mg : Str → Option Value} {base : Heap} {C CC CS : Addr}
abbrev sStair : Stmt := top 61
abbrev nStair : List Str := ["_law_line_so", "_law_low", "_law_asks_so", "_law_kind_so", "_law_number_so", "_law_found", "_law_k", "_law_at_so"]
theorem scStair : FnScope nStair ["_law_line_so"] (defScope sStair) := ⟨rfl, rfl, rfl, by decide +kernel, rfl, by decide +kernel, by decide +kernel⟩
def spStair (K : PySem.W.Frag) : Sp := fun vs H Q _ => ∃ (a : Addr) (ss : List Stp), vs = [.ref a] ∧ LnT K H a ss ∧ ss.length ≤ 500 ∧ (∀ s ∈ ss, 1 ≤ s.2 ∧ s.2 ≤ 500) ∧
  ∀ p l H', Ex H H' → H l = none → SqT K H' p [.int (stairF ss).1, .ref l] → H' l = some (.lst ((askL ss).map V.int)) → Q (.ref p) H'
theorem ok_stair {f : Addr} {fd : FuncData} (F : FnP K "_law_stair" "_law_stair" sStair [] f fd) (T : Bt mg) : FnOk P w K mg base CX0 1 f fd ["_law_line_so"] (spStair K) := by
  refine ok_of F scStair (fun vs H Q E h => ?_) (fun cdv A outer s H vs Q E hr h => ?_)
  · obtain ⟨s0, ns, rfl, _⟩ := h
    rfl
  · obtain ⟨a, ss, rfl, ⟨xs, hx, pr⟩, hl, hb, q⟩ := h
    have nd := scStair.nd
    have l1 := plen pr
    have hsz := sizeLine_eq
    have hlow0 : 1 ≤ (stairF ss).1 := st_pos ss (1, []) (by decide)
    have hlow1 : (stairF ss).1 ≤ 500 := st_low ss (1, []) 500 (by decide) fun s hs => (hb s hs).2
    refine ⟨_, pss_cons (ps_par (i := 1) (j := 2) rfl nd rfl rfl (by decide) rfl rfl (pa_cons pe_int (pa_cons (pe_lst pa_nil) pa_nil)) (by rfl))
      (pss_cons (ps_for PassesOwn.never rfl (pi_tup (pv 0)) (pg_tup rfl (pgs_cons (pg_name (i := 3) nd rfl (.inl rfl)) (pgs_cons (pg_name (i := 4) nd rfl (.inl rfl)) pgs_nil)))
        (pss_cons (ps_set (i := 1) nd rfl (.inl rfl) (pe_ifExp (pt_cmpR op_eq (pv 3) pe_str (nomark _)) (pe_callB (call_max2 rfl) (by rfl) T.max (by decide +kernel) (pa_cons (pv 1) (pa_cons (pv 4) pa_nil))) (pv 1)))
        (pss_one (ps_if (pt_cmpR op_eq (pv 3) pe_str (nomark _)) (pss_one (ps_expr (pe_bm PySem.F.plainAttrs_list PySem.F.slot_list_append PySem.F.type_list_append mt_append (pv 2) (pa_cons (pe_tup (pa_cons (pv 1) (pa_cons (pv 4) pa_nil))) pa_nil)))) pss_nil))))
      (pss_cons (ps_set (i := 5) nd rfl (.inl rfl) (pe_lst pa_nil))
      (pss_cons (ps_for PassesOwn.never rfl (pi_range2 (by rfl) T.range (pa_cons pe_int (pa_cons (pe_op op_add (pv 1) pe_int) pa_nil))) (pg_name (i := 6) nd rfl (.inr rfl))
        (pss_one (ps_expr (pe_bm PySem.F.plainAttrs_list PySem.F.slot_list_append PySem.F.type_list_append mt_append (pv 5) (pa_cons (pe_callB (cr_max rfl) (by rfl) T.max (by decide +kernel) (pa_cons (pe_op op_cat (pe_lst (pa_cons (pv 1) pa_nil))
          (pe_lc (own := [("_law_at_so", 7), ("_law_number_so", 4)]) (g := gPr K 7 4) (tt := tTest (tOp (rI0 fun i j => .bl (decide (j ≤ i))) (tVar 7) (tVar 6))) rfl nd (pi_list (pv 2)) (blkOk_by (N := nStair) (sc := defScope sStair) (by decide +kernel))
            (fun _ _ _ _ _ => pg_tup rfl (pgs_cons (pg_name (i := 7) nd rfl (.inl rfl)) (pgs_cons (pg_name (i := 4) nd rfl (.inl rfl)) pgs_nil)))
            (fun _ _ _ _ _ => pts_one (pt_cmpR op_ge (pv 7) (pv 6) (nomark _))) (fun _ _ _ _ _ => pv 4))) pa_nil)) pa_nil)))))
      (pss_one (ps_ret (pe_tup (pa_cons (pv 1) (pa_cons (pv 5) pa_nil)))))))), ?_⟩
    refine ⟨Nat.zero_le _, fun o ho => ⟨_, _, rfl, ?_⟩⟩
    have e0 : Ex H (upd H o (.lst [])) := ex_new ho
    refine ⟨.ref a, rfl, a, rfl, ⟨_, ex_t e0 hx⟩, ?_⟩
    refine for_it (walk_tup (xs := xs)) (fun i σ H' => ∃ y3 y4, σ = [some (.ref a), some (.int (stairF (ss.take i)).1), some (.ref o), y3, y4, none, none, none] ∧ Ex H H' ∧ LsP K H' o (stairF (ss.take i)).2)
      ⟨none, none, rfl, e0, LsP.nil⟩ (fun i σ H' _ z => ?_) ?_ ?_
    · obtain ⟨_, _, _, z, _⟩ := z
      exact ex_t z hx
    · rintro i x σ H1 H2 hi ⟨y3, y4, rfl, e1, ys, hy, py⟩ ⟨rfl, hxi⟩
      obtain ⟨⟨b, n⟩, hz, T1, rfl, hT⟩ := pget pr hxi
      have es := take_snoc hz
      have len := st_len (ss.take i) (1, [])
      have len0 : (stairF (ss.take i)).2.length ≤ 500 := by
        have h2 : (ss.take i).length ≤ ss.length := by rw [List.length_take]; omega
        have h3 : ((1 : Int), ([] : Prs)).2.length = 0 := rfl
        unfold stairF
        omega
      have l2 := plen py
      refine ⟨T1, _, rfl, ex_t e1 hT, rfl, _, _, rfl, _, _, rfl, rfl, ?_⟩
      cases b with
      | true =>
        refine ⟨_, rfl, rfl, true, (by show V.bl (decide (V.str (kindS true) = V.str "town")) = V.bl true; decide +kernel), iteT ⟨_, rfl, _, rfl, _, _, rfl, ?_⟩⟩
        refine ⟨_, rfl, rfl, false, (by show V.bl (decide (V.str (kindS true) = V.str "county")) = V.bl false; decide +kernel), iteF ⟨some (.str (kindS true)), some (.int n), ?_, e1, ys, hy, ?_⟩⟩
        · rw [es, st_snoc]
          rfl
        · rw [es, st_snoc]
          exact py
      | false =>
        refine ⟨_, rfl, rfl, false, (by show V.bl (decide (V.str (kindS false) = V.str "town")) = V.bl false; decide +kernel), iteF ⟨_, rfl, ?_⟩⟩
        refine ⟨_, rfl, rfl, true, (by show V.bl (decide (V.str (kindS false) = V.str "county")) = V.bl true; decide +kernel), iteT ?_⟩
        refine ⟨_, rfl, .inl ⟨rfl, _, .inl (.inl hy)⟩, _, rfl, _, rfl, (by show 2 ≤ sizeLine; omega), fun t ht => ?_⟩
        have n1 : o ≠ t := ne_of_none hy ht
        refine ⟨o, ys, .ref t, rfl, rfl, (by rw [upd_ne n1]; exact hy), sz_lt (by omega), some (.str (kindS false)), some (.int n), ?_, ex_mut (e1.trans (ex_new ht)) ho, ?_⟩
        · rw [es, st_snoc]
          rfl
        · rw [es, st_snoc]
          exact LsP.app (q := ((stairF (ss.take i)).1, n)) hy py ht
    · rintro σ H1 ⟨y3, y4, rfl, e1, hA⟩
      have et : ss.take xs.length = ss := List.take_of_length_le (by rw [l1]; exact Nat.le_refl _)
      rw [et] at hA ⊢
      refine ⟨Nat.zero_le _, fun o2 ho2 => ?_⟩
      have e2 : Ex H1 (upd H1 o2 (.lst [])) := ex_new ho2
      have hA2 := hA.ex e2
      refine ⟨_, rfl, _, _, rfl, rfl, 1, (stairF ss).1 + 1, rfl, ⟨by decide, by decide, by omega, by omega⟩, ?_⟩
      have hn : ((stairF ss).1 + 1 - 1).toNat = (stairF ss).1.toNat := by congr 1; omega
      rw [hn]
      have ho20 : H o2 = none := Evl.fresh_back e1 ho2
      refine for_it (walk_range (lo := 1) (n := (stairF ss).1.toNat)) (fun i σ H' => ∃ y6, σ = [some (.ref a), some (.int (stairF ss).1), some (.ref o), y3, y4, some (.ref o2), y6, none] ∧ Ex H H' ∧ LsP K H' o (stairF ss).2 ∧
          H' o2 = some (.lst (((List.range i).map fun j => askF (stairF ss).1 (stairF ss).2 (1 + ((j : Nat) : Int))).map V.int)))
        ⟨none, rfl, e1.trans e2, hA2, upd_same⟩ (fun _ _ _ _ _ => trivial) ?_ ?_
      · rintro i x σ H2 H3 hi ⟨y6, rfl, e3, hA3, hd⟩ ⟨rfl, rfl⟩
        refine ⟨_, rfl, .inl ⟨rfl, _, .inl (.inl hd)⟩, _, rfl, (by show 1 ≤ sizeLine; omega), fun t ht => ?_⟩
        have e4 := ex_new (o := .lst [.int (stairF ss).1]) ht
        have len := st_len ss (1, [])
        have h3 : ((1 : Int), ([] : Prs)).2.length = 0 := rfl
        have len0 : (stairF ss).2.length ≤ 500 := by
          unfold stairF
          omega
        refine ⟨.ref o, rfl, o, rfl, lc_prLI (stairF ss).2 (fun z => decide (1 + (i : Int) ≤ z.1)) (fun z => z.2) (hA3.ex e4).psl (by omega) (fun _ _ => rfl) (fun p H4 hp e5 N1 N0 h1 h0 => ?_) fun D H4 hD e5 hd4 => ?_⟩
        · refine ⟨_, rfl, _, rfl, _, _, rfl, rfl, _, rfl, ?_⟩
          cases hc : decide (1 + (i : Int) ≤ p.1) with
          | true => exact ⟨_, rfl, h1 hc _ (Evl.Ex.refl _)⟩
          | false => exact h0 hc _ (Evl.Ex.refl _)
        · have hlf : (((stairF ss).2.filter fun z => decide (1 + (i : Int) ≤ z.1)).map fun z => z.2).length ≤ 500 := by
            rw [List.length_map]
            exact Nat.le_trans (List.length_filter_le _ _) len0
          refine ⟨t, D, _, _, rfl, rfl, e5 _ _ upd_same, hd4, ?_, fun r hr => ?_⟩
          · rw [List.length_map]
            show 1 + _ ≤ sizeLine
            omega
          refine ⟨r, (stairF ss).1 :: (((stairF ss).2.filter fun z => decide (1 + (i : Int) ≤ z.1)).map fun z => z.2), rfl, lst_new, Nat.succ_pos _, fun m hm hmx => ?_⟩
          have em : m = askF (stairF ss).1 (stairF ss).2 (1 + (i : Int)) := fm_uniq hm hmx
          subst em
          have e6 := (e4.trans e5).trans (ex_new (o := .lst ([V.int (stairF ss).1] ++ ((((stairF ss).2.filter fun z => decide (1 + (i : Int) ≤ z.1)).map fun z => z.2).map V.int))) hr)
          have hd6 := e6 _ _ hd
          have hn2 : o ≠ o2 := fun z => by
            obtain ⟨ys, hy, _⟩ := hA
            rw [z] at hy
            rw [hy] at ho2
            cases ho2
          have hA6 := hA3.ex e6
          refine ⟨o2, _, _, rfl, rfl, hd6, sz_lt ?_, _, rfl, ex_mut (e3.trans e6) ho20, ?_, ?_⟩
          · rw [List.length_map, List.length_map, List.length_range]
            omega
          · obtain ⟨ys, hy, py⟩ := hA6
            exact ⟨ys, by rw [upd_ne hn2]; exact hy, pmono py fun _ _ z => z.exn (ExN.mut hd6)⟩
          · rw [upd_same, List.range_succ, List.map_append, List.map_append]
            rfl
      · rintro σ H2 ⟨y6, rfl, e3, hA3, hd⟩
        refine ⟨_, rfl, _, rfl, (by show 2 ≤ sizeLine; omega), fun p hp => ?_⟩
        exact q p o2 _ (e3.trans (ex_new hp)) ho20 tup_new (ex_new hp _ _ hd)
end
end K8

set_option maxRecDepth 100000
set_option maxHeartbeats 4000000
/-! the law's towns that have just what is asked -/
namespace K8
open PySem PySem.Spec PyProof.Rows L2
open Evl (Ex ex_l ex_t sz_of sz_lt)
theorem pnil {α β : Type} {F : α → β → Prop} {l : List α} {m : List β} (h : Paired F l m) : Paired F l (m ++ []) := by
  rw [List.append_nil]
  exact h
theorem ask_at {ss : List Stp} {k : Int} (h0 : 1 ≤ k) (h1 : k ≤ (stairF ss).1) : (askL ss)[(k - 1).toNat]? = some (askF (stairF ss).1 (stairF ss).2 k) := by
  unfold askL
  have hlt : (k - 1).toNat < (stairF ss).1.toNat := by omega
  rw [List.getElem?_map, List.getElem?_range hlt]
  have e : (1 : Int) + (((k - 1).toNat : Nat) : Int) = k := by omega
  show some (askF (stairF ss).1 (stairF ss).2 (1 + (((k - 1).toNat : Nat) : Int))) = _
  rw [e]
section
variable {P : Program} {w : World} {K : PySem.W.Frag} {mg : Str → Option Value} {base : Heap} {C CC CS : Addr}
abbrev sJust : Stmt := top 63
abbrev nJust : List Str := ["_law_urn", "_law_line_so", "_law_low", "_law_asks_so", "_law_have", "_law_found", "_law_k", "_law_lacks_so", "_law_much"]
theorem scJust : FnScope nJust ["_law_urn", "_law_line_so"] (defScope sJust) := ⟨rfl, rfl, rfl, by decide +kernel, rfl, by decide +kernel, by decide +kernel⟩
def spJust (K : PySem.W.Frag) : Sp := fun vs H Q _ => ∃ (u a : Addr) (c : Int) (ss : List Stp), vs = [.ref u, .ref a] ∧ UrnAt H u c ∧ c + 510 ≤ 1000000 ∧ LnT K H a ss ∧ ss.length ≤ 500 ∧ (∀ s ∈ ss, 1 ≤ s.2 ∧ s.2 ≤ 500) ∧
  ∀ r qs c' H', c' ≤ c + 505 → ExB u H H' → UrnAt H' u c' → PsT K H' r qs → Twn qs → Q (.ref r) H'
theorem ok_just {f : Addr} {fd : FuncData} (F : FnP K "_law_just" "_law_just" sJust [] f fd) (T : Bt mg) (G1 : Cal P w K mg base "_law_take" 1 spTake) (G2 : Cal P w K mg base "_law_stair" 1 (spStair K)) (G3 : Cal P w K mg base "_law_sum" 1 (spSummed K)) : FnOk P w K mg base CX0 2 f fd ["_law_urn", "_law_line_so"] (spJust K) := by
  refine ok_of F scJust (fun vs H Q E h => ?_) (fun cdv A outer s H vs Q E hr h => ?_)
  · obtain ⟨s0, ns, k, xs, rfl, _⟩ := h
    rfl
  · obtain ⟨u, a, c, ss, rfl, hu, hc, hln, hl, hb, q⟩ := h
    have nd := scJust.nd
    have hsz := sizeLine_eq
    have hlow0 : 1 ≤ (stairF ss).1 := st_pos ss (1, []) (by decide)
    have hlow1 : (stairF ss).1 ≤ 500 := st_low ss (1, []) 500 (by decide) fun s hs => (hb s hs).2
    refine ⟨_, pss_cons (ps_asg (pe_cal G2 hr (pa_cons (pv 1) pa_nil)) (pg_tup rfl (pgs_cons (pg_name (i := 2) nd rfl (.inl rfl)) (pgs_cons (pg_name (i := 3) nd rfl (.inl rfl)) pgs_nil))))
      (pss_cons (ps_set (i := 4) nd rfl (.inl rfl) (pe_op op_add (pv 2) (pe_cal G1 hr (pa_cons (pv 0) (pa_cons pe_int pa_nil)))))
      (pss_cons (ps_set (i := 5) nd rfl (.inl rfl) (pe_lst (pa_cons (pe_tup (pa_cons (pv 4) (pa_cons pe_int pa_nil))) pa_nil)))
      (pss_cons (ps_for PassesOwn.never rfl (pi_range3 (by rfl) T.range (pa_cons (pv 2) (pa_cons pe_int (pa_cons (pe_un un_neg pe_int) pa_nil)))) (pg_name (i := 6) nd rfl (.inl rfl))
        (pss_cons (ps_set (i := 7) nd rfl (.inl rfl) (pe_op op_sub (pe_ix ix_list (pv 3) (pe_op op_sub (pv 6) pe_int) (fun _ _ => rfl)) (pv 4)))
        (pss_one (ps_if (pt_cmpR op_gt (pv 7) pe_int (nomark _))
          (pss_cons (ps_set (i := 8) nd rfl (.inl rfl) (pe_op op_fdiv (pe_op op_sub (pe_op op_add (pv 7) (pv 6)) pe_int) (pv 6)))
          (pss_cons (ps_set (i := 8) nd rfl (.inl rfl) (pe_callB (call_max2 rfl) (by rfl) T.max (by decide +kernel) (pa_cons pe_int (pa_cons (pe_op op_sub (pv 8)
              (pe_callTy call_int1 (by rfl) T.int (by decide +kernel) (pa_cons (pe_cmpR op_eq (pe_cal G1 hr (pa_cons (pv 0) (pa_cons pe_int pa_nil))) pe_int (nomark _)) pa_nil))) pa_nil))))
          (pss_cons (ps_set (i := 5) nd rfl (.inl rfl) (pe_op op_cat (pv 5) (pe_ifExp (pt_cmpR op_gt (pv 8) pe_int (nomark _)) (pe_lst (pa_cons (pe_tup (pa_cons (pv 6) (pa_cons (pv 8) pa_nil))) pa_nil)) (pe_lst pa_nil))))
          (pss_one (ps_set (i := 4) nd rfl (.inl rfl) (pe_op op_add (pv 4) (pe_op op_mul (pv 6) (pv 8)))))))) pss_nil))))
      (pss_one (ps_ret (pe_cal G3 hr (pa_cons (pv 5) pa_nil))))))), ?_⟩
    refine ⟨_, rfl, a, ss, rfl, hln, hl, hb, fun p l H1 e1 hl0 hp hask => ⟨p, _, rfl, hp, rfl, _, _, rfl, _, _, rfl, rfl, ?_⟩⟩
    have hlu : l ≠ u := fun z => by
      obtain ⟨_, _, h, _⟩ := hu
      rw [z, h] at hl0
      cases hl0
    refine ⟨_, rfl, _, rfl, u, 3, c, rfl, hu.ex e1, by omega, by omega, by omega, fun r c2 H2 r0 r1 hc2 e2 u2 => ⟨_, _, rfl, rfl, ?_⟩⟩
    refine ⟨_, rfl, (by show 2 ≤ sizeLine; omega), fun t ht => ⟨(by show 1 ≤ sizeLine; omega), fun o ho => ?_⟩⟩
    have e3 := ex_new (o := .tup [.int ((stairF ss).1 + r), .int 1]) ht
    have e4 := ex_new (o := .lst [.ref t]) ho
    have hou : o ≠ u := fun z => by
      obtain ⟨_, _, h, _⟩ := u2.ex e3
      rw [z, h] at ho
      cases ho
    refine ⟨_, rfl, 1, rfl, (stairF ss).1, 0, -1, _, rfl, RgC.neg (by omega) (by omega) (by decide) (by decide), ?_⟩
    have hn : ((stairF ss).1 - 0).toNat = (stairF ss).1.toNat := by congr 1; omega
    rw [hn]
    refine for_it (walk_rangeC (lo := (stairF ss).1) (c := -1) (n := (stairF ss).1.toNat)) (fun i σ H' => ∃ (have' : Int) (o' : Addr) (y6 y7 y8 : Option V), σ = [some (.ref u), some (.ref a), some (.int (stairF ss).1), some (.ref l), some (.int have'), some (.ref o'), y6, y7, y8] ∧
        ExB u H H' ∧ (∃ c', c' ≤ c + 1 + (i : Int) ∧ UrnAt H' u c') ∧ H' l = some (.lst ((askL ss).map V.int)) ∧ o' ≠ u ∧ ∃ ys ps, H' o' = some (.lst ys) ∧ Paired (fun z v => PrV K H' v z) ps ys ∧ Pos ps ∧ (∀ z ∈ ps, z.1 ≤ 1000) ∧ ps.length ≤ i + 1)
      ⟨_, o, none, none, none, rfl, exb_trans (exb_trans (exb_of e1) e2) (exb_of (e3.trans e4)), ⟨c2, by omega, u2.ex (e3.trans e4)⟩, (e3.trans e4) _ _ (e2 _ _ hask hlu), hou, [.ref t], [((stairF ss).1 + r, 1)], upd_same, .cons ⟨t, rfl, ex_t e4 tup_new⟩ .nil,
        fun z hz => ?_, fun z hz => ?_, Nat.le_refl _⟩ (fun _ _ _ _ _ => trivial) ?_ ?_
    · rw [List.mem_singleton.mp hz]
      exact ⟨by show 1 ≤ (stairF ss).1 + r; omega, Int.le_refl _⟩
    · rw [List.mem_singleton.mp hz]
      show (stairF ss).1 + r ≤ 1000
      omega
    · rintro i x σ H3 H4 hi ⟨have', o', y6, y7, y8, rfl, E3, ⟨c3, hc3, u3⟩, hask3, hou', ys, ps, hd, pr, hp1, hp2, hpl⟩ ⟨rfl, hx⟩
      obtain ⟨k, hk⟩ : ∃ k, k = (stairF ss).1 + (i : Int) * -1 := ⟨_, rfl⟩
      have hx : x = V.int k := by rw [hk]; exact hx
      subst hx
      have hk0 : 1 ≤ k := by omega
      have hk1 : k ≤ (stairF ss).1 := by omega
      have hat := ask_at hk0 hk1
      generalize askF (stairF ss).1 (stairF ss).2 k = ak at hat
      refine ⟨_, rfl, _, rfl, _, _, rfl, rfl, l, _, k - 1, .int ak, rfl, rfl, .inl (.inl hask3), at_pos (by omega) (by rw [List.getElem?_map, hat]; rfl), _, rfl, _, _, rfl, rfl, ?_⟩
      refine ⟨_, rfl, _, _, rfl, rfl, _, rfl, ite2 (fun hlk => ?_) (fun hlk => ?_)⟩
      · refine ⟨_, rfl, _, rfl, _, _, rfl, rfl, _, _, rfl, rfl, _, rfl, _, _, rfl, rfl, ⟨by omega, by omega⟩, ?_⟩
        show gName 8 (V.int ((ak - have' + k - 1) / k)) _ _ _
        generalize hmu : (ak - have' + k - 1) / k = mu
        refine ⟨_, rfl, _, rfl, u, 6, c3, rfl, u3, by omega, by omega, by omega, fun r5 c5 H5 r50 r51 hc5 e5 u5 => ⟨rfl, .inr ⟨_, rfl, _, _, rfl, rfl, _, _, rfl, ?_⟩⟩⟩
        show gName 8 (V.int (if mu - (if decide (V.int r5 = V.int 0) = true then 1 else 0) > 0 then mu - (if decide (V.int r5 = V.int 0) = true then 1 else 0) else 0)) _ _ _
        generalize hmm : (if mu - (if decide (V.int r5 = V.int 0) = true then 1 else 0) > 0 then mu - (if decide (V.int r5 = V.int 0) = true then 1 else 0) else 0) = mm
        have hmm0 : 0 ≤ mm := by rw [← hmm]; split <;> omega
        have hd5 := e5 _ _ hd hou'
        have pr5 := pmono pr fun _ _ z => PrV.exn (u3.exn e5) z
        have l1 := plen pr
        have hun : ∀ {o2 : Addr} {H6 : Hp}, Ex H5 H6 → H6 o2 = none → o2 ≠ u := fun {o2 H6} e6 ho2 z => by
          obtain ⟨_, _, h, _⟩ := u5.ex e6
          rw [z, h] at ho2
          cases ho2
        have hki : CMul k mm := .inl ⟨by omega, by omega⟩
        refine ⟨_, rfl, _, rfl, _, _, rfl, rfl, _, rfl, ite2 (fun hm => ?_) (fun hm => ?_)⟩
        · have hm1 : 0 < mm := of_decide_eq_true hm
          refine ⟨_, rfl, _, rfl, (by show 2 ≤ sizeLine; omega), fun t5 ht5 => ⟨(by show 1 ≤ sizeLine; omega), fun b5 hb5 => ?_⟩⟩
          have e6 := ex_new (o := .tup [.int k, .int mm]) ht5
          have e7 := ex_new (o := .lst [.ref t5]) hb5
          refine ⟨o', b5, ys, [.ref t5], rfl, rfl, e7 _ _ (e6 _ _ hd5), upd_same, sz_of (by rw [List.length_singleton]; omega), fun r6 hr6 => ?_⟩
          have e8 := ex_new (o := .lst (ys ++ [.ref t5])) hr6
          have E8 := (e6.trans e7).trans e8
          refine ⟨_, rfl, _, rfl, _, rfl, _, _, rfl, rfl, hki, _, _, rfl, rfl, ?_⟩
          refine ⟨_, r6, _, _, _, rfl, exb_trans (exb_trans E3 e5) (exb_of E8), ⟨c5, by omega, u5.ex E8⟩, E8 _ _ (e5 _ _ hask3 hlu), hun (e6.trans e7) hr6, ys ++ [.ref t5], ps ++ [(k, mm)], upd_same,
            papp (pmono pr5 fun _ _ z => z.ex E8) (.cons ⟨t5, rfl, ex_t (e7.trans e8) tup_new⟩ .nil), fun z hz => ?_, fun z hz => ?_, by rw [List.length_append, List.length_singleton]; omega⟩
          · rcases List.mem_append.mp hz with hz | hz
            · exact hp1 z hz
            · rw [List.mem_singleton.mp hz]
              exact ⟨hk0, hm1⟩
          · rcases List.mem_append.mp hz with hz | hz
            · exact hp2 z hz
            · rw [List.mem_singleton.mp hz]
              show k ≤ 1000
              omega
        · refine ⟨Nat.zero_le _, fun b5 hb5 => ?_⟩
          have e7 := ex_new (o := .lst []) hb5
          refine ⟨o', b5, ys, [], rfl, rfl, e7 _ _ hd5, upd_same, sz_of (by rw [List.length_nil]; omega), fun r6 hr6 => ?_⟩
          have e8 := ex_new (o := .lst (ys ++ [])) hr6
          have E8 := e7.trans e8
          refine ⟨_, rfl, _, rfl, _, rfl, _, _, rfl, rfl, hki, _, _, rfl, rfl, ?_⟩
          refine ⟨_, r6, _, _, _, rfl, exb_trans (exb_trans E3 e5) (exb_of E8), ⟨c5, by omega, u5.ex E8⟩, E8 _ _ (e5 _ _ hask3 hlu), hun e7 hr6, ys ++ [], ps, upd_same, ?_, hp1, hp2, by omega⟩
          exact pnil (pmono pr5 fun _ _ z => z.ex E8)
      · refine ⟨have', o', _, _, y8, rfl, E3, ⟨c3, by omega, u3⟩, hask3, hou', ys, ps, hd, pr, hp1, hp2, by omega⟩
    · rintro σ H3 ⟨have', o', y6, y7, y8, rfl, E3, ⟨c3, hc3, u3⟩, hask3, hou', ys, ps, hd, pr, hp1, hp2, hpl⟩
      refine ⟨_, rfl, o', ps, rfl, .inl ⟨ys, .inl (.inl hd), pr⟩, by omega, fun r3 qs3 H4 e4 h4 hs => ?_⟩
      refine q r3 qs3 c3 H4 (by omega) (exb_trans E3 (exb_of e4)) (u3.ex e4) h4 ⟨hs.pos hp1, hs.up, fun z hz => ?_, ?_⟩
      · obtain ⟨p, hp, e⟩ := hs.src z hz
        have := hp2 p hp
        omega
      · have := hs.len
        omega
end
end K8

set_option maxRecDepth 100000
set_option maxHeartbeats 4000000
/-! the law's same -/
namespace K8
open PySem PySem.Spec PyProof.Rows L2
open Evl (Ex ex_l ex_t sz_of sz_lt)
theorem dp_pair {K : PySem.W.Frag} {H : Hp} : ∀ {xs : List V} {ds : List PyData}, DpAll K H xs ds → Paired (fun d x => Dp K H x d) ds xs
  | _, _, .nil => .nil
  | _, _, .cons a b => .cons a (dp_pair b)
theorem dp_unpair {K : PySem.W.Frag} {H : Hp} : ∀ {xs : List V} {ds : List PyData}, Paired (fun d x => Dp K H x d) ds xs → DpAll K H xs ds
  | _, _, .nil => .nil
  | _, _, .cons a b => .cons a (dp_unpair b)
mutual
theorem dp_ex {K : PySem.W.Frag} {H H' : Hp} (e : Ex H H') : ∀ {x : V} {d : PyData}, Dp K H x d → Dp K H' x d
  | _, _, .non => .non
  | _, _, .bl b => .bl b
  | _, _, .int i => .int i
  | _, _, .str x => .str x
  | _, _, .lst h t => .lst (ex_l e h) (dpa_ex e t)
  | _, _, .tup h t => .tup (ex_t e h) (dpa_ex e t)
theorem dpa_ex {K : PySem.W.Frag} {H H' : Hp} (e : Ex H H') : ∀ {xs : List V} {ds : List PyData}, DpAll K H xs ds → DpAll K H' xs ds
  | _, _, .nil => .nil
  | _, _, .cons a b => .cons (dp_ex e a) (dpa_ex e b)
end
/-- data of ints and texts, so deep at most -/
def okD : Nat → PyData → Prop
  | _, .int _ => True
  | _, .str _ => True
  | n + 1, .list ds => ds.length ≤ 1000 ∧ ∀ d ∈ ds, okD n d
  | n + 1, .tuple ds => ds.length ≤ 1000 ∧ ∀ d ∈ ds, okD n d
  | _, _ => False
section
variable {P : Program} {w : World} {K : PySem.W.Frag} {mg : Str → Option Value} {base : Heap} {C CC CS : Addr}
abbrev sSame : Stmt := top 55
abbrev nSame : List Str := ["_law_got", "_law_goal", "_law_mine_so", "_law_own"]
theorem scSame : FnScope nSame ["_law_got", "_law_goal"] (defScope sSame) := ⟨rfl, rfl, rfl, by decide +kernel, rfl, by decide +kernel, by decide +kernel⟩
def spSame (K : PySem.W.Frag) (n : Nat) : Sp := fun vs H Q _ => ∃ (x y : V) (d : PyData), vs = [x, y] ∧ Dp K H x d ∧ Dp K H y d ∧ okD n d ∧ ∀ H', Ex H H' → Q (.bl true) H'
theorem kit_two {t a b : String} (I : Isi K) (ht : t ∈ ["int", "str", "list", "tuple"]) (ha : a ∈ ["int", "str", "list", "tuple", "bool"]) (hb : b ∈ ["int", "str", "list", "tuple", "bool"]) : PySem.W.kitAny K (.type t) [.type a, .type b] = some (decide (t = a) || decide (t = b)) := by
  have h1 := I.a t ht a ha
  have h2 := I.a t ht b hb
  unfold PySem.W.kitAny
  rw [h1]
  by_cases h : t = a
  · rw [decide_eq_true h]
    rfl
  · rw [decide_eq_false h]
    unfold PySem.W.kitAny
    dsimp only
    rw [h2]
    by_cases h' : t = b
    · rw [decide_eq_true h']
      rfl
    · rw [decide_eq_false h']
      rfl
theorem same_zip {J : It} {G0 : Hp → Prop} {xs ys : List V} {ds : List PyData} {n : Nat} {σ : L2.St} {H1 : Hp} {Q : Addr → Hp → Prop} (w : Walk J ds.length G0 (YPair (fun i => xs[i]?) (fun i => ys[i]?))) (hG : ∀ H, Ex H1 H → G0 H)
    (p1 : Paired (fun d x => Dp K H1 x d) ds xs) (p2 : Paired (fun d x => Dp K H1 x d) ds ys) (hn : ds.length ≤ 1000) (hok : ∀ d ∈ ds, okD n d) (hw : ∀ u v, wipe (((wipe σ [2, 3]).set 2 u).set 3 v) [2, 3] = wipe σ [2, 3])
    (hi : ∀ u v, (((wipe σ [2, 3]).set 2 u).set 3 v)[2]? = some u ∧ (((wipe σ [2, 3]).set 2 u).set 3 v)[3]? = some v)
    (done : ∀ D H2 (bs : List Bool), H1 D = none → Ex H1 H2 → H2 D = some (.lst (bs.map V.bl)) → bs.all _root_.id = true → Q D H2) :
    LcB J (gPr K 2 3) tYes (tCa (spSame K n) (tCons (tVar 2) (tCons (tVar 3) tNil))) [2, 3] σ H1 Q := by
  refine lc_map ds (fun _ => true) (fun _ v _ => v = .bl true) w (by omega) hG (fun _ _ _ _ _ z => z) ?_ ?_
  · rintro i d x H2 H3 hd eH ⟨T1, x1, x2, rfl, hT, rfl, h1, h2⟩ N1 N0 n1 n0
    obtain ⟨d1, hd1, hx1⟩ := pget p1 h1
    obtain ⟨d2, hd2, hx2⟩ := pget p2 h2
    rw [hd] at hd1 hd2
    obtain rfl := Option.some.inj hd1
    obtain rfl := Option.some.inj hd2
    have e5 : Ex H2 (upd H2 T1 (.tup [x1, x2])) := ex_new hT
    obtain ⟨i1, i2⟩ := hi (some x1) (some x2)
    refine ⟨T1, _, rfl, tup_new, rfl, _, _, rfl, _, _, rfl, rfl, hw _ _, x1, i1, x2, i2, x1, x2, d, rfl, dp_ex (eH.trans e5) hx1, dp_ex (eH.trans e5) hx2, hok d (List.mem_of_getElem? hd), fun H4 e4 => n1 rfl _ _ (e5.trans e4) rfl⟩
  · intro D H2 ys2 hD e2 hd pk
    obtain ⟨bs, e, hb⟩ := bl_all pk
    rw [e] at hd
    exact done D H2 bs hD e2 hd hb
abbrev tIsi2 (K : PySem.W.Frag) (i : Nat) (T : String) : TE := tCB (rIsi K) (tCons (tVar i) (tCons (tC (.ty T)) tNil))
theorem ok_same {f : Addr} {fd : FuncData} (F : FnP K "_law_same" "_law_same" sSame [] f fd) (T : Bt mg) (I : Isi K) (hC : ∀ k sp, FnOk P w K mg base CX0 k f fd ["_law_got", "_law_goal"] sp → Cal P w K mg base "_law_same" k sp) :
    ∀ n, FnOk P w K mg base CX0 (n + 1) f fd ["_law_got", "_law_goal"] (spSame K n) := by
  have nd := scSame.nd
  have atom : ∀ (cdv : Value) (A : Around) (outer : List Env) (s : Shared) (H : Hp) (x y : V) (d : PyData) (Q : VK) (E : XK), Dp K H x d → Dp K H y d → okD 0 d → (∀ H', Ex H H' → Q (.bl true) H') →
      ∃ t, PSs (cxOf CX0 P w K mg base nSame "_law_same" (defScope sSame) f cdv A outer s H E).nox (defBody sSame) t ∧ t { nx := fun _ H' => Q .non H', rt := Q } (start nSame [x, y]) H := by
      intro cdv A outer s H x y d Q E dx dy ok q
      refine ⟨_, pss_cons (ps_if (pt_val (pe_callB call_isiT (by rfl) T.isinstance (by decide +kernel) (pa_cons (pv 1) (pa_cons (pe_tup (pa_cons (pe_bltn (v := .ty "list") (by rfl) T.list (by decide +kernel) rfl) (pa_cons (pe_bltn (v := .ty "tuple") (by rfl) T.tuple (by decide +kernel) rfl) pa_nil))) pa_nil))))
          (pss_cons ps_never (pss_one ps_never)) pss_nil)
        (pss_cons (ps_if (PW.pt (pw_or (pt_cmpR op_isN (pv 1) pe_non (nomark _)) (pw_or1 (pt_val (pe_callB call_isiT (by rfl) T.isinstance (by decide +kernel) (pa_cons (pv 1) (pa_cons (pe_tup (pa_cons (pe_bltn (v := .ty "bool") (by rfl) T.bool (by decide +kernel) rfl) (pa_cons (pe_bltn (v := .ty "str") (by rfl) T.str (by decide +kernel) rfl) pa_nil))) pa_nil)))))))
          (pss_one (ps_ret (pe_and (pe_cmpR op_eq (pv 0) (pv 1) (nomark _)) (pe_and (pe_cmpR op_eq
            (pe_callB call_isi (by rfl) T.isinstance (by decide +kernel) (pa_cons (pv 0) (pa_cons (pe_bltn (v := .ty "bool") (by rfl) T.bool (by decide +kernel) rfl) pa_nil)))
            (pe_callB call_isi (by rfl) T.isinstance (by decide +kernel) (pa_cons (pv 1) (pa_cons (pe_bltn (v := .ty "bool") (by rfl) T.bool (by decide +kernel) rfl) pa_nil))) (nomark _))
            (pe_one (pe_cmpR op_eq (pe_cmpR op_isN (pv 0) pe_non (nomark _)) (pe_cmpR op_isN (pv 1) pe_non (nomark _)) (nomark _))))))) pss_nil)
        (pss_one (ps_ret (pe_and (pe_callB call_isi (by rfl) T.isinstance (by decide +kernel) (pa_cons (pv 0) (pa_cons (pe_bltn (v := .ty "int") (by rfl) T.int (by decide +kernel) rfl) pa_nil)))
          (pe_and (pe_not (pe_callB call_isi (by rfl) T.isinstance (by decide +kernel) (pa_cons (pv 0) (pa_cons (pe_bltn (v := .ty "bool") (by rfl) T.bool (by decide +kernel) rfl) pa_nil)))) (pe_one (pe_cmpR op_eq (pv 0) (pv 1) (nomark _)))))))), ?_⟩
      have pair : ∀ {a b : String}, Paired ClsV [V.ty a, V.ty b] [.type a, .type b] := fun {a b} => .cons (.ty a) (.cons (.ty b) .nil)
      cases d with
      | int i =>
        cases dx
        cases dy
        refine ⟨_, rfl, (by show 2 ≤ sizeLine; decide), fun p hp => ⟨_, p, _, _, _, _, rfl, upd_same, pair, .base (.int i), kit_two I (by decide) (by decide) (by decide), false, rfl, iteF ?_⟩⟩
        have e1 := ex_new (o := .tup [.ty "list", .ty "tuple"]) hp
        refine ⟨_, rfl, rfl, false, rfl, iteF ⟨_, rfl, (by show 2 ≤ sizeLine; decide), fun p2 hp2 => ⟨_, p2, _, _, _, _, rfl, upd_same, pair, .base (.int i), kit_two I (by decide) (by decide) (by decide), false, rfl, iteF ?_⟩⟩⟩
        have e2 := ex_new (o := .tup [.ty "bool", .ty "str"]) hp2
        refine ⟨_, rfl, _, _, _, _, _, rfl, .ty _, .base (.int i), I.a "int" (by decide) "int" (by decide), _, rfl, iteT ⟨_, rfl, _, _, _, _, _, rfl, .ty _, .base (.int i), I.a "int" (by decide) "bool" (by decide), _, rfl, _, rfl, iteT ⟨_, rfl, _, rfl, rfl, ?_⟩⟩⟩
        rw [decide_eq_true (rfl : V.int i = V.int i)]
        exact q _ (e1.trans e2)
      | str i =>
        cases dx
        cases dy
        refine ⟨_, rfl, (by show 2 ≤ sizeLine; decide), fun p hp => ⟨_, p, _, _, _, _, rfl, upd_same, pair, .base (.str i), kit_two I (by decide) (by decide) (by decide), false, rfl, iteF ?_⟩⟩
        have e1 := ex_new (o := .tup [.ty "list", .ty "tuple"]) hp
        refine ⟨_, rfl, rfl, false, rfl, iteF ⟨_, rfl, (by show 2 ≤ sizeLine; decide), fun p2 hp2 => ⟨_, p2, _, _, _, _, rfl, upd_same, pair, .base (.str i), kit_two I (by decide) (by decide) (by decide), true, rfl, iteT ?_⟩⟩⟩
        have e2 := ex_new (o := .tup [.ty "bool", .ty "str"]) hp2
        refine ⟨_, rfl, _, rfl, rfl, true, by rw [decide_eq_true (rfl : V.str i = V.str i)], iteT ⟨_, rfl, _, _, _, _, _, rfl, .ty _, .base (.str i), I.a "str" (by decide) "bool" (by decide), _, rfl, _, _, _, _, _, rfl, .ty _, .base (.str i), I.a "str" (by decide) "bool" (by decide), rfl, true, rfl, iteT ⟨_, rfl, rfl, _, rfl, rfl, rfl, ?_⟩⟩⟩
        exact q _ (e1.trans e2)
      | none => exact False.elim ok
      | bool b => exact False.elim ok
      | list ds => exact False.elim ok
      | tuple ds => exact False.elim ok
      | dict ds => exact False.elim ok
  intro n
  induction n with
  | zero =>
    refine ok_of F scSame (fun vs H Q E h => ?_) (fun cdv A outer s H vs Q E hr h => ?_)
    · obtain ⟨s0, ns, k, rfl, _⟩ := h
      rfl
    · obtain ⟨x, y, d, rfl, dx, dy, ok, q⟩ := h
      exact atom cdv A outer s H x y d Q E dx dy ok q
  | succ n ih =>
    have G := hC _ _ ih
    refine ok_of F scSame (fun vs H Q E h => ?_) (fun cdv A outer s H vs Q E hr h => ?_)
    · obtain ⟨s0, ns, k, rfl, _⟩ := h
      rfl
    · obtain ⟨x, y, d, rfl, dx, dy, ok, q⟩ := h
      have pair : ∀ {a b : String}, Paired ClsV [V.ty a, V.ty b] [.type a, .type b] := fun {a b} => .cons (.ty a) (.cons (.ty b) .nil)
      cases d with
      | int i => exact atom cdv A outer s H x y _ Q E dx dy trivial q
      | str i => exact atom cdv A outer s H x y _ Q E dx dy trivial q
      | none => exact False.elim ok
      | bool b => exact False.elim ok
      | dict ds => exact False.elim ok
      | list ds =>
        cases dx with
        | lst sx px =>
        cases dy with
        | lst sy py =>
        rename_i a1 xs1 a2 xs2
        obtain ⟨hl, hok⟩ := ok
        have q1 := dp_pair px
        have q2 := dp_pair py
        have l1 := plen q1
        have l2 := plen q2
        refine ⟨_, pss_cons (ps_if (pt_val (pe_callB call_isiT (by rfl) T.isinstance (by decide +kernel) (pa_cons (pv 1) (pa_cons (pe_tup (pa_cons (pe_bltn (v := .ty "list") (by rfl) T.list (by decide +kernel) rfl) (pa_cons (pe_bltn (v := .ty "tuple") (by rfl) T.tuple (by decide +kernel) rfl) pa_nil))) pa_nil))))
            (pss_cons (ps_if (PW.pt (pw_or (pt_cmpR op_ne
                (pe_callB call_isi (by rfl) T.isinstance (by decide +kernel) (pa_cons (pv 0) (pa_cons (pe_bltn (v := .ty "list") (by rfl) T.list (by decide +kernel) rfl) pa_nil)))
                (pe_callB call_isi (by rfl) T.isinstance (by decide +kernel) (pa_cons (pv 1) (pa_cons (pe_bltn (v := .ty "list") (by rfl) T.list (by decide +kernel) rfl) pa_nil))) (nomark _))
              (pw_or1 (pt_cmpR op_ne
                (pe_callB call_isi (by rfl) T.isinstance (by decide +kernel) (pa_cons (pv 0) (pa_cons (pe_bltn (v := .ty "tuple") (by rfl) T.tuple (by decide +kernel) rfl) pa_nil)))
                (pe_callB call_isi (by rfl) T.isinstance (by decide +kernel) (pa_cons (pv 1) (pa_cons (pe_bltn (v := .ty "tuple") (by rfl) T.tuple (by decide +kernel) rfl) pa_nil))) (nomark _))))) (pss_one ps_never) pss_nil)
            (pss_one (ps_ret (pe_and (pe_cmpR op_eq (pe_callB call_len_seq (by rfl) T.len (by decide +kernel) (pa_cons (pv 0) pa_nil)) (pe_callB call_len_seq (by rfl) T.len (by decide +kernel) (pa_cons (pv 1) pa_nil)) (nomark _))
              (pe_one (pe_callB (cr_all rfl) (by rfl) T.all (by decide +kernel) (pa_cons
                (pe_lc (own := [("_law_mine_so", 2), ("_law_own", 3)]) (g := gPr K 2 3) (tt := tYes) rfl nd (RZ.pi_zipA (by rfl) T.zip (pa_cons (pv 0) (pa_cons (pv 1) pa_nil))) (blkOk_by (N := nSame) (sc := defScope sSame) (by decide +kernel))
                  (fun _ _ _ _ _ => pg_tup rfl (pgs_cons (pg_name (i := 2) nd rfl (Or.inl rfl)) (pgs_cons (pg_name (i := 3) nd rfl (Or.inl rfl)) pgs_nil))) (fun _ _ _ _ _ => pts_nil)
                  (fun _ _ _ _ _ => pe_cal G hr (pa_cons (pv 2) (pa_cons (pv 3) pa_nil)))) pa_nil))))))) pss_nil)
          (pss_cons ps_never (pss_one ps_never)), ?_⟩
        refine ⟨_, rfl, (by show 2 ≤ sizeLine; decide), fun p hp => ⟨_, p, _, _, _, _, rfl, upd_same, pair, tyx_lst (ex_l (ex_new hp) sy), kit_two I (by decide) (by decide) (by decide), true, rfl, iteT ?_⟩⟩
        have e1 := ex_new (o := .tup [.ty "list", .ty "tuple"]) hp
        have sx1 := ex_l e1 sx
        have sy1 := ex_l e1 sy
        refine ⟨_, rfl, _, _, _, _, _, rfl, .ty _, tyx_lst sx1, I.a "list" (by decide) "list" (by decide), _, rfl, _, _, _, _, _, rfl, .ty _, tyx_lst sy1, I.a "list" (by decide) "list" (by decide), rfl, false, rfl, iteF ?_⟩
        refine ⟨_, rfl, _, _, _, _, _, rfl, .ty _, tyx_lst sx1, I.a "list" (by decide) "tuple" (by decide), _, rfl, _, _, _, _, _, rfl, .ty _, tyx_lst sy1, I.a "list" (by decide) "tuple" (by decide), rfl, false, rfl, iteF ?_⟩
        refine ⟨_, rfl, a1, xs1, rfl, .inl sx1, _, rfl, a2, xs2, rfl, .inl sy1, rfl, true, by rw [← l1, ← l2, decide_eq_true rfl], iteT ?_⟩
        refine ⟨_, rfl, _, rfl, a1, a2, xs1, xs2, rfl, .inl ⟨sx1, sy1, same_zip (walk_zip (by omega)) (fun H' e => ⟨ex_l e sx1, ex_l e sy1⟩) (pmono q1 fun _ _ z => dp_ex e1 z) (pmono q2 fun _ _ z => dp_ex e1 z) hl hok (fun _ _ => rfl) (fun _ _ => ⟨rfl, rfl⟩) fun D H2 bs hD e2 hd hb => ?_⟩⟩
        refine ⟨D, bs, rfl, .inl (.inl hd), ?_⟩
        rw [hb]
        exact q _ (e1.trans e2)
      | tuple ds =>
        cases dx with
        | tup sx px =>
        cases dy with
        | tup sy py =>
        rename_i a1 xs1 a2 xs2
        obtain ⟨hl, hok⟩ := ok
        have q1 := dp_pair px
        have q2 := dp_pair py
        have l1 := plen q1
        have l2 := plen q2
        refine ⟨_, pss_cons (ps_if (pt_val (pe_callB call_isiT (by rfl) T.isinstance (by decide +kernel) (pa_cons (pv 1) (pa_cons (pe_tup (pa_cons (pe_bltn (v := .ty "list") (by rfl) T.list (by decide +kernel) rfl) (pa_cons (pe_bltn (v := .ty "tuple") (by rfl) T.tuple (by decide +kernel) rfl) pa_nil))) pa_nil))))
            (pss_cons (ps_if (PW.pt (pw_or (pt_cmpR op_ne
                (pe_callB call_isi (by rfl) T.isinstance (by decide +kernel) (pa_cons (pv 0) (pa_cons (pe_bltn (v := .ty "list") (by rfl) T.list (by decide +kernel) rfl) pa_nil)))
                (pe_callB call_isi (by rfl) T.isinstance (by decide +kernel) (pa_cons (pv 1) (pa_cons (pe_bltn (v := .ty "list") (by rfl) T.list (by decide +kernel) rfl) pa_nil))) (nomark _))
              (pw_or1 (pt_cmpR op_ne
                (pe_callB call_isi (by rfl) T.isinstance (by decide +kernel) (pa_cons (pv 0) (pa_cons (pe_bltn (v := .ty "tuple") (by rfl) T.tuple (by decide +kernel) rfl) pa_nil)))
                (pe_callB call_isi (by rfl) T.isinstance (by decide +kernel) (pa_cons (pv 1) (pa_cons (pe_bltn (v := .ty "tuple") (by rfl) T.tuple (by decide +kernel) rfl) pa_nil))) (nomark _))))) (pss_one ps_never) pss_nil)
            (pss_one (ps_ret (pe_and (pe_cmpR op_eq (pe_callB call_len_seq (by rfl) T.len (by decide +kernel) (pa_cons (pv 0) pa_nil)) (pe_callB call_len_seq (by rfl) T.len (by decide +kernel) (pa_cons (pv 1) pa_nil)) (nomark _))
              (pe_one (pe_callB (cr_all rfl) (by rfl) T.all (by decide +kernel) (pa_cons
                (pe_lc (own := [("_law_mine_so", 2), ("_law_own", 3)]) (g := gPr K 2 3) (tt := tYes) rfl nd (RZ.pi_zipA (by rfl) T.zip (pa_cons (pv 0) (pa_cons (pv 1) pa_nil))) (blkOk_by (N := nSame) (sc := defScope sSame) (by decide +kernel))
                  (fun _ _ _ _ _ => pg_tup rfl (pgs_cons (pg_name (i := 2) nd rfl (Or.inl rfl)) (pgs_cons (pg_name (i := 3) nd rfl (Or.inl rfl)) pgs_nil))) (fun _ _ _ _ _ => pts_nil)
                  (fun _ _ _ _ _ => pe_cal G hr (pa_cons (pv 2) (pa_cons (pv 3) pa_nil)))) pa_nil))))))) pss_nil)
          (pss_cons ps_never (pss_one ps_never)), ?_⟩
        refine ⟨_, rfl, (by show 2 ≤ sizeLine; decide), fun p hp => ⟨_, p, _, _, _, _, rfl, upd_same, pair, tyx_tup (ex_t (ex_new hp) sy), kit_two I (by decide) (by decide) (by decide), true, rfl, iteT ?_⟩⟩
        have e1 := ex_new (o := .tup [.ty "list", .ty "tuple"]) hp
        have sx1 := ex_t e1 sx
        have sy1 := ex_t e1 sy
        refine ⟨_, rfl, _, _, _, _, _, rfl, .ty _, tyx_tup sx1, I.a "tuple" (by decide) "list" (by decide), _, rfl, _, _, _, _, _, rfl, .ty _, tyx_tup sy1, I.a "tuple" (by decide) "list" (by decide), rfl, false, rfl, iteF ?_⟩
        refine ⟨_, rfl, _, _, _, _, _, rfl, .ty _, tyx_tup sx1, I.a "tuple" (by decide) "tuple" (by decide), _, rfl, _, _, _, _, _, rfl, .ty _, tyx_tup sy1, I.a "tuple" (by decide) "tuple" (by decide), rfl, false, rfl, iteF ?_⟩
        refine ⟨_, rfl, a1, xs1, rfl, .inr sx1, _, rfl, a2, xs2, rfl, .inr sy1, rfl, true, by rw [← l1, ← l2, decide_eq_true rfl], iteT ?_⟩
        refine ⟨_, rfl, _, rfl, a1, a2, xs1, xs2, rfl, .inr ⟨sx1, sy1, same_zip (walk_zipT (by omega)) (fun H' e => ⟨ex_t e sx1, ex_t e sy1⟩) (pmono q1 fun _ _ z => dp_ex e1 z) (pmono q2 fun _ _ z => dp_ex e1 z) hl hok (fun _ _ => rfl) (fun _ _ => ⟨rfl, rfl⟩) fun D H2 bs hD e2 hd hb => ?_⟩⟩
        refine ⟨D, bs, rfl, .inl (.inl hd), ?_⟩
        rw [hb]
        exact q _ (e1.trans e2)
end
end K8

set_option maxRecDepth 100000
set_option maxHeartbeats 4000000
/-! the law by hand -/
namespace K8
open PySem PySem.Spec PyProof.Rows L2
open Evl (Ex ex_l ex_t sz_of sz_lt)
def twnB (rs : Prs) : Bool := rs.all (fun q => decide (1 ≤ q.1) && decide (1 ≤ q.2) && decide (q.1 < 2 ^ 64)) && decide (rs.Pairwise fun a b => a.1 < b.1) && decide (rs.length ≤ 1000)
theorem twn_of {rs : Prs} (h : twnB rs = true) : Twn rs := by
  unfold twnB at h
  rw [Bool.and_eq_true, Bool.and_eq_true] at h
  obtain ⟨⟨h1, h2⟩, h3⟩ := h
  have h1' : ∀ q ∈ rs, 1 ≤ q.1 ∧ 1 ≤ q.2 ∧ q.1 < 2 ^ 64 := fun q hq => by
    have := List.all_eq_true.mp h1 q hq
    rw [Bool.and_eq_true, Bool.and_eq_true] at this
    exact ⟨of_decide_eq_true this.1.1, of_decide_eq_true this.1.2, of_decide_eq_true this.2⟩
  have h2' : rs.Pairwise fun a b => a.1 < b.1 := of_decide_eq_true h2
  exact ⟨fun q hq => ⟨(h1' q hq).1, (h1' q hq).2.1⟩, h2', fun q hq => (h1' q hq).2.2, of_decide_eq_true h3⟩
def ownB (ss : List Stp) (o : Str) : Bool := match coV o with
  | none => false
  | some ps => twnB ps && coTok (runF ss ps)
def ownT (ss : List Stp) (o : Str) : Str := coT (runF ss ((coV o).getD []))
theorem own_of {ss : List Stp} {o : Str} (h : ownB ss o = true) : ∃ ps, coV o = some ps ∧ Twn ps ∧ coTok (runF ss ps) = true ∧ ownT ss o = coT (runF ss ps) := by
  unfold ownB at h
  unfold ownT
  cases hc : coV o with
  | none =>
    rw [hc] at h
    cases h
  | some ps =>
    rw [hc] at h
    dsimp only at h
    rw [Bool.and_eq_true] at h
    exact ⟨ps, rfl, twn_of h.1, h.2, rfl⟩
def ss0 : List Stp := [(false, 10), (true, 3), (false, 8), (true, 5), (false, 6)]
def ss1 : List Stp := [(false, 10 ^ 40), (true, 2)]
def owns : List Str := ["5x2", "2 3 5", "1 2 7", "1 3 6", "2 8", "9", "4 6", "1 9", "3x2 4", "2x2 6", "10", "1 3 5x2", "2x4 6", "5 6"]
def exps : List Str := ["5x2", "-", "-", "6", "8", "-", "6", "9", "-", "-", "10", "5x2", "-", "5 6"]
def farT : Str := (("county 1" : Str) ++ ⟨List.foldl (fun x1 x2 => x1 ++ x2) #[] (List.replicate (Int.toNat 40) ("0" : Str).cps)⟩) ++ ("; town 2" : Str)
theorem hs0 : scV ("county 10; town 3; county 8; town 5; county 6" : Str) = some ss0 := by decide +kernel
theorem hs1 : scV farT = some ss1 := by decide +kernel
theorem hs4 : scV ("town 4" : Str) = some [(true, 4)] := by decide +kernel
theorem owns_ok : owns.all (ownB ss0) = true := by decide +kernel
theorem owns_t : owns.map (ownT ss0) = exps := by decide +kernel
theorem least0 : leastF (formOfStepsF ss0) = 5 := by decide +kernel
theorem floors0 : (List.range 5).map (fun (i : Nat) => floorF (formOfStepsF ss0) (1 + (i : Int))) = [10, 8, 8, 6, 6] := by decide +kernel
theorem floor01 : floorF (formOfStepsF ss0) 1 = 10 := by decide +kernel
theorem far_least : leastF (formOfStepsF ss1) = 2 := by decide +kernel
theorem far_f1 : floorF (formOfStepsF ss1) 1 = (10 : Int) ^ (Int.toNat 40) := by decide +kernel
theorem far_f2 : floorF (formOfStepsF ss1) 2 = 2 := by decide +kernel
theorem near_least : leastF (formOfStepsF []) = 1 := by decide +kernel
theorem near_f1 : floorF (formOfStepsF []) 1 = 1 := by decide +kernel
theorem four_f1 : floorF (formOfStepsF [(true, 4)]) 1 = 4 := by decide +kernel
theorem far_a : twnB [(1, (10 : Int) ^ (Int.toNat 40) - 2), (2, 1)] = true ∧ coTok (runF ss1 [(1, (10 : Int) ^ (Int.toNat 40) - 2), (2, 1)]) = true ∧ coT (runF ss1 [(1, (10 : Int) ^ (Int.toNat 40) - 2), (2, 1)]) = ("2" : Str) := by decide +kernel
theorem far_b : twnB [(1, (10 : Int) ^ (Int.toNat 40) - 3), (2, 1)] = true ∧ coTok (runF ss1 [(1, (10 : Int) ^ (Int.toNat 40) - 3), (2, 1)]) = true ∧ coT (runF ss1 [(1, (10 : Int) ^ (Int.toNat 40) - 3), (2, 1)]) = ("-" : Str) := by decide +kernel
theorem rng_get {n i z : Nat} (h : (List.range n)[i]? = some z) : z = i := by
  have hi : i < n := by
    have := (List.getElem?_eq_some_iff.mp h).1
    rwa [List.length_range] at this
  rw [List.getElem?_range hi] at h
  exact (Option.some.inj h).symm
/-- a list that stays while it is held, and its data -/
def LsD (K : PySem.W.Frag) (H : Hp) (o : Addr) (ds : List PyData) : Prop := ∃ xs, H o = some (.lst xs) ∧ DpAll K H xs ds
theorem LsD.ex {K : PySem.W.Frag} {H H' : Hp} {o : Addr} {ds : List PyData} (e : Ex H H') (h : LsD K H o ds) : LsD K H' o ds := let ⟨xs, a, b⟩ := h; ⟨xs, e _ _ a, dpa_ex e b⟩
theorem dpa_app {K : PySem.W.Frag} {H : Hp} {xs ys : List V} {ds es : List PyData} (a : DpAll K H xs ds) (b : DpAll K H ys es) : DpAll K H (xs ++ ys) (ds ++ es) := dp_unpair (papp (dp_pair a) (dp_pair b))
theorem dpa_str {K : PySem.W.Frag} {H : Hp} : ∀ ts : List Str, DpAll K H (ts.map V.str) (ts.map PyData.str)
  | [] => .nil
  | t :: r => .cons (.str t) (dpa_str r)
theorem dpa_int {K : PySem.W.Frag} {H : Hp} : ∀ ts : List Int, DpAll K H (ts.map V.int) (ts.map PyData.int)
  | [] => .nil
  | t :: r => .cons (.int t) (dpa_int r)
def spScInit0 (K : PySem.W.Frag) (C CS e : Addr) : Sp := fun vs H Q E => spScInit K C CS (vs ++ [.ref e]) H Q E
def okB : Nat → PyData → Bool
  | _, .int _ => true
  | _, .str _ => true
  | n + 1, .list ds => decide (ds.length ≤ 1000) && ds.all (okB n)
  | n + 1, .tuple ds => decide (ds.length ≤ 1000) && ds.all (okB n)
  | _, _ => false
theorem okD_of : ∀ (n : Nat) (d : PyData), okB n d = true → okD n d
  | 0, .int _, _ => trivial
  | _ + 1, .int _, _ => trivial
  | 0, .str _, _ => trivial
  | _ + 1, .str _, _ => trivial
  | n + 1, .list ds, h => by
    have h' := Bool.and_eq_true_iff.mp h
    exact ⟨of_decide_eq_true h'.1, fun d hd => okD_of n d (List.all_eq_true.mp h'.2 d hd)⟩
  | n + 1, .tuple ds, h => by
    have h' := Bool.and_eq_true_iff.mp h
    exact ⟨of_decide_eq_true h'.1, fun d hd => okD_of n d (List.all_eq_true.mp h'.2 d hd)⟩
  | 0, .list _, h => nomatch h
  | 0, .tuple _, h => nomatch h
  | 0, .none, h => nomatch h
  | _ + 1, .none, h => nomatch h
  | 0, .bool _, h => nomatch h
  | _ + 1, .bool _, h => nomatch h
  | 0, .dict _, h => nomatch h
  | _ + 1, .dict _, h => nomatch h
theorem dpa_len {K : PySem.W.Frag} {H : Hp} {xs : List V} {ds : List PyData} (h : DpAll K H xs ds) : xs.length = ds.length := (plen (dp_pair h)).symm
/-- one list behind another, in a new one -/
theorem LsD.cat {K : PySem.W.Frag} {H : Hp} {r : Addr} {xs ys : List V} {ds es : List PyData} (hr : H r = none) (a : DpAll K H xs ds) (b : DpAll K H ys es) : LsD K (upd H r (.lst (xs ++ ys))) r (ds ++ es) := ⟨_, upd_same, dpa_ex (ex_new hr) (dpa_app a b)⟩
theorem ex_put {H : Hp} {o : Addr} {x y : HO} (h : H o = none) : Ex H (upd (upd H o x) o y) := fun b z e => by
  rw [upd_ne (ne_of_none e h), upd_ne (ne_of_none e h)]
  exact e
def dHead : List PyData := [.int 5, .list [.int 10, .int 8, .int 8, .int 6, .int 6], .int 10]
def iTail : List Int := [2, (10 : Int) ^ (Int.toNat 40), 2, 1, 1, 4]
/-- a call of an instance, its reading free of the block -/
def tIn (C : Addr) (sp : Sp) (tf : TE) (t : TA) : TE := fun σ H Q => tf σ H fun y H1 => ∃ a, y = V.ref a ∧ t σ H1 fun vs H2 => ((∃ dx vs, SlX.Slt H2 a C dx vs) ∨ ∃ dx fs, H2 a = some (.ins C dx fs)) ∧ sp (V.ref a :: vs) H2 Q E0
theorem pe_inB {X : Cx} {k : Nat} {C : Addr} {sp : Sp} {e fe : Expr} {es : List Expr} {t : TA} {tf : TE} {pos : PySem.Pos} (hf : PE X fe tf) (c : InC X.prog X.w X.K X.mg X.base C k sp) (hr : Room k X.A) (ha : PA X (e :: es) t)
    (ht : eval (.Call fe (e :: es) [] pos) X.env = (do callWith pos (← eval fe X.env) [] (backTo pos (starEach (e :: es) X.env)) (backToKw pos (keywordEach [] X.env))) := by rfl)
    (he : starEach (e :: es) X.env = (false, eval e X.env) :: starEach es X.env := by rfl) (hpl : (backTo pos (starEach es X.env)).any (·.1) = false := by rfl) : PE X (.Call fe (e :: es) [] pos) (tIn C sp tf t) := pe_in hf c hr ha ht he hpl
section
variable {P : Program} {w : World} {K : PySem.W.Frag} {mg : Str → Option Value} {base : Heap} {C CC CS : Addr}
abbrev sHand : Stmt := top 62
abbrev nHand : List Str := ["_law_host_here", "_law_got", "_law_goal", "_law_some", "_law_far", "_law_near", "_law_k", "_law_own"]
theorem scHand : FnScope nHand [] (defScope sHand) := ⟨rfl, rfl, rfl, by decide +kernel, rfl, by decide +kernel, by decide +kernel⟩
def spHand : Sp := fun vs H Q _ => vs = [] ∧ ∀ H', Ex H H' → Q (.bl true) H'
theorem ok_hand {f e : Addr} {fd : FuncData} (F : FnP K "_law_by_hand_right" "_law_by_hand_right" sHand [] f fd) (T : Bt mg) (TP : ClsP K C) (TC : ClsC K CC) (he : ∀ H, PsT K H e [])
    (G1 : StC P w K mg base "Script" "of" 7 (spScOf K C CS)) (G2 : PrC P w K mg base C "least" 2 (spScLeast K C CS)) (G3 : MeC P w K mg base C "floor" 3 (spScFloor K C CS)) (G4 : KwC P w K mg base C "floor" "size" 3 (spScFloor K C CS))
    (G5 : InC P w K mg base C 6 (spScCall K C CS CC)) (G6 : StC P w K mg base "County" "of" 4 (spCoOf K CC)) (G7 : PrC P w K mg base CC "text" 2 (spCoText K CC)) (G8 : MkC P w K mg base "Script" C 5 (spScInit0 K C CS e))
    (G9 : MkC P w K mg base "County" CC 2 (spCoInit K CC)) (G10 : Cal P w K mg base "_law_same" 3 (spSame K 2)) : FnOk P w K mg base CX0 8 f fd [] spHand := by
  refine ok_of F scHand (fun vs H Q E h => ?_) (fun cdv A outer s H vs Q E hr h => ?_)
  · obtain ⟨rfl, _⟩ := h
    rfl
  · obtain ⟨rfl, q⟩ := h
    have nd := scHand.nd
    have hsz := sizeLine_eq
    refine ⟨_, pss_cons (ps_set (i := 0) nd rfl (.inr rfl) (pe_st G1 hr (pa_cons pe_str pa_nil)))
      (pss_cons (ps_set (i := 1) nd rfl (.inl rfl) (pe_lst (pa_cons (pe_pr (pv 0) TP.cl G2 (hr.mono (by decide))) (pa_cons
        (pe_lc (own := [("_law_k", 6)]) (g := gName 6) (tt := tYes) rfl nd (pi_range2 (by rfl) T.range (pa_cons pe_int (pa_cons pe_int pa_nil))) (blkOk_by (N := nHand) (sc := defScope sHand) (by decide +kernel))
          (fun _ _ _ _ _ => pg_name (i := 6) nd rfl (Or.inl rfl)) (fun _ _ _ _ _ => pts_nil) (fun _ _ _ _ _ => pe_me (pv 0) TP.cl G3 (hr.mono (by decide)) (pa_cons (pv 6) pa_nil)))
        (pa_cons (pe_mek (pv 0) TP.cl G4 (hr.mono (by decide)) pe_int) pa_nil)))))
      (pss_cons (ps_set (i := 2) nd rfl (.inl rfl) (pe_lst (pa_cons pe_int (pa_cons (pe_lst (pa_cons pe_int (pa_cons pe_int (pa_cons pe_int (pa_cons pe_int (pa_cons pe_int pa_nil)))))) (pa_cons pe_int pa_nil)))))
      (pss_cons (ps_set (i := 3) nd rfl (.inl rfl) (pe_lst (pa_cons pe_str (pa_cons pe_str (pa_cons pe_str (pa_cons pe_str (pa_cons pe_str (pa_cons pe_str (pa_cons pe_str (pa_cons pe_str (pa_cons pe_str (pa_cons pe_str (pa_cons pe_str (pa_cons pe_str (pa_cons pe_str pa_nil)))))))))))))))
      (pss_cons (ps_expr (pe_bm PySem.F.plainAttrs_list PySem.F.slot_list_append PySem.F.type_list_append mt_append (pv 3) (pa_cons pe_str pa_nil)))
      (pss_cons (ps_set (i := 1) nd rfl (.inl rfl) (pe_op op_cat (pv 1)
        (pe_lc (own := [("_law_own", 7)]) (g := gName 7) (tt := tYes) rfl nd (pi_list (pv 3)) (blkOk_by (N := nHand) (sc := defScope sHand) (by decide +kernel))
          (fun _ _ _ _ _ => pg_name (i := 7) nd rfl (Or.inl rfl)) (fun _ _ _ _ _ => pts_nil) (fun _ _ _ _ _ => pe_pr (pe_inB (pv 0) G5 (hr.mono (by decide)) (pa_cons (pe_st G6 (hr.mono (by decide)) (pa_cons (pv 7) pa_nil)) pa_nil)) TC.cl G7 (hr.mono (by decide))))))
      (pss_cons (ps_set (i := 2) nd rfl (.inl rfl) (pe_op op_cat (pv 2) (pe_lst (pa_cons pe_str (pa_cons pe_str (pa_cons pe_str (pa_cons pe_str (pa_cons pe_str (pa_cons pe_str (pa_cons pe_str (pa_cons pe_str (pa_cons pe_str (pa_cons pe_str (pa_cons pe_str (pa_cons pe_str (pa_cons pe_str (pa_cons pe_str pa_nil)))))))))))))))))
      (pss_cons (ps_par (i := 4) (j := 5) rfl nd rfl rfl (by decide) rfl rfl (pa_cons (pe_st G1 hr (pa_cons (pe_op op_add_str (pe_op op_add_str pe_str (pe_op op_repS pe_str pe_int)) pe_str) pa_nil)) (pa_cons (pe_mk0 G8 (hr.mono (by decide))) pa_nil)) (by rfl))
      (pss_cons (ps_set (i := 1) nd rfl (.inl rfl) (pe_op op_cat (pv 1) (pe_lst (pa_cons (pe_pr (pv 4) TP.cl G2 (hr.mono (by decide))) (pa_cons (pe_me (pv 4) TP.cl G3 (hr.mono (by decide)) (pa_cons pe_int pa_nil)) (pa_cons (pe_me (pv 4) TP.cl G3 (hr.mono (by decide)) (pa_cons pe_int pa_nil))
          (pa_cons (pe_pr (pv 5) TP.cl G2 (hr.mono (by decide))) (pa_cons (pe_me (pv 5) TP.cl G3 (hr.mono (by decide)) (pa_cons pe_int pa_nil)) (pa_cons (pe_me (pe_st G1 hr (pa_cons pe_str pa_nil)) TP.cl G3 (hr.mono (by decide)) (pa_cons pe_int pa_nil)) pa_nil)))))))))
      (pss_cons (ps_set (i := 2) nd rfl (.inl rfl) (pe_op op_cat (pv 2) (pe_lst (pa_cons pe_int (pa_cons (pe_op op_pow pe_int pe_int) (pa_cons pe_int (pa_cons pe_int (pa_cons pe_int (pa_cons pe_int pa_nil)))))))))
      (pss_cons (ps_set (i := 1) nd rfl (.inl rfl) (pe_op op_cat (pv 1) (pe_lst (pa_cons (pe_pr (pe_inB (pv 4) G5 (hr.mono (by decide)) (pa_cons (pe_mk G9 (hr.mono (by decide)) (pa_cons (pe_tup (pa_cons (pe_tup (pa_cons pe_int (pa_cons (pe_op op_sub (pe_op op_pow pe_int pe_int) pe_int) pa_nil))) (pa_cons (pe_tup (pa_cons pe_int (pa_cons pe_int pa_nil))) pa_nil))) pa_nil)) pa_nil)) TC.cl G7 (hr.mono (by decide)))
          (pa_cons (pe_pr (pe_inB (pv 4) G5 (hr.mono (by decide)) (pa_cons (pe_mk G9 (hr.mono (by decide)) (pa_cons (pe_tup (pa_cons (pe_tup (pa_cons pe_int (pa_cons (pe_op op_sub (pe_op op_pow pe_int pe_int) pe_int) pa_nil))) (pa_cons (pe_tup (pa_cons pe_int (pa_cons pe_int pa_nil))) pa_nil))) pa_nil)) pa_nil)) TC.cl G7 (hr.mono (by decide))) pa_nil)))))
      (pss_one (ps_ret (pe_cal G10 (hr.mono (by decide)) (pa_cons (pv 1) (pa_cons (pe_op op_cat (pv 2) (pe_lst (pa_cons pe_str (pa_cons pe_str pa_nil)))) pa_nil))))))))))))))), ?_⟩
    -- host
    refine ⟨_, ss0, rfl, hs0, fun v0 H1 e1 hv0 hl0 hp0 => ?_⟩
    have hv0' := hv0
    obtain ⟨a0, dx0, r0, f0, rfl, ha0, _, _⟩ := hv0'
    -- got
    refine ⟨_, rfl, a0, dx0, _, rfl, ha0, _, ss0, rfl, hv0, hl0, fun H2 e2 => ?_⟩
    rw [least0]
    refine ⟨1, 6, rfl, ⟨by decide, by decide, by decide, by decide⟩, ?_⟩
    refine lc_map (List.range 5) (fun _ => true) (fun i v _ => v = .int (floorF (formOfStepsF ss0) (1 + (i : Int)))) (by rw [List.length_range]; exact walk_range (lo := 1) (n := 5)) (by decide) (fun _ _ => trivial) (fun _ _ _ _ _ z => z) ?_ ?_
    · rintro i z x Ha Hb hz ea ⟨rfl, rfl⟩ N1 N0 k1 k0
      obtain rfl := rng_get hz
      exact ⟨rfl, _, rfl, a0, dx0, _, rfl, (e2.trans ea) _ _ ha0, scFs_no (by decide +kernel) (by decide +kernel), _, rfl, _, ss0, _, rfl, hv0.ex (e2.trans ea), hl0, fun Hc ec => k1 rfl _ _ ec rfl⟩
    intro l2 H3 ys hl2 e3 hd3 pk
    rw [filter_all] at pk
    have ey : ys = [10, 8, 8, 6, 6].map V.int := by
      rw [pmapEq pk, ← floors0, List.map_map]
      rfl
    subst ey
    have E3 := e2.trans e3
    refine ⟨_, rfl, a0, dx0, _, rfl, E3 _ _ ha0, scFs_no (by decide +kernel) (by decide +kernel), _, ss0, 1, rfl, hv0.ex E3, hl0, fun H4 e4 => ?_⟩
    rw [floor01]
    refine ⟨(by show 3 ≤ sizeLine; omega), fun o1 ho1 => ?_⟩
    have e5 := ex_new (o := .lst [.int 5, .ref l2, .int 10]) ho1
    have g1 : LsD K (upd H4 o1 (.lst [.int 5, .ref l2, .int 10])) o1 [.int 5, .list [.int 10, .int 8, .int 8, .int 6, .int 6], .int 10] :=
      ⟨_, upd_same, .cons (.int 5) (.cons (.lst (.inl (.inl (e5 _ _ (e4 _ _ hd3)))) (dpa_int [10, 8, 8, 6, 6])) (.cons (.int 10) .nil))⟩
    have h1 := hv0.ex ((E3.trans e4).trans e5)
    have EE := ((e1.trans E3).trans e4).trans e5
    generalize upd H4 o1 (.lst [.int 5, .ref l2, .int 10]) = H5 at g1 h1 EE ⊢
    clear e5 ho1 e4 hd3 pk e3 hl2 E3 e2 ha0 e1
    -- goal
    refine ⟨(by show 5 ≤ sizeLine; omega), fun l3 hl3 => ⟨(by show 3 ≤ sizeLine; omega), fun o2 ho2 => ?_⟩⟩
    have e5 := (ex_new (o := .lst [.int 10, .int 8, .int 8, .int 6, .int 6]) hl3).trans (ex_new (o := .lst [.int 5, .ref l3, .int 10]) ho2)
    have g2 : LsD K (upd (upd H5 l3 (.lst [.int 10, .int 8, .int 8, .int 6, .int 6])) o2 (.lst [.int 5, .ref l3, .int 10])) o2 [.int 5, .list [.int 10, .int 8, .int 8, .int 6, .int 6], .int 10] :=
      ⟨_, upd_same, .cons (.int 5) (.cons (.lst (.inl (.inl (ex_new ho2 _ _ upd_same))) (dpa_int [10, 8, 8, 6, 6])) (.cons (.int 10) .nil))⟩
    have g1 := g1.ex e5
    have h1 := h1.ex e5
    have EE := EE.trans e5
    generalize upd (upd H5 l3 (.lst [.int 10, .int 8, .int 8, .int 6, .int 6])) o2 (.lst [.int 5, .ref l3, .int 10]) = H6 at g1 g2 h1 EE ⊢
    clear e5 ho2 hl3
    -- some
    refine ⟨(by show 13 ≤ sizeLine; omega), fun o3 ho3 => ?_⟩
    refine ⟨_, rfl, .inl ⟨rfl, _, .inl (.inl upd_same)⟩, o3, _, _, rfl, rfl, upd_same, sz_lt (by show 13 < 100000; decide), ?_⟩
    have h7 : ∀ L : List V, L = owns.map V.str → ∀ H7 : Hp, H7 = upd (upd H6 o3 (.lst [.str "5x2", .str "2 3 5", .str "1 2 7", .str "1 3 6", .str "2 8", .str "9", .str "4 6", .str "1 9", .str "3x2 4", .str "2x2 6", .str "10", .str "1 3 5x2", .str "2x4 6"])) o3 (.lst L) → Ex H6 H7 ∧ H7 o3 = some (.lst (owns.map V.str)) := by
      intro L eL H7 e7
      subst e7
      subst eL
      exact ⟨ex_put ho3, upd_same⟩
    obtain ⟨e7, hd7⟩ := h7 ([.str "5x2", .str "2 3 5", .str "1 2 7", .str "1 3 6", .str "2 8", .str "9", .str "4 6", .str "1 9", .str "3x2 4", .str "2x2 6", .str "10", .str "1 3 5x2", .str "2x4 6"] ++ [.str "5 6"]) rfl _ rfl
    generalize upd (upd H6 o3 _) o3 _ = H7 at e7 hd7 ⊢
    have g1 := g1.ex e7
    have g2 := g2.ex e7
    have h1 := h1.ex e7
    have EE := EE.trans e7
    clear e7 ho3 h7
    -- the Counties that are shown
    obtain ⟨xs1, hx1, dx1⟩ := g1
    obtain ⟨xs2, hx2, dx2⟩ := g2
    have hv0 := h1
    obtain ⟨a0', dx0', r0', f0', eq0, ha0, _, _⟩ := h1
    cases eq0
    have hd7' : SqL K H7 o3 (owns.map V.str) := .inl (.inl hd7)
    refine ⟨_, rfl, _, rfl, o3, rfl, ⟨_, hd7'⟩, ?_⟩
    refine lc_map owns (fun _ => true) (fun o v _ => v = .str (ownT ss0 o)) (by rw [← List.length_map (f := V.str)]; exact walk_list) (by decide) (fun H' e => ex_l e hd7') (fun _ _ _ _ _ z => z) ?_ ?_
    · rintro i z x Ha Hb hz ea ⟨rfl, hx⟩ N1 N0 k1 k0
      rw [List.getElem?_map, hz] at hx
      obtain rfl := Option.some.inj hx
      obtain ⟨ps, hps, tw, tok, et⟩ := own_of (List.all_eq_true.mp owns_ok z (List.mem_of_getElem? hz))
      refine ⟨rfl, _, rfl, a0, rfl, _, rfl, z, ps, rfl, hps, fun vC Hc ec hC => ⟨.inr ⟨_, _, (ea.trans ec) _ _ ha0⟩, _, vC, ss0, ps, rfl, hv0.ex (ea.trans ec), hl0, hp0, hC, tw, fun v' Hd ed hv' ht' => ?_⟩⟩
      have hv2 := hv'
      obtain ⟨aC, dxC, rC, rfl, haC, _⟩ := hv2
      refine ⟨aC, dxC, _, rfl, haC, _, _, rfl, hv', tok, fun He ee => ?_⟩
      rw [← et]
      exact k1 rfl _ _ (ec.trans (ed.trans ee)) rfl
    intro D H8 ys hD e8 hd8 pk
    rw [filter_all] at pk
    have ey : ys = exps.map V.str := by
      rw [pmapEq pk, ← owns_t, List.map_map]
      rfl
    subst ey
    have l1 : xs1.length = 3 := dpa_len dx1
    have l2 : xs2.length = 3 := dpa_len dx2
    refine ⟨o1, D, xs1, _, rfl, rfl, e8 _ _ hx1, hd8, sz_of (by rw [l1]; decide), fun o4 ho4 => ?_⟩
    have e9 := ex_new (o := .lst (xs1 ++ exps.map V.str)) ho4
    have g1 : LsD K (upd H8 o4 (.lst (xs1 ++ exps.map V.str))) o4 (dHead ++ exps.map PyData.str) := LsD.cat ho4 (dpa_ex e8 dx1) (dpa_str exps)
    have e10 := e8.trans e9
    have dx2 := dpa_ex e10 dx2
    have hx2 := e10 _ _ hx2
    have EE := EE.trans e10
    generalize upd H8 o4 (.lst (xs1 ++ exps.map V.str)) = H9 at g1 dx2 hx2 EE ⊢
    clear pk hd8 e9 ho4 e10 e8 hD dx1 hx1 hd7' hd7 ha0 hv0
    -- goal again
    refine ⟨_, rfl, (by show 14 ≤ sizeLine; omega), fun b hb => ⟨o2, b, xs2, _, rfl, rfl, ex_new hb _ _ hx2, upd_same, sz_of (by rw [l2]; decide), fun o5 ho5 => ?_⟩⟩
    have e9 := ex_new (o := .lst (exps.map V.str)) hb
    have g2 : LsD K (upd (upd H9 b (.lst (exps.map V.str))) o5 (.lst (xs2 ++ exps.map V.str))) o5 (dHead ++ exps.map PyData.str) := LsD.cat ho5 (dpa_ex e9 dx2) (dpa_str exps)
    have e10 : Ex H9 (upd (upd H9 b (.lst (exps.map V.str))) o5 (.lst (xs2 ++ exps.map V.str))) := e9.trans (ex_new ho5)
    have g1 := g1.ex e10
    have EE := EE.trans e10
    have h10 : ∀ H10 : Hp, H10 = upd (upd H9 b (.lst [.str "5x2", .str "-", .str "-", .str "6", .str "8", .str "-", .str "6", .str "9", .str "-", .str "-", .str "10", .str "5x2", .str "-", .str "5 6"])) o5 (.lst (xs2 ++ [.str "5x2", .str "-", .str "-", .str "6", .str "8", .str "-", .str "6", .str "9", .str "-", .str "-", .str "10", .str "5x2", .str "-", .str "5 6"])) → Ex H H10 ∧ LsD K H10 o4 (dHead ++ exps.map PyData.str) ∧ LsD K H10 o5 (dHead ++ exps.map PyData.str) := by
      intro H10 e
      subst e
      exact ⟨EE, g1, g2⟩
    obtain ⟨EE, g1, g2⟩ := h10 _ rfl
    generalize upd (upd H9 b _) o5 _ = H10 at EE g1 g2 ⊢
    -- far, near
    refine ⟨_, _, rfl, rfl, by decide, by decide, by decide +kernel, by decide +kernel, _, _, rfl, rfl, ?_, _, _, rfl, rfl, ?_, farT, ss1, rfl, hs1, fun v1 H11 e11 hv1 hl1 hp1 => ?_⟩
    · rw [hsz]
      decide +kernel
    · rw [hsz]
      decide +kernel
    intro x dx hx hdx hne
    obtain ⟨xe, hxe, pe⟩ := he (upd (upd H11 dx (.own x)) x (.ins C dx []))
    have exe : xe = [] := by
      cases pe
      rfl
    subst exe
    refine ⟨x, dx, e, [], rfl, upd_same, .inr ⟨[], hxe, .nil⟩, Nat.zero_le _, fun r f2 H12 e12 h4 h5 h6 => ⟨rfl, _, _, rfl, ?_⟩⟩
    have hv2 : ScV K C CS H12 (.ref x) [] := ⟨x, dx, r, f2, rfl, h4, h5, h6⟩
    have e13 := ex_made hx hdx e12
    have hv1 := hv1.ex e13
    have g1 := g1.ex (e11.trans e13)
    have g2 := g2.ex (e11.trans e13)
    have EE := EE.trans (e11.trans e13)
    clear e12 e13 e11 hxe pe h5 h6 h10 e10
    -- what both tell
    obtain ⟨xs1, hx1, dx1⟩ := g1
    obtain ⟨a1, dxa1, r1, fo1, rfl, ha1, k1, k2⟩ := hv1
    have hv1 : ScV K C CS H12 (.ref a1) ss1 := ⟨a1, dxa1, r1, fo1, rfl, ha1, k1, k2⟩
    refine ⟨_, rfl, _, rfl, a1, dxa1, _, rfl, ha1, _, ss1, rfl, hv1, hl1, fun H13 e13 => ?_⟩
    rw [far_least]
    refine ⟨_, rfl, a1, dxa1, _, rfl, e13 _ _ ha1, scFs_no (by decide +kernel) (by decide +kernel), _, ss1, 1, rfl, hv1.ex e13, hl1, fun H14 e14 => ?_⟩
    rw [far_f1]
    have e14 := e13.trans e14
    refine ⟨_, rfl, a1, dxa1, _, rfl, e14 _ _ ha1, scFs_no (by decide +kernel) (by decide +kernel), _, ss1, 2, rfl, hv1.ex e14, hl1, fun H15 e15 => ?_⟩
    rw [far_f2]
    have e15 := e14.trans e15
    refine ⟨_, rfl, x, dx, _, rfl, e15 _ _ h4, _, [], rfl, hv2.ex e15, Nat.zero_le _, fun H16 e16 => ?_⟩
    rw [near_least]
    have e16 := e15.trans e16
    refine ⟨_, rfl, x, dx, _, rfl, e16 _ _ h4, scFs_no (by decide +kernel) (by decide +kernel), _, [], 1, rfl, hv2.ex e16, Nat.zero_le _, fun H17 e17 => ?_⟩
    rw [near_f1]
    have e17 := e16.trans e17
    refine ⟨("town 4" : Str), [(true, 4)], rfl, hs4, fun v4 H18 e18 hv4 hl4 hp4 => ?_⟩
    obtain ⟨a4, dxa4, r4, fo4, rfl, ha4, k41, k42⟩ := hv4
    refine ⟨a4, dxa4, _, rfl, ha4, scFs_no (by decide +kernel) (by decide +kernel), _, [(true, 4)], 1, rfl, ⟨a4, dxa4, r4, fo4, rfl, ha4, k41, k42⟩, hl4, fun H19 e19 => ?_⟩
    rw [four_f1]
    have e19 := (e17.trans e18).trans e19
    refine ⟨(by show 6 ≤ sizeLine; omega), fun b6 hb6 => ?_⟩
    have l1 := dpa_len dx1
    have l1' : xs1.length = 17 := l1.trans (by decide +kernel)
    have e20 := e19.trans (ex_new (o := .lst [.int 2, .int ((10 : Int) ^ (Int.toNat 40)), .int 2, .int 1, .int 1, .int 4]) hb6)
    refine ⟨o4, b6, xs1, _, rfl, rfl, e20 _ _ hx1, upd_same, sz_of (by rw [l1']; decide), fun o6 ho6 => ?_⟩
    have e21 := e20.trans (ex_new (o := .lst (xs1 ++ [.int 2, .int ((10 : Int) ^ (Int.toNat 40)), .int 2, .int 1, .int 1, .int 4])) ho6)
    have g1 : LsD K _ o6 ((dHead ++ exps.map PyData.str) ++ iTail.map PyData.int) := LsD.cat ho6 (dpa_ex e20 dx1) (dpa_int iTail)
    have g2 := g2.ex e21
    have hv1 := hv1.ex e21
    have EE := EE.trans e21
    have h20 : ∀ H20 : Hp, H20 = upd (upd H19 b6 (.lst [.int 2, .int ((10 : Int) ^ (Int.toNat 40)), .int 2, .int 1, .int 1, .int 4])) o6 (.lst (xs1 ++ [.int 2, .int ((10 : Int) ^ (Int.toNat 40)), .int 2, .int 1, .int 1, .int 4])) →
        Ex H H20 ∧ LsD K H20 o6 ((dHead ++ exps.map PyData.str) ++ iTail.map PyData.int) ∧ LsD K H20 o5 (dHead ++ exps.map PyData.str) ∧ ScV K C CS H20 (.ref a1) ss1 := by
      intro H20 e
      subst e
      exact ⟨EE, g1, g2, hv1⟩
    obtain ⟨EE, g1, g2, hv1⟩ := h20 _ rfl
    generalize upd (upd H19 b6 _) o6 _ = H20 at EE g1 g2 hv1 ⊢
    clear h20 e21 e20 e19 e17 e16 e15 e14 e13 ha1 h4 ho6 hb6 hx1 dx1
    obtain ⟨xs2, hx2, dx2⟩ := g2
    have l2' : xs2.length = 17 := (dpa_len dx2).trans (by decide +kernel)
    refine ⟨_, rfl, _, _, rfl, rfl, ⟨by decide, by decide, by decide⟩, (by show 6 ≤ sizeLine; omega), fun b7 hb7 => ⟨o5, b7, xs2, _, rfl, rfl, ex_new hb7 _ _ hx2, upd_same, sz_of (by rw [l2']; decide), fun o7 ho7 => ?_⟩⟩
    have e21 := ex_new (o := .lst [.int 2, .int ((10 : Int) ^ (Int.toNat 40)), .int 2, .int 1, .int 1, .int 4]) hb7
    have g2 : LsD K (upd (upd H20 b7 (.lst [.int 2, .int ((10 : Int) ^ (Int.toNat 40)), .int 2, .int 1, .int 1, .int 4])) o7 (.lst (xs2 ++ [.int 2, .int ((10 : Int) ^ (Int.toNat 40)), .int 2, .int 1, .int 1, .int 4]))) o7 ((dHead ++ exps.map PyData.str) ++ iTail.map PyData.int) := LsD.cat ho7 (dpa_ex e21 dx2) (dpa_int iTail)
    have e22 : Ex H20 (upd (upd H20 b7 (.lst [.int 2, .int ((10 : Int) ^ (Int.toNat 40)), .int 2, .int 1, .int 1, .int 4])) o7 (.lst (xs2 ++ [.int 2, .int ((10 : Int) ^ (Int.toNat 40)), .int 2, .int 1, .int 1, .int 4]))) := e21.trans (ex_new ho7)
    have g1 := g1.ex e22
    have hv1 := hv1.ex e22
    have EE := EE.trans e22
    generalize upd (upd H20 b7 _) o7 _ = H21 at EE g1 g2 hv1 ⊢
    clear e22 e21 hx2 dx2 ho7 hb7
    -- far Counties
    refine ⟨_, rfl, ?_⟩
    refine ⟨_, rfl, a1, rfl, _, _, rfl, rfl, ⟨by decide, by decide, by decide⟩, _, _, rfl, rfl, (by show 2 ≤ sizeLine; omega), fun t1 ht1 => ⟨(by show 2 ≤ sizeLine; omega), fun t2 ht2 => ⟨(by show 2 ≤ sizeLine; omega), fun t3 ht3 => ?_⟩⟩⟩
    have m1 := ex_new (o := .tup [.int 1, .int ((10 : Int) ^ (Int.toNat 40) - 2)]) ht1
    have m2 := ex_new (o := .tup [.int 2, .int 1]) ht2
    have m3 := ex_new (o := .tup [.ref t1, .ref t2]) ht3
    have pX : PsT K (upd (upd (upd H21 t1 (.tup [.int 1, .int ((10 : Int) ^ (Int.toNat 40) - 2)])) t2 (.tup [.int 2, .int 1])) t3 (.tup [.ref t1, .ref t2])) t3 [(1, (10 : Int) ^ (Int.toNat 40) - 2), (2, 1)] :=
      ⟨_, tup_new, .cons ⟨t1, rfl, ex_t (m2.trans m3) tup_new⟩ (.cons ⟨t2, rfl, ex_t m3 tup_new⟩ .nil)⟩
    have m4 := (m1.trans m2).trans m3
    generalize upd (upd (upd H21 t1 _) t2 _) t3 _ = Hm at pX m4 ⊢
    clear m1 m2 m3 ht1 ht2 ht3
    intro x dx hx hdx hne
    have m5 : Ex Hm (upd (upd Hm dx (.own x)) x (.ins CC dx [])) := fun b o h => by
      rw [upd_ne (ne_of_none h hx), upd_ne (ne_of_none h hdx)]
      exact h
    have tw := twn_of far_a.1
    refine ⟨x, dx, t3, _, rfl, upd_same, .inr (pX.ex m5), tw.pos, by decide, fun r qs Hn en h4 h5 hs => ⟨rfl, ?_⟩⟩
    have eq := hs.same tw.asc
    subst eq
    have m6 := m4.trans (ex_made hx hdx en)
    have hv1n := hv1.ex m6
    obtain ⟨a1', dxa1, r1, fo1, eqa, ha1, _, _⟩ := hv1n
    cases eqa
    refine ⟨.inr ⟨_, _, ha1⟩, _, .ref x, ss1, _, rfl, hv1.ex m6, hl1, hp1, ⟨x, dx, r, rfl, h4, h5⟩, tw, fun v' Hp ep hv' ht' => ?_⟩
    have hv2 := hv'
    obtain ⟨aC, dxC, rC, rfl, haC, _⟩ := hv2
    refine ⟨aC, dxC, _, rfl, haC, _, _, rfl, hv', far_a.2.1, fun H22 ez => ?_⟩
    rw [far_a.2.2]
    have m7 := (m6.trans ep).trans ez
    have EE := EE.trans m7
    have g1 := g1.ex m7
    have g2 := g2.ex m7
    have hv1 := hv1.ex m7
    clear m4 m5 m6 m7 ep ez hv' haC ha1 en h4 h5 hs pX hx hdx
    refine ⟨_, rfl, a1, rfl, _, _, rfl, rfl, ⟨by decide, by decide, by decide⟩, _, _, rfl, rfl, (by show 2 ≤ sizeLine; omega), fun t1 ht1 => ⟨(by show 2 ≤ sizeLine; omega), fun t2 ht2 => ⟨(by show 2 ≤ sizeLine; omega), fun t3 ht3 => ?_⟩⟩⟩
    have m1 := ex_new (o := .tup [.int 1, .int ((10 : Int) ^ (Int.toNat 40) - 3)]) ht1
    have m2 := ex_new (o := .tup [.int 2, .int 1]) ht2
    have m3 := ex_new (o := .tup [.ref t1, .ref t2]) ht3
    have pX : PsT K (upd (upd (upd H22 t1 (.tup [.int 1, .int ((10 : Int) ^ (Int.toNat 40) - 3)])) t2 (.tup [.int 2, .int 1])) t3 (.tup [.ref t1, .ref t2])) t3 [(1, (10 : Int) ^ (Int.toNat 40) - 3), (2, 1)] :=
      ⟨_, tup_new, .cons ⟨t1, rfl, ex_t (m2.trans m3) tup_new⟩ (.cons ⟨t2, rfl, ex_t m3 tup_new⟩ .nil)⟩
    have m4 := (m1.trans m2).trans m3
    generalize upd (upd (upd H22 t1 _) t2 _) t3 _ = Hm at pX m4 ⊢
    clear m1 m2 m3 ht1 ht2 ht3
    intro x dx hx hdx hne
    have m5 : Ex Hm (upd (upd Hm dx (.own x)) x (.ins CC dx [])) := fun b o h => by
      rw [upd_ne (ne_of_none h hx), upd_ne (ne_of_none h hdx)]
      exact h
    have tw := twn_of far_b.1
    refine ⟨x, dx, t3, _, rfl, upd_same, .inr (pX.ex m5), tw.pos, by decide, fun r qs Hn en h4 h5 hs => ⟨rfl, ?_⟩⟩
    have eq := hs.same tw.asc
    subst eq
    have m6 := m4.trans (ex_made hx hdx en)
    have hv1n := hv1.ex m6
    obtain ⟨a1', dxa1, r1, fo1, eqa, ha1, _, _⟩ := hv1n
    cases eqa
    refine ⟨.inr ⟨_, _, ha1⟩, _, .ref x, ss1, _, rfl, hv1.ex m6, hl1, hp1, ⟨x, dx, r, rfl, h4, h5⟩, tw, fun v' Hp ep hv' ht' => ?_⟩
    have hv2 := hv'
    obtain ⟨aC, dxC, rC, rfl, haC, _⟩ := hv2
    refine ⟨aC, dxC, _, rfl, haC, _, _, rfl, hv', far_b.2.1, fun H23 ez => ?_⟩
    rw [far_b.2.2]
    have m7 := (m6.trans ep).trans ez
    have EE := EE.trans m7
    have g1 := g1.ex m7
    have g2 := g2.ex m7
    have hv1 := hv1.ex m7
    clear m4 m5 m6 m7 ep ez hv' haC ha1 en h4 h5 hs pX hx hdx
    obtain ⟨xs1, hx1, dx1⟩ := g1
    have l1 : xs1.length = 23 := (dpa_len dx1).trans (by decide +kernel)
    refine ⟨(by show 2 ≤ sizeLine; omega), fun b8 hb8 => ⟨o6, b8, xs1, _, rfl, rfl, ex_new hb8 _ _ hx1, upd_same, sz_of (by rw [l1]; decide), fun o8 ho8 => ?_⟩⟩
    have e23 := ex_new (o := .lst [.str "2", .str "-"]) hb8
    have g1 : LsD K (upd (upd H23 b8 (.lst [.str "2", .str "-"])) o8 (.lst (xs1 ++ [.str "2", .str "-"]))) o8 (((dHead ++ exps.map PyData.str) ++ iTail.map PyData.int) ++ [.str "2", .str "-"]) := LsD.cat ho8 (dpa_ex e23 dx1) (.cons (.str _) (.cons (.str _) .nil))
    have e24 : Ex H23 (upd (upd H23 b8 (.lst [.str "2", .str "-"])) o8 (.lst (xs1 ++ [.str "2", .str "-"]))) := e23.trans (ex_new ho8)
    have g2 := g2.ex e24
    have EE := EE.trans e24
    generalize upd (upd H23 b8 _) o8 _ = H24 at EE g1 g2 ⊢
    clear e24 e23 hx1 dx1 ho8 hb8
    obtain ⟨xs2, hx2, dx2⟩ := g2
    have l2 : xs2.length = 23 := (dpa_len dx2).trans (by decide +kernel)
    refine ⟨_, rfl, _, rfl, (by show 2 ≤ sizeLine; omega), fun b9 hb9 => ⟨o7, b9, xs2, _, rfl, rfl, ex_new hb9 _ _ hx2, upd_same, sz_of (by rw [l2]; decide), fun o9 ho9 => ?_⟩⟩
    have e25 := ex_new (o := .lst [.str "2", .str "-"]) hb9
    have g2 : LsD K _ o9 (((dHead ++ exps.map PyData.str) ++ iTail.map PyData.int) ++ [.str "2", .str "-"]) := LsD.cat ho9 (dpa_ex e25 dx2) (.cons (.str _) (.cons (.str _) .nil))
    have e26 := e25.trans (ex_new (o := .lst (xs2 ++ [.str "2", .str "-"])) ho9)
    obtain ⟨ys1, hy1, dy1⟩ := g1.ex e26
    obtain ⟨ys2, hy2, dy2⟩ := g2
    exact ⟨_, _, _, rfl, .lst (.inl (.inl hy1)) dy1, .lst (.inl (.inl hy2)) dy2, okD_of _ _ (by decide +kernel), fun H' e27 => q H' ((EE.trans e26).trans e27)⟩
end
end K8

set_option maxRecDepth 100000
set_option maxHeartbeats 4000000
/-! the law's cells -/
namespace K8
open PySem PySem.Spec PyProof.Rows L2
open Evl (Ex ex_l ex_t sz_of sz_lt)
theorem cut_lo (xs : List V) : (cutV xs none (some 3)).length = min 3 xs.length := by
  unfold cutV
  rw [HT.sIx_none, show HT.sIx xs.length xs.length (some 3) = min 3 xs.length from HT.sIx_nat xs.length xs.length 3, List.length_take, List.length_drop]
  omega
theorem cut_hi (xs : List V) : (cutV xs (some 3) (some 63)).length + 3 ≤ max 3 xs.length := by
  unfold cutV
  rw [show HT.sIx xs.length 0 (some 3) = min 3 xs.length from HT.sIx_nat xs.length 0 3, show HT.sIx xs.length xs.length (some 63) = min 63 xs.length from HT.sIx_nat xs.length xs.length 63, List.length_take, List.length_drop]
  omega
theorem cut_int (ns : List Int) (lo hi : Option Int) : ∃ ms : List Int, cutV (ns.map V.int) lo hi = ms.map V.int := by
  obtain ⟨l', p, _⟩ := pcut (F := fun (n : Int) v => v = V.int n) (pmapOf (f := V.int) ns fun _ _ => rfl) lo hi
  exact ⟨l', pmapEq p⟩
section
variable {P : Program} {w : World} {K : PySem.W.Frag} {mg : Str → Option Value} {base : Heap} {C CC CS : Addr}
abbrev sCells : Stmt := top 53
abbrev nCells : List Str := ["_law_script", "_law_top", "_law_cells_here", "_law_k", "_law_cell", "_law_at_so"]
theorem scCells : FnScope nCells ["_law_script", "_law_top"] (defScope sCells) := ⟨rfl, rfl, rfl, by decide +kernel, rfl, by decide +kernel, by decide +kernel⟩
def spCells (K : PySem.W.Frag) : Sp := fun vs H Q _ => ∃ (s : Addr) (ns : List Int), vs = [.ref s, .int 3] ∧ SqL K H s (ns.map V.int) ∧ ns.length ≤ 63 ∧ ∀ l (ms : List Int) H', Ex H H' → H' l = some (.lst (ms.map V.int)) → 1 ≤ ms.length → ms.length ≤ 3 → Q (.ref l) H'
theorem ok_cells {f : Addr} {fd : FuncData} (F : FnP K "_law_cells" "_law_cells" sCells [] f fd) (T : Bt mg) : FnOk P w K mg base CX0 1 f fd ["_law_script", "_law_top"] (spCells K) := by
  refine ok_of F scCells (fun vs H Q E h => ?_) (fun cdv A outer s H vs Q E hr h => ?_)
  · obtain ⟨s0, ns, rfl, _⟩ := h
    rfl
  · obtain ⟨a, ns, rfl, hs, hl, q⟩ := h
    have nd := scCells.nd
    have hsz := sizeLine_eq
    obtain ⟨m1, hm1⟩ := cut_int ns none (some 3)
    obtain ⟨m2, hm2⟩ := cut_int ns (some 3) (some 63)
    have l1 := cut_lo (ns.map V.int)
    have l2 := cut_hi (ns.map V.int)
    rw [hm1, List.length_map, List.length_map] at l1
    rw [hm2, List.length_map, List.length_map] at l2
    obtain ⟨t, ht, run⟩ : ∃ t, PSs (cxOf CX0 P w K mg base nCells "_law_cells" (defScope sCells) f cdv A outer s H E).nox ((defBody sCells).drop 1) t ∧ ∀ (l : Addr) (ms0 : List Int) (H2 : Hp), Ex H H2 → H l = none → H2 l = some (.lst (ms0.map V.int)) → 1 ≤ ms0.length → ms0.length ≤ 3 → (3 < ns.length → ms0.length = 3) →
        t { nx := fun _ H' => Q .non H', rt := Q } [some (.ref a), some (.int 3), some (.ref l), none, none, none] H2 := by
      refine ⟨_, pss_cons (ps_for PassesOwn.never rfl (pi_enum (by rfl) T.enumerate (pa_cons (pe_slice sl_list (pv 0) (po_some (pv 1)) (po_some pe_int)) pa_nil)) (pg_tup rfl (pgs_cons (pg_name (i := 3) nd rfl (.inl rfl)) (pgs_cons (pg_name (i := 4) nd rfl (.inl rfl)) pgs_nil)))
        (pss_cons (ps_set (i := 5) nd rfl (.inl rfl) (pe_op op_mod (pe_callTy call_int1 (by rfl) T.int (by decide +kernel) (pa_cons (pv 3) pa_nil)) (pv 1)))
        (pss_one (ps_asg (pe_op op_add (pe_ix ix_list (pv 2) (pv 5) (fun _ _ => rfl)) (pe_op op_mul (pv 4) (pe_op op_add (pv 3) pe_int))) (pg_sub (pv 2) (pv 5) set_list)))))
        (pss_one (ps_ret (pv 2))), fun l ms0 H2 e2 hl0 hd h1 h3 hn => ?_⟩
      refine ⟨_, rfl, _, rfl, 3, rfl, 63, rfl, a, _, rfl, ex_l e2 hs, fun c hc => ⟨c, m2.map V.int, rfl, ?_, ?_⟩⟩
      · rw [hm2]
        exact lst_new
      rw [hm2]
      have e3 := ex_new (o := .lst (m2.map V.int)) hc
      have hlc : l ≠ c := ne_of_none hd hc
      refine for_it (walk_enum (xs := m2.map V.int)) (fun i σ H' => ∃ y3 y4 y5 ms, σ = [some (.ref a), some (.int 3), some (.ref l), y3, y4, y5] ∧ Ex H H' ∧ H' l = some (.lst (ms.map V.int)) ∧ ms.length = ms0.length ∧ H' c = some (.lst (m2.map V.int)))
        ⟨none, none, none, ms0, rfl, e2.trans e3, e3 _ _ hd, rfl, upd_same⟩ (fun i σ H' _ z => ?_) ?_ ?_
      · obtain ⟨_, _, _, _, _, _, _, _, z⟩ := z
        exact .inl (.inl z)
      · rintro i x σ H3 H4 hi ⟨y3, y4, y5, ms, rfl, e4, hd3, hl3, hc3⟩ ⟨T1, x1, x2, rfl, hT, rfl, h1', h2'⟩
        cases h1'
        rw [List.length_map] at hi
        have h2' : (m2.map V.int)[i]? = some x2 := h2'
        rw [List.getElem?_map, List.getElem?_eq_getElem hi] at h2'
        obtain rfl := Option.some.inj h2'
        have hn3 := hn (by omega)
        have e5 := ex_new (o := .tup [V.int (i : Nat), V.int m2[i]]) hT
        have hlT : l ≠ T1 := ne_of_none hd3 hT
        have hd4 := e5 _ _ hd3
        have hj : ((i : Int) % 3).toNat < ms.length := by omega
        have hj0 : (0 : Int) ≤ (i : Int) % 3 := by omega
        refine ⟨T1, _, rfl, tup_new, rfl, _, _, rfl, _, _, rfl, rfl, ?_⟩
        refine ⟨_, rfl, .inl ⟨_, rfl, _, rfl, _, _, rfl, rfl, (by show (0 : Int) < 3; decide), ?_⟩⟩
        refine ⟨_, rfl, _, rfl, l, _, _, .int (ms[((i : Int) % 3).toNat]'hj), rfl, rfl, .inl (.inl hd4), at_pos hj0 (by rw [List.getElem?_map, List.getElem?_eq_getElem hj]; rfl), _, rfl, _, rfl, _, _, rfl, rfl, _, _, rfl, rfl, .inr ?_, _, _, rfl, rfl, ?_⟩
        · show -(2 ^ 64 : Int) < (i : Int) + 2 ∧ (i : Int) + 2 < 2 ^ 64
          omega
        refine ⟨_, rfl, _, rfl, l, _, _, ((i : Int) % 3).toNat, rfl, rfl, hd4, ?_, ?_⟩
        · unfold ixN
          rw [if_pos hj0, List.length_map, if_pos (by omega)]
        · refine ⟨_, _, _, ms.set ((i : Int) % 3).toNat (ms[((i : Int) % 3).toNat]'hj + m2[i] * ((i : Int) + 2)), rfl, ex_mut (e4.trans e5) hl0, ?_, by rw [List.length_set]; exact hl3, ?_⟩
          · rw [upd_same, List.map_set]
          · rw [upd_ne (fun z => hlc z.symm)]
            exact e5 _ _ hc3
      · rintro σ H3 ⟨y3, y4, y5, ms, rfl, e4, hd3, hl3, hc3⟩
        exact ⟨_, rfl, q l ms H3 e4 hd3 (by omega) (by omega)⟩
    refine ⟨_, pss_cons (ps_set (i := 2) nd rfl (.inl rfl) (pe_orT (pe_callTy call_list_of (by rfl) T.list (by decide +kernel) (pa_cons (pe_slice sl_list (pv 0) po_none (po_some (pv 1))) pa_nil)) (pe_one (pe_lst (pa_cons pe_int pa_nil))))) ht, ?_⟩
    refine ⟨_, rfl, _, rfl, 3, rfl, a, _, rfl, hs, fun c1 hc1 => ?_⟩
    rw [hm1]
    refine ⟨c1, _, rfl, .inl lst_new, fun c2 hc2 => ?_⟩
    have e1 := (ex_new (o := .lst (m1.map V.int)) hc1).trans (ex_new (o := .lst (m1.map V.int)) hc2)
    have hc20 : H c2 = none := Evl.fresh_back (ex_new (o := .lst (m1.map V.int)) hc1) hc2
    refine ⟨_, .inl ⟨_, lst_new, rfl⟩, ?_⟩
    cases m1 with
    | cons x r => exact iteT (run c2 (x :: r) _ e1 hc20 upd_same (by rw [List.length_cons]; omega) (by omega) (fun h => by omega))
    | nil =>
      rw [List.length_nil] at l1
      refine iteF ⟨(by show 1 ≤ sizeLine; omega), fun c3 hc3 => run c3 [0] _ (e1.trans (ex_new hc3)) (Evl.fresh_back e1 hc3) upd_same (Nat.le_refl _) (by decide) (fun h => by omega)⟩
end
end K8

set_option maxRecDepth 100000
set_option maxHeartbeats 4000000
/-! the law's right: one lap -/
namespace K8
open PySem PySem.Spec PyProof.Rows L2
open Evl (Ex ex_l ex_t sz_of sz_lt)
/-- the sizes at which too few rows are there, less one -/
def kl (rs : Prs) (low : Int) (ask : Int → Int) : List Nat := (List.range low.toNat).filter fun (i : Nat) => decide (fromF rs (1 + (i : Int)) < ask (1 + (i : Int)))
theorem kl_iff {rs : Prs} {low : Int} {ask : Int → Int} : lacks rs low ask ↔ kl rs low ask ≠ [] := by
  constructor
  · rintro ⟨k, h1, h2, h3⟩ e
    have := List.filter_eq_nil_iff.mp e (k - 1).toNat (List.mem_range.mpr (by omega))
    have ek : (1 : Int) + (((k - 1).toNat : Nat) : Int) = k := by omega
    rw [ek] at this
    exact this (decide_eq_true h3)
  · intro h
    obtain ⟨i, hi⟩ := List.exists_mem_of_ne_nil _ h
    obtain ⟨h1, h2⟩ := List.mem_filter.mp hi
    have h1 := List.mem_range.mp h1
    exact ⟨1 + (i : Int), by omega, by omega, of_decide_eq_true h2⟩
/-- what is to be shown -/
def goalF (ss : List Stp) (rs : Prs) : Prs := if (kl rs (stairF ss).1 (askF (stairF ss).1 (stairF ss).2)).isEmpty = true then onlyF rs (stairF ss).1 else []
theorem run_goal {ss : List Stp} {rs : Prs} (hs : ∀ s ∈ ss, 1 ≤ s.2) (hp : Pos rs) : runF ss rs = goalF ss rs := by
  unfold goalF
  by_cases h : lacks rs (stairF ss).1 (askF (stairF ss).1 (stairF ss).2)
  · rw [shown_none hs hp h, if_neg]
    rw [List.isEmpty_iff]
    exact kl_iff.mp h
  · rw [shown_all hs hp h, if_pos]
    rw [List.isEmpty_iff]
    exact Classical.byContradiction fun z => h (kl_iff.mpr z)
theorem kl_floor {ss : List Stp} {rs : Prs} (hs : ∀ s ∈ ss, 1 ≤ s.2) : (List.range (stairF ss).1.toNat).filter (fun (i : Nat) => decide (fromF rs (1 + (i : Int)) < floorF (formOfStepsF ss) (1 + (i : Int)))) = kl rs (stairF ss).1 (askF (stairF ss).1 (stairF ss).2) := by
  unfold kl
  have I := inv_script hs
  refine List.filter_congr fun i hi => ?_
  have hi := List.mem_range.mp hi
  have e : floorF (formOfStepsF ss) (1 + (i : Int)) = askF (stairF ss).1 (stairF ss).2 (1 + (i : Int)) := I.fl _ (by omega) (by omega)
  rw [e]
theorem floors_ask {ss : List Stp} (hs : ∀ s ∈ ss, 1 ≤ s.2) : (List.range (stairF ss).1.toNat).map (fun (i : Nat) => floorF (formOfStepsF ss) (1 + (i : Int))) = askL ss := by
  unfold askL
  have I := inv_script hs
  refine List.map_congr_left fun i hi => ?_
  have hi := List.mem_range.mp hi
  exact I.fl _ (by omega) (by omega)
theorem lay_ints : ∀ ks : List Int, PyData.canLayAll0 (ks.map PyData.int) = true ∧ PyData.depthAll (ks.map PyData.int) ≤ 1
  | [] => ⟨rfl, Nat.zero_le _⟩
  | q :: r => by
    obtain ⟨h1, h2⟩ := lay_ints r
    refine ⟨?_, ?_⟩
    · show (PyData.canLay0 (.int q) && PyData.canLayAll0 (r.map PyData.int)) = true
      rw [h1]
      rfl
    · show max (PyData.depth (.int q)) (PyData.depthAll (r.map PyData.int)) ≤ 1
      have : PyData.depth (.int q) = 0 := rfl
      omega
theorem shp_ints (ks : List Int) : SeqAt.shaped (.list (ks.map PyData.int)) = true := by
  obtain ⟨h1, h2⟩ := lay_ints ks
  unfold SeqAt.shaped
  rw [Bool.and_eq_true]
  refine ⟨h1, decide_eq_true ?_⟩
  show PyData.depthAll (ks.map PyData.int) + 1 ≤ 64
  omega
theorem eqv_nil (ks : List Int) : PyData.eqv (.list (ks.map PyData.int)) (.list []) = ks.isEmpty := by
  cases ks <;> rfl
theorem okD_prs (ps : Prs) (h : ps.length ≤ 1000) (n : Nat) : okD (n + 2) (.tuple (ps.map prD)) := by
  refine ⟨by rw [List.length_map]; exact h, fun d hd => ?_⟩
  obtain ⟨q, _, rfl⟩ := List.mem_map.mp hd
  refine ⟨by show 2 ≤ 1000; decide, fun d hd => ?_⟩
  rcases List.mem_cons.mp hd with rfl | hd
  · cases n <;> exact trivial
  · rw [List.mem_singleton.mp hd]
    cases n <;> exact trivial
def forB (s : Stmt) : List Stmt := match s with
  | .For _ _ b _ _ => b
  | _ => []
section
variable {P : Program} {w : World} {K : PySem.W.Frag} {mg : Str → Option Value} {base : Heap} {C CC CS : Addr}
abbrev sRight : Stmt := top 64
abbrev nRight : List Str := ["_law_urn", "_law_turn", "_law_line_so", "_law_host_here", "_law_low", "_law_asks_so", "_law_lap", "_law_lot_here", "_law_here", "_law_due", "_law_goal", "_law_fine", "_law_k", "_law_own"]
theorem scRight : FnScope nRight ["_law_urn"] (defScope sRight) := ⟨rfl, rfl, rfl, by decide +kernel, rfl, by decide +kernel, by decide +kernel⟩
abbrev bTurn : List Stmt := forB ((defBody sRight).getD 1 (.Pass ⟨0, 0, 0, 0⟩))
abbrev bLap : List Stmt := forB (bTurn.getD 3 (.Pass ⟨0, 0, 0, 0⟩))
theorem lap_tail (T : Bt mg) (TP : ClsP K C) (TC : ClsC K CC) (G1 : MkC P w K mg base "County" CC 2 (spCoInit K CC)) (G2 : Cal P w K mg base "_law_heap" 1 (spHeap K)) (G3 : PrC P w K mg base C "least" 2 (spScLeast K C CS)) (G4 : MeC P w K mg base CC "rows_from" 1 (spCoFrom K CC))
    (G5 : MeC P w K mg base C "floor" 3 (spScFloor K C CS)) (G6 : InC P w K mg base C 6 (spScCall K C CS CC)) (G7 : PrC P w K mg base CC "runs" 1 (spCoRuns K CC)) (G8 : MeC P w K mg base CC "only" 4 (spCoOnly K CC)) (G9 : Cal P w K mg base "_law_same" 4 (spSame K 3))
    {f : Addr} {cdv : Value} {A : Around} {outer : List Env} {s : Shared} {H0 : Hp} {E : XK} (hr : Room 8 (A.deeper (envOfC "_law_right" (defScope sRight) s.heap.objs.size f cdv))) :
    ∃ t, PSs (cxOf CX0 P w K mg base nRight "_law_right" (defScope sRight) f cdv A outer s H0 E).nox (bLap.drop 1) t ∧ ∀ (D : L2.Ends) (y0 y1 y2 y6 y8 y9 y10 y11 : Option V) (aS l r : Addr) (ss : List Stp) (rs : Prs) (H : Hp),
      ScV K C CS H (.ref aS) ss → ss.length ≤ 700 → (∀ s ∈ ss, 1 ≤ s.2 ∧ s.2 ≤ 500) → H l = some (.lst ((askL ss).map V.int)) → PsT K H r rs → Twn rs →
      (∀ y8' y9' y10' y11' H', Ex H H' → D.nx [y0, y1, y2, some (.ref aS), some (.int (stairF ss).1), some (.ref l), y6, some (.ref r), y8', y9', y10', y11', none, none] H') →
      t D [y0, y1, y2, some (.ref aS), some (.int (stairF ss).1), some (.ref l), y6, some (.ref r), y8, y9, y10, y11, none, none] H := by
  have nd := scRight.nd
  have hsz := sizeLine_eq
  have hu : (A.deeper (envOfC "_law_right" (defScope sRight) s.heap.objs.size f cdv)).units + 64 < cLine := hr.units
  obtain ⟨t2, ht2, run2⟩ : ∃ t, PSs (cxOf CX0 P w K mg base nRight "_law_right" (defScope sRight) f cdv A outer s H0 E).nox (bLap.drop 4) t ∧ ∀ (D : L2.Ends) (y0 y1 y2 y5 y6 y9 y11 : Option V) (aS r x g : Addr) (ss : List Stp) (rs : Prs) (H : Hp),
      ScV K C CS H (.ref aS) ss → ss.length ≤ 700 → (∀ s ∈ ss, 1 ≤ s.2 ∧ s.2 ≤ 500) → CoV K CC H (.ref x) rs → Twn rs → PsT K H g (goalF ss rs) →
      (∀ y11' H', Ex H H' → D.nx [y0, y1, y2, some (.ref aS), some (.int (stairF ss).1), y5, y6, some (.ref r), some (.ref x), y9, some (.ref g), y11', none, none] H') →
      t D [y0, y1, y2, some (.ref aS), some (.int (stairF ss).1), y5, y6, some (.ref r), some (.ref x), y9, some (.ref g), y11, none, none] H := by
    refine ⟨_, (pss_cons (ps_set (i := 11) nd rfl (.inl rfl) (pe_cmpR (op_eqD hu)
      (pe_lc (own := [("_law_k", 12)]) (g := gName 12) (tt := tTest (tOp (rI0 fun i j => .bl (decide (i < j))) (tMethR CC "rows_from" (spCoFrom K CC) E0 (tVar 8) (tCons (tVar 12) tNil)) (tMethR C "floor" (spScFloor K C CS) E0 (tVar 3) (tCons (tVar 12) tNil)))) rfl nd
        (pi_range2 (by rfl) T.range (pa_cons pe_int (pa_cons (pe_op op_add (pe_pr (pv 3) TP.cl G3 (hr.mono (by decide))) pe_int) pa_nil))) (blkOk_by (N := nRight) (sc := defScope sRight) (by decide +kernel))
        (fun _ _ _ _ _ => pg_name (i := 12) nd rfl (Or.inl rfl)) (fun _ _ _ _ _ => pts_one (pt_cmpR op_lt (pe_me (pv 8) TC.cl G4 (hr.mono (by decide)) (pa_cons (pv 12) pa_nil)) (pe_me (pv 3) TP.cl G5 (hr.mono (by decide)) (pa_cons (pv 12) pa_nil)) (nomark _)))
        (fun _ _ _ _ _ => pv 12)) (pe_lst pa_nil) (nomark _)))
    (pss_one (ps_if (pt_not (pt_val (pe_cal G9 (hr.mono (by decide)) (pa_cons (pe_lst (pa_cons (pe_pr (pe_inB (pv 3) G6 (hr.mono (by decide)) (pa_cons (pv 8) pa_nil)) TC.cl G7 (hr.mono (by decide)))
        (pa_cons (pe_ifExp (pt_val (pv 11)) (pe_pr (pe_me (pv 8) TC.cl G8 (hr.mono (by decide)) (pa_cons (pe_pr (pv 3) TP.cl G3 (hr.mono (by decide))) pa_nil)) TC.cl G7 (hr.mono (by decide))) (pe_tup pa_nil)) pa_nil))) (pa_cons (pe_lst (pa_cons (pv 10) (pa_cons (pv 10) pa_nil))) pa_nil)))))
      (pss_one ps_never) pss_nil))), ?_⟩
    intro D y0 y1 y2 y5 y6 y9 y11 aS r x g ss rs H hS hl hb hC tw hg q
    have hpos : ∀ s ∈ ss, 1 ≤ s.2 := fun s hs => (hb s hs).1
    have I := inv_script hpos
    have hlow0 : 1 ≤ (stairF ss).1 := I.pos
    have hlow1 : (stairF ss).1 ≤ 500 := st_low ss (1, []) 500 (by decide) fun s hs => (hb s hs).2
    have hS' := hS
    obtain ⟨aS', dxS, rS, fS, eqS, haS, _, _⟩ := hS'
    cases eqS
    have hC' := hC
    obtain ⟨x', dxC, rC, eqC, hxC, _⟩ := hC'
    cases eqC
    have hgl : (goalF ss rs).length ≤ 1000 := by
      have := tw.len
      unfold goalF
      split
      · exact Nat.le_trans (List.length_filter_le _ _) this
      · exact Nat.zero_le _
    refine ⟨_, rfl, aS, dxS, _, rfl, haS, _, ss, rfl, hS, by omega, fun H1 e1 => ?_⟩
    rw [I.lo]
    refine ⟨_, _, rfl, rfl, 1, (stairF ss).1 + 1, rfl, ⟨by decide, by decide, by omega, by omega⟩, ?_⟩
    have hn : ((stairF ss).1 + 1 - 1).toNat = (stairF ss).1.toNat := by congr 1; omega
    rw [hn]
    refine lc_map (List.range (stairF ss).1.toNat) (fun (i : Nat) => decide (fromF rs (1 + (i : Int)) < floorF (formOfStepsF ss) (1 + (i : Int)))) (fun i v _ => v = .int (1 + (i : Int))) (by rw [List.length_range]; exact walk_range (lo := 1) (n := (stairF ss).1.toNat)) (by rw [List.length_range]; omega) (fun _ _ => trivial) (fun _ _ _ _ _ z => z) ?_ ?_
    · rintro i z x0 Ha Hb hz ea ⟨rfl, rfl⟩ N1 N0 k1 k0
      obtain rfl := rng_get hz
      have e2 := e1.trans ea
      refine ⟨rfl, _, rfl, x, dxC, _, rfl, e2 _ _ hxC, co_no (by decide +kernel), _, rfl, _, rs, _, rfl, hC.ex e2, tw.pos, tw.bd, tw.len, fun Hc ec => ?_⟩
      have e3 := e2.trans ec
      refine ⟨_, rfl, aS, dxS, _, rfl, e3 _ _ haS, scFs_no (by decide +kernel) (by decide +kernel), _, rfl, _, ss, _, rfl, hS.ex e3, by omega, fun Hd ed => ⟨_, _, rfl, rfl, _, rfl, ?_⟩⟩
      cases hc : decide (fromF rs (1 + ((z : Nat) : Int)) < floorF (formOfStepsF ss) (1 + ((z : Nat) : Int))) with
      | true => exact iteT ⟨_, rfl, k1 hc _ _ (ec.trans ed) rfl⟩
      | false => exact iteF (k0 hc _ (ec.trans ed))
    intro L H2 ys hL e2 hd pk
    rw [kl_floor hpos] at pk
    have ey : ys = ((kl rs (stairF ss).1 (askF (stairF ss).1 (stairF ss).2)).map fun (i : Nat) => (1 + (i : Int))).map V.int := by
      rw [pmapEq (f := fun (i : Nat) => V.int (1 + (i : Int))) pk, List.map_map]
      rfl
    subst ey
    refine ⟨Nat.zero_le _, fun p hp => ?_⟩
    have e3 := ex_new (o := .lst []) hp
    refine ⟨_, .list [], .lst (.inl (.inl (e3 _ _ hd))) (dpa_int _), .lst (.inl (.inl upd_same)) .nil, shp_ints _, rfl, ?_⟩
    rw [eqv_nil]
    have E4 := (e1.trans e2).trans e3
    generalize upd H2 p (.lst []) = H4 at E4 ⊢
    clear e3 hp hd pk hL e2 e1
    have hS := hS.ex E4
    have hC := hC.ex E4
    have hxC := E4 _ _ hxC
    have haS := E4 _ _ haS
    -- what both show
    refine ⟨_, rfl, aS, rfl, _, rfl, .inr ⟨_, _, haS⟩, _, .ref x, ss, rs, rfl, hS, by omega, hpos, hC, tw, fun v' H5 e5 hv' ht' => ?_⟩
    rw [run_goal hpos tw.pos] at hv' ht'
    have hv2 := hv'
    obtain ⟨a5, dx5, r5', rfl, ha5, _⟩ := hv2
    refine ⟨a5, dx5, _, rfl, ha5, _, _, rfl, hv', fun r5 hr5 => ?_⟩
    have E7 := E4.trans e5
    have hem : (((kl rs (stairF ss).1 (askF (stairF ss).1 (stairF ss).2)).map fun (i : Nat) => (1 + (i : Int)))).isEmpty = (kl rs (stairF ss).1 (askF (stairF ss).1 (stairF ss).2)).isEmpty := by
      cases kl rs (stairF ss).1 (askF (stairF ss).1 (stairF ss).2) <;> rfl
    refine ⟨_, rfl, _, rfl, ?_⟩
    rw [hem]
    cases hk : (kl rs (stairF ss).1 (askF (stairF ss).1 (stairF ss).2)).isEmpty with
    | true =>
      have hgo : goalF ss rs = onlyF rs (stairF ss).1 := by
        unfold goalF
        rw [if_pos hk]
      refine iteT ⟨_, rfl, x, dxC, _, rfl, e5 _ _ hxC, co_no (by decide +kernel), _, rfl, aS, dxS, _, rfl, e5 _ _ haS, _, ss, rfl, hS.ex e5, by omega, fun H6 e6 => ?_⟩
      rw [I.lo]
      refine ⟨_, rs, _, rfl, hC.ex (e5.trans e6), tw.pos, tw.asc, tw.len, fun v8 H8 e7 hv8 => ?_⟩
      rw [← hgo] at hv8
      have hv9 := hv8
      obtain ⟨a8, dx8, r8', rfl, ha8, _⟩ := hv9
      refine ⟨a8, dx8, _, rfl, ha8, _, _, rfl, hv8, fun r8 hr8 => ?_⟩
      have e8 := e6.trans e7
      have E9 := E7.trans e8
      refine ⟨(by show 2 ≤ sizeLine; omega), fun b1 hb1 => ⟨_, rfl, _, rfl, (by show 2 ≤ sizeLine; omega), fun b2 hb2 => ?_⟩⟩
      have e10 := ex_new (o := .lst [.ref r5, .ref r8]) hb1
      have e11 := ex_new (o := .lst [.ref g, .ref g]) hb2
      have hg2 := hg.ex ((E9.trans e10).trans e11)
      obtain ⟨xs5, hx5, p5⟩ := hr5.ex ((e8.trans e10).trans e11)
      obtain ⟨xs8, hx8, p8⟩ := hr8.ex (e10.trans e11)
      obtain ⟨xsg, hxg, pg⟩ := hg2
      refine ⟨_, _, .list [.tuple ((goalF ss rs).map prD), .tuple ((goalF ss rs).map prD)], rfl, .lst (.inl (.inl (e11 _ _ upd_same))) (.cons (.tup hx5 (dp_prs p5)) (.cons (.tup hx8 (dp_prs p8)) .nil)), .lst (.inl (.inl upd_same)) (.cons (.tup hxg (dp_prs pg)) (.cons (.tup hxg (dp_prs pg)) .nil)), ?_, fun H' e12 => ⟨true, rfl, iteF (q _ H' (((E9.trans e10).trans e11).trans e12))⟩⟩
      refine ⟨by show 2 ≤ 1000; decide, fun d hd => ?_⟩
      have ed : d = .tuple ((goalF ss rs).map prD) := by
        rcases List.mem_cons.mp hd with e | hd
        · exact e
        · exact List.mem_singleton.mp hd
      rw [ed]
      exact okD_prs _ hgl 0
    | false =>
      have hgo : goalF ss rs = [] := by
        unfold goalF
        rw [if_neg (by rw [hk]; decide)]
      refine iteF ⟨Nat.zero_le _, fun r8 hr8n => ?_⟩
      have e8 := ex_new (o := .tup []) hr8n
      have hr8 : PsT K (upd H5 r8 (.tup [])) r8 (goalF ss rs) := by
        rw [hgo]
        exact ⟨[], tup_new, .nil⟩
      have E9 := E7.trans e8
      refine ⟨(by show 2 ≤ sizeLine; omega), fun b1 hb1 => ⟨_, rfl, _, rfl, (by show 2 ≤ sizeLine; omega), fun b2 hb2 => ?_⟩⟩
      have e10 := ex_new (o := .lst [.ref r5, .ref r8]) hb1
      have e11 := ex_new (o := .lst [.ref g, .ref g]) hb2
      have hg2 := hg.ex ((E9.trans e10).trans e11)
      obtain ⟨xs5, hx5, p5⟩ := hr5.ex ((e8.trans e10).trans e11)
      obtain ⟨xs8, hx8, p8⟩ := hr8.ex (e10.trans e11)
      obtain ⟨xsg, hxg, pg⟩ := hg2
      refine ⟨_, _, .list [.tuple ((goalF ss rs).map prD), .tuple ((goalF ss rs).map prD)], rfl, .lst (.inl (.inl (e11 _ _ upd_same))) (.cons (.tup hx5 (dp_prs p5)) (.cons (.tup hx8 (dp_prs p8)) .nil)), .lst (.inl (.inl upd_same)) (.cons (.tup hxg (dp_prs pg)) (.cons (.tup hxg (dp_prs pg)) .nil)), ?_, fun H' e12 => ⟨true, rfl, iteF (q _ H' (((E9.trans e10).trans e11).trans e12))⟩⟩
      refine ⟨by show 2 ≤ 1000; decide, fun d hd => ?_⟩
      have ed : d = .tuple ((goalF ss rs).map prD) := by
        rcases List.mem_cons.mp hd with e | hd
        · exact e
        · exact List.mem_singleton.mp hd
      rw [ed]
      exact okD_prs _ hgl 0
  refine ⟨_, pss_cons (ps_set (i := 8) nd rfl (.inr rfl) (pe_mk G1 (hr.mono (by decide)) (pa_cons (pv 7) pa_nil)))
    (pss_cons (ps_set (i := 9) nd rfl (.inl rfl) (pe_cmpR (op_eqD hu)
      (pe_lc (own := [("_law_k", 12)]) (g := gName 12) (tt := tTest (tOp (rI0 fun i j => .bl (decide (i < j))) (tCa (spHeap K) (tCons (tVar 7) (tCons (tVar 12) tNil))) (tOp (rIxL K) (tVar 5) (tOp (rI0 fun i j => .int (i - j)) (tVar 12) (tC (.int 1)))))) rfl nd
        (pi_range2 (by rfl) T.range (pa_cons pe_int (pa_cons (pe_op op_add (pv 4) pe_int) pa_nil))) (blkOk_by (N := nRight) (sc := defScope sRight) (by decide +kernel))
        (fun _ _ _ _ _ => pg_name (i := 12) nd rfl (Or.inl rfl)) (fun _ _ _ _ _ => pts_one (pt_cmpR op_lt (pe_cal G2 (hr.mono (by decide)) (pa_cons (pv 7) (pa_cons (pv 12) pa_nil))) (pe_ix ix_list (pv 5) (pe_op op_sub (pv 12) pe_int) (fun _ _ => rfl)) (nomark _)))
        (fun _ _ _ _ _ => pv 12)) (pe_lst pa_nil) (nomark _)))
    (pss_cons (ps_set (i := 10) nd rfl (.inl rfl) (pe_ifExp (pt_val (pv 9)) (pe_callTy call_tuple_of (by rfl) T.tuple (by decide +kernel) (pa_cons
      (pe_lc (own := [("_law_own", 13)]) (g := gName 13) (tt := tTest (tOp (rI0 fun i j => .bl (decide (j ≤ i))) (tOp (rIxT K) (tVar 13) (tC (.int 0))) (tVar 4))) rfl nd (pi_tup (pv 7)) (blkOk_by (N := nRight) (sc := defScope sRight) (by decide +kernel))
        (fun _ _ _ _ _ => pg_name (i := 13) nd rfl (Or.inl rfl)) (fun _ _ _ _ _ => pts_one (pt_cmpR op_ge (pe_ix ix_tup (pv 13) pe_int (fun _ _ => rfl)) (pv 4) (nomark _))) (fun _ _ _ _ _ => pv 13)) pa_nil)) (pe_tup pa_nil)))
    ht2)), ?_⟩
  intro D y0 y1 y2 y6 y8 y9 y10 y11 aS l r ss rs H hS hl hb hask hrs tw q
  have hpos : ∀ s ∈ ss, 1 ≤ s.2 := fun s hs => (hb s hs).1
  have I := inv_script hpos
  have hlow0 : 1 ≤ (stairF ss).1 := I.pos
  have hlow1 : (stairF ss).1 ≤ 500 := st_low ss (1, []) 500 (by decide) fun s hs => (hb s hs).2
  refine ⟨_, rfl, ?_⟩
  intro x dx hx hdx hne
  have e5 : Ex H (upd (upd H dx (.own x)) x (.ins CC dx [])) := fun b o h => by
    rw [upd_ne (ne_of_none h hx), upd_ne (ne_of_none h hdx)]
    exact h
  refine ⟨x, dx, r, rs, rfl, upd_same, .inr (hrs.ex e5), tw.pos, tw.len, fun r2 qs H4 e6 h4 h5 hs => ⟨rfl, ?_⟩⟩
  rw [hs.same tw.asc] at h5
  have hC : CoV K CC H4 (.ref x) rs := ⟨x, dx, r2, rfl, h4, h5⟩
  have e1 := ex_made hx hdx e6
  clear e5 e6 h4 h5 hs hx hdx
  have hS := hS.ex e1
  have hrs := hrs.ex e1
  have hask := e1 _ _ hask
  -- due
  refine ⟨_, rfl, _, _, rfl, rfl, 1, (stairF ss).1 + 1, rfl, ⟨by decide, by decide, by omega, by omega⟩, ?_⟩
  have hn : ((stairF ss).1 + 1 - 1).toNat = (stairF ss).1.toNat := by congr 1; omega
  rw [hn]
  refine lc_map (List.range (stairF ss).1.toNat) (fun (i : Nat) => decide (fromF rs (1 + (i : Int)) < askF (stairF ss).1 (stairF ss).2 (1 + (i : Int)))) (fun i v _ => v = .int (1 + (i : Int))) (by rw [List.length_range]; exact walk_range (lo := 1) (n := (stairF ss).1.toNat)) (by rw [List.length_range]; omega) (fun _ _ => trivial) (fun _ _ _ _ _ z => z) ?_ ?_
  · rintro i z x0 Ha Hb hz ea ⟨rfl, rfl⟩ N1 N0 k1 k0
    have hzl := List.mem_range.mp (List.mem_of_getElem? hz)
    obtain rfl := rng_get hz
    have hat := ask_at (ss := ss) (k := 1 + ((z : Nat) : Int)) (by omega) (by omega)
    refine ⟨rfl, _, rfl, _, rfl, r, rs, _, rfl, hrs.ex ea, tw, fun Hc ec => ?_⟩
    refine ⟨_, rfl, _, rfl, _, _, rfl, rfl, l, _, _, .int (askF (stairF ss).1 (stairF ss).2 (1 + ((z : Nat) : Int))), rfl, rfl, .inl (.inl ((ea.trans ec) _ _ hask)), at_pos (by show (0 : Int) ≤ 1 + ((z : Nat) : Int) - 1; omega) (by rw [List.getElem?_map, hat]; rfl), _, _, rfl, rfl, _, rfl, ?_⟩
    cases hc : decide (fromF rs (1 + ((z : Nat) : Int)) < askF (stairF ss).1 (stairF ss).2 (1 + ((z : Nat) : Int))) with
    | true => exact iteT ⟨_, rfl, k1 hc _ _ ec rfl⟩
    | false => exact iteF (k0 hc _ ec)
  intro L H2 ys hL e2 hd pk
  have ey : ys = ((kl rs (stairF ss).1 (askF (stairF ss).1 (stairF ss).2)).map fun (i : Nat) => (1 + (i : Int))).map V.int := by
    rw [pmapEq (f := fun (i : Nat) => V.int (1 + (i : Int))) pk, List.map_map]
    rfl
  subst ey
  refine ⟨Nat.zero_le _, fun p hp => ?_⟩
  have e3 := ex_new (o := .lst []) hp
  refine ⟨_, .list [], .lst (.inl (.inl (e3 _ _ hd))) (dpa_int _), .lst (.inl (.inl upd_same)) .nil, shp_ints _, rfl, ?_⟩
  rw [eqv_nil]
  have E4 := e2.trans e3
  generalize upd H2 p (.lst []) = H5 at E4 ⊢
  clear e3 hp hd pk hL e2
  have hS := hS.ex E4
  have hC := hC.ex E4
  have hrs := hrs.ex E4
  have E5 := e1.trans E4
  have hem : (((kl rs (stairF ss).1 (askF (stairF ss).1 (stairF ss).2)).map fun (i : Nat) => (1 + (i : Int)))).isEmpty = (kl rs (stairF ss).1 (askF (stairF ss).1 (stairF ss).2)).isEmpty := by
    cases kl rs (stairF ss).1 (askF (stairF ss).1 (stairF ss).2) <;> rfl
  rw [hem]
  refine ⟨_, rfl, _, rfl, ?_⟩
  cases hk : (kl rs (stairF ss).1 (askF (stairF ss).1 (stairF ss).2)).isEmpty with
  | true =>
    have hgo : goalF ss rs = onlyF rs (stairF ss).1 := by
      unfold goalF
      rw [if_pos hk]
    obtain ⟨xs, hx, pr⟩ := hrs
    refine iteT ⟨_, rfl, r, rfl, ⟨_, hx⟩, ?_⟩
    refine lc_map rs (fun z => decide ((stairF ss).1 ≤ z.1)) (fun z v H => PrV K H v z) (by rw [plen pr]; exact walk_tup) (by have := tw.len; omega) (fun H' e => ex_t e hx) (fun _ _ _ _ e z => z.exn e) ?_ ?_
    · rintro i z x0 H6 H7 hz e7 ⟨rfl, hxi⟩ N1 N0 h1 h0
      obtain ⟨z', hz', T1, rfl, hT⟩ := pget pr hxi
      rw [hz] at hz'
      cases hz'
      refine ⟨rfl, .ref T1, rfl, T1, _, 0, .int z.1, rfl, rfl, ex_t e7 hT, rfl, _, rfl, _, _, rfl, rfl, _, rfl, ?_⟩
      cases hc : decide ((stairF ss).1 ≤ z.1) with
      | true => exact ⟨_, rfl, h1 hc _ _ (Evl.Ex.refl _) ⟨T1, rfl, ex_t e7 hT⟩⟩
      | false => exact h0 hc _ (Evl.Ex.refl _)
    intro L H6 ys hL e6 hd pk
    refine ⟨L, ys, rfl, .inl ⟨.inl (.inl hd), fun g hg => ?_⟩⟩
    have e7 := ex_new (o := .tup ys) hg
    have E6 := e6.trans e7
    exact run2 D y0 y1 y2 (some (.ref l)) y6 _ y11 aS r x g ss rs _ (hS.ex E6) hl hb (hC.ex E6) tw (by rw [hgo]; exact ⟨ys, tup_new, pmono pk fun _ _ z => z.ex e7⟩) fun y H' e => q _ _ _ _ H' ((E5.trans E6).trans e)
  | false =>
    have hgo : goalF ss rs = [] := by
      unfold goalF
      rw [if_neg (by rw [hk]; decide)]
    refine iteF ⟨Nat.zero_le _, fun g hg => ?_⟩
    have e7 := ex_new (o := .tup []) hg
    exact run2 D y0 y1 y2 (some (.ref l)) y6 _ y11 aS r x g ss rs _ (hS.ex e7) hl hb (hC.ex e7) tw (by rw [hgo]; exact ⟨[], tup_new, .nil⟩) fun y H' e => q _ _ _ _ H' ((E5.trans e7).trans e)
end
end K8

set_option maxRecDepth 100000
set_option maxHeartbeats 4000000
/-! the law's right, and the law -/
namespace K8
open PySem PySem.Spec PyProof.Rows L2
open Evl (Ex ex_l ex_t sz_of sz_lt)
section
variable {P : Program} {w : World} {K : PySem.W.Frag} {mg : Str → Option Value} {base : Heap} {C CC CS : Addr}
def spRight : Sp := fun vs H Q _ => ∃ (u : Addr), vs = [.ref u] ∧ UrnAt H u 0 ∧ ∀ H', ExB u H H' → Q (.bl true) H'
theorem ok_right {f : Addr} {fd : FuncData} (F : FnP K "_law_right" "_law_right" sRight [] f fd) (T : Bt mg) (TP : ClsP K C) (TC : ClsC K CC) (G1 : MkC P w K mg base "County" CC 2 (spCoInit K CC)) (G2 : Cal P w K mg base "_law_heap" 1 (spHeap K)) (G3 : PrC P w K mg base C "least" 2 (spScLeast K C CS)) (G4 : MeC P w K mg base CC "rows_from" 1 (spCoFrom K CC))
    (G5 : MeC P w K mg base C "floor" 3 (spScFloor K C CS)) (G6 : InC P w K mg base C 6 (spScCall K C CS CC)) (G7 : PrC P w K mg base CC "runs" 1 (spCoRuns K CC)) (G8 : MeC P w K mg base CC "only" 4 (spCoOnly K CC)) (G9 : Cal P w K mg base "_law_same" 4 (spSame K 3))
    (G10 : Cal P w K mg base "_law_by_hand_right" 8 spHand) (G11 : Cal P w K mg base "_law_line" 3 (spLine K)) (G12 : Cal P w K mg base "_law_host" 7 (spHost K C CS)) (G13 : Cal P w K mg base "_law_stair" 1 (spStair K)) (G14 : Cal P w K mg base "_law_lot" 3 (spLot K)) (G15 : Cal P w K mg base "_law_just" 2 (spJust K)) :
    FnOk P w K mg base CX0 9 f fd ["_law_urn"] spRight := by
  refine ok_of F scRight (fun vs H Q E h => ?_) (fun cdv A outer s H vs Q E hr h => ?_)
  · obtain ⟨s0, rfl, _⟩ := h
    rfl
  · obtain ⟨u, rfl, hu, q⟩ := h
    have nd := scRight.nd
    have hsz := sizeLine_eq
    obtain ⟨t1, ht1, run1⟩ := lap_tail (C := C) (CC := CC) (CS := CS) (P := P) (w := w) (K := K) (mg := mg) (base := base) (f := f) (cdv := cdv) (A := A) (outer := outer) (s := s) (H0 := H) (E := E) T TP TC G1 G2 G3 G4 G5 G6 G7 G8 G9 hr
    refine ⟨_, pss_cons (ps_if (pt_not (pt_val (pe_cal0 G10 hr))) (pss_one ps_never) pss_nil)
      (pss_cons (ps_for PassesOwn.never rfl (pi_range1 (by rfl) T.range (pa_cons pe_int pa_nil)) (pg_name (i := 1) nd rfl (.inl rfl))
        (pss_cons (ps_set (i := 2) nd rfl (.inl rfl) (pe_cal G11 (hr.mono (by decide)) (pa_cons (pv 0) (pa_cons pe_int (pa_cons pe_int pa_nil)))))
        (pss_cons (ps_asg (pe_tup (pa_cons (pe_cal G12 (hr.mono (by decide)) (pa_cons (pv 2) pa_nil)) (pa_cons (pe_cal G13 (hr.mono (by decide)) (pa_cons (pv 2) pa_nil)) pa_nil)))
          (pg_tup rfl (pgs_cons (pg_name (i := 3) nd rfl (.inr rfl)) (pgs_cons (pg_tup rfl (pgs_cons (pg_name (i := 4) nd rfl (.inr rfl)) (pgs_cons (pg_name (i := 5) nd rfl (.inr rfl)) pgs_nil))) pgs_nil))))
        (pss_cons (ps_if (pt_not (pt_val (pe_cal G9 (hr.mono (by decide)) (pa_cons (pe_lst (pa_cons (pe_pr (pv 3) TP.cl G3 (hr.mono (by decide))) (pa_cons
            (pe_lc (own := [("_law_k", 12)]) (g := gName 12) (tt := tYes) rfl nd (pi_range2 (by rfl) T.range (pa_cons pe_int (pa_cons (pe_op op_add (pv 4) pe_int) pa_nil))) (blkOk_by (N := nRight) (sc := defScope sRight) (by decide +kernel))
              (fun _ _ _ _ _ => pg_name (i := 12) nd rfl (Or.inl rfl)) (fun _ _ _ _ _ => pts_nil) (fun _ _ _ _ _ => pe_me (pv 3) TP.cl G5 (hr.mono (by decide)) (pa_cons (pv 12) pa_nil))) pa_nil)))
            (pa_cons (pe_lst (pa_cons (pv 4) (pa_cons (pv 5) pa_nil))) pa_nil))))) (pss_one ps_never) pss_nil)
        (pss_one (ps_for PassesOwn.never rfl (pi_range1 (by rfl) T.range (pa_cons pe_int pa_nil)) (pg_name (i := 6) nd rfl (.inl rfl))
          (pss_cons (ps_set (i := 7) nd rfl (.inr rfl) (pe_ifExp (pt_cmpR op_lt (pv 6) pe_int (nomark _)) (pe_cal G14 (hr.mono (by decide)) (pa_cons (pv 0) (pa_cons pe_int (pa_cons pe_int pa_nil)))) (pe_cal G15 (hr.mono (by decide)) (pa_cons (pv 0) (pa_cons (pv 2) pa_nil))))) ht1)))))))
      (pss_one (ps_ret pe_bl))), ?_⟩
    refine ⟨rfl, fun H1 e1 => ⟨true, rfl, iteF ?_⟩⟩
    refine ⟨10, rfl, by decide, by decide, ?_⟩
    refine for_it (walk_range (lo := 0) (n := 10)) (fun i σ H' => ∃ y1 y2 y3 y4 y5 y6 y7 y8 y9 y10 y11, σ = [some (.ref u), y1, y2, y3, y4, y5, y6, y7, y8, y9, y10, y11, none, none] ∧ ExB u H H' ∧ ∃ c', c' ≤ 5000 * (i : Int) ∧ UrnAt H' u c')
      ⟨none, none, none, none, none, none, none, none, none, none, none, rfl, exb_of e1, 0, by omega, hu.ex e1⟩ (fun _ _ _ _ _ => trivial) ?_ ?_
    · rintro i x σ H2 H2' hi ⟨y1, y2, y3, y4, y5, y6, y7, y8, y9, y10, y11, rfl, E2, c, hc, u2⟩ ⟨rfl, rfl⟩
      have hi' : (i : Int) < 10 := by omega
      refine ⟨_, rfl, u, 10, 9, c, rfl, u2, by decide, by decide, by decide, by decide, by omega, fun rl ss c3 H3 hc3 e3 u3 hln hlen hss => ?_⟩
      have hss' : ∀ s ∈ ss, 1 ≤ s.2 ∧ s.2 ≤ 500 := fun s hs => ⟨(hss s hs).1, by have := (hss s hs).2; omega⟩
      have hpos : ∀ s ∈ ss, 1 ≤ s.2 := fun s hs => (hss s hs).1
      have I := inv_script hpos
      have hlow0 : 1 ≤ (stairF ss).1 := I.pos
      have hlow1 : (stairF ss).1 ≤ 500 := st_low ss (1, []) 500 (by decide) fun s hs => (hss' s hs).2
      have E3 := exb_trans E2 e3
      refine ⟨_, rfl, rl, ss, rfl, hln, by omega, hpos, fun vS H4 e4 hS => ⟨_, rfl, rl, ss, rfl, hln.ex e4, by omega, hss', fun p l H5 e5 hl0 hp hask => ⟨(by show 2 ≤ sizeLine; omega), fun t ht => ?_⟩⟩⟩
      have e6 := ex_new (o := .tup [vS, .ref p]) ht
      refine ⟨t, _, rfl, tup_new, rfl, _, _, rfl, _, _, rfl, p, _, rfl, ex_t e6 hp, rfl, _, _, rfl, _, _, rfl, rfl, rfl, ?_⟩
      have u4 := u3.ex e4
      have hlu : l ≠ u := fun z => by
        obtain ⟨_, _, h, _⟩ := u4
        rw [z, h] at hl0
        cases hl0
      have E6 := exb_trans E3 (exb_of ((e4.trans e5).trans e6))
      have u6 := u3.ex ((e4.trans e5).trans e6)
      have hln := hln.ex ((e4.trans e5).trans e6)
      have hS := hS.ex (e5.trans e6)
      have hask := e6 _ _ hask
      generalize upd H5 t (.tup [vS, .ref p]) = H6 at E6 u6 hln hS hask ⊢
      clear u4 hp hl0 e6 ht e5 e4 e3 u3 E3 u2 E2
      have hS' := hS
      obtain ⟨aS, dxS, rS, fS, rfl, haS, _, _⟩ := hS'
      -- the stair as it is told
      refine ⟨_, rfl, aS, dxS, _, rfl, haS, _, ss, rfl, hS, by omega, fun H7 e7 => ?_⟩
      rw [I.lo]
      refine ⟨_, rfl, _, _, rfl, rfl, 1, (stairF ss).1 + 1, rfl, ⟨by decide, by decide, by omega, by omega⟩, ?_⟩
      have hn : ((stairF ss).1 + 1 - 1).toNat = (stairF ss).1.toNat := by congr 1; omega
      rw [hn]
      refine lc_map (List.range (stairF ss).1.toNat) (fun _ => true) (fun i v _ => v = .int (floorF (formOfStepsF ss) (1 + (i : Int)))) (by rw [List.length_range]; exact walk_range (lo := 1) (n := (stairF ss).1.toNat)) (by rw [List.length_range]; omega) (fun _ _ => trivial) (fun _ _ _ _ _ z => z) ?_ ?_
      · rintro j z x0 Ha Hb hz ea ⟨rfl, rfl⟩ N1 N0 k1 k0
        obtain rfl := rng_get hz
        exact ⟨rfl, _, rfl, aS, dxS, _, rfl, (e7.trans ea) _ _ haS, scFs_no (by decide +kernel) (by decide +kernel), _, rfl, _, ss, _, rfl, hS.ex (e7.trans ea), by omega, fun Hc ec => k1 rfl _ _ ec rfl⟩
      intro L H8 ys hL e8 hd pk
      rw [filter_all] at pk
      have ey : ys = (askL ss).map V.int := by
        rw [pmapEq (f := fun (i : Nat) => V.int (floorF (formOfStepsF ss) (1 + (i : Int)))) pk, ← floors_ask hpos, List.map_map]
        rfl
      subst ey
      refine ⟨(by show 2 ≤ sizeLine; omega), fun b1 hb1 => ⟨_, rfl, _, rfl, (by show 2 ≤ sizeLine; omega), fun b2 hb2 => ?_⟩⟩
      have e9 := ex_new (o := .lst [.int (stairF ss).1, .ref L]) hb1
      have e10 := ex_new (o := .lst [.int (stairF ss).1, .ref l]) hb2
      refine ⟨_, _, .list [.int (stairF ss).1, .list ((askL ss).map PyData.int)], rfl, .lst (.inl (.inl (e10 _ _ upd_same))) (.cons (.int _) (.cons (.lst (.inl (.inl ((e9.trans e10) _ _ hd))) (dpa_int _)) .nil)),
        .lst (.inl (.inl upd_same)) (.cons (.int _) (.cons (.lst (.inl (.inl ((((e7.trans e8).trans e9).trans e10) _ _ hask))) (dpa_int _)) .nil)), ?_, fun H11 e11 => ⟨true, rfl, iteF ?_⟩⟩
      · refine ⟨by show 2 ≤ 1000; decide, fun d hd => ?_⟩
        rcases List.mem_cons.mp hd with rfl | hd
        · exact trivial
        rw [List.mem_singleton.mp hd]
        refine ⟨?_, fun d hd => ?_⟩
        · unfold askL
          rw [List.length_map, List.length_map, List.length_range]
          omega
        · obtain ⟨n, _, rfl⟩ := List.mem_map.mp hd
          exact trivial
      have E11 := (((e7.trans e8).trans e9).trans e10).trans e11
      have hS := hS.ex E11
      have hln := hln.ex E11
      have hask := E11 _ _ hask
      have u11 := u6.ex E11
      have EE := exb_trans E6 (exb_of E11)
      clear E11 e11 e10 e9 hb1 hb2 hd e8 e7 haS u6 E6 pk hL
      refine ⟨6, rfl, by decide, by decide, ?_⟩
      refine for_it (walk_range (lo := 0) (n := 6)) (fun j σ H' => ∃ y1 y6 y7 y8 y9 y10 y11, σ = [some (.ref u), y1, some (.ref rl), some (.ref aS), some (.int (stairF ss).1), some (.ref l), y6, y7, y8, y9, y10, y11, none, none] ∧ ExB u H11 H' ∧ ∃ c', c' ≤ c3 + 600 * (j : Int) ∧ UrnAt H' u c')
        ⟨_, _, _, _, _, _, _, rfl, exb_refl _ _, c3, by omega, u11⟩ (fun _ _ _ _ _ => trivial) ?_ ?_
      · rintro j x σ H12a H12 hj ⟨y1, y6, y7, y8, y9, y10, y11, rfl, E12, c4, hc4, u12⟩ ⟨rfl, rfl⟩
        have hj' : (j : Int) < 6 := by omega
        have fin : ∀ (r : Addr) (rs : Prs) (c5 : Int) (H13 : Hp), c5 ≤ c4 + 600 → ExB u H12 H13 → UrnAt H13 u c5 → PsT K H13 r rs → Twn rs → ∀ (D : L2.Ends), D.nx = (fun σ H' => ∃ y1 y6 y7 y8 y9 y10 y11, σ = [some (.ref u), y1, some (.ref rl), some (.ref aS), some (.int (stairF ss).1), some (.ref l), y6, y7, y8, y9, y10, y11, none, none] ∧ ExB u H11 H' ∧ ∃ c', c' ≤ c3 + 600 * ((j + 1 : Nat) : Int) ∧ UrnAt H' u c') →
            t1 D [some (.ref u), y1, some (.ref rl), some (.ref aS), some (.int (stairF ss).1), some (.ref l), some (.int (0 + (j : Int))), some (.ref r), y8, y9, y10, y11, none, none] H13 := by
          intro r rs c5 H13 hc5 e13 u13 hr13 tw D hD
          have E13 := exb_trans E12 e13
          have en := u11.exn E13
          refine run1 D _ _ _ _ _ _ _ _ aS l r ss rs H13 (hS.exn en) (by omega) hss' (E13 _ _ hask hlu) hr13 tw fun y8' y9' y10' y11' H' e' => ?_
          rw [hD]
          exact ⟨_, _, _, _, _, _, _, rfl, exb_trans E13 (exb_of e'), c5, by omega, u13.ex e'⟩
        refine ⟨_, rfl, _, _, rfl, rfl, _, rfl, ite2 (fun hlt => ?_) (fun hge => ?_)⟩
        · refine ⟨_, rfl, u, 8, 14, c4, rfl, u12, by decide, by decide, by decide, by decide, by omega, fun r rs c5 H13 hc5 e13 u13 hr13 tw => ?_⟩
          exact fin r rs c5 H13 (by omega) e13 u13 hr13 tw _ rfl
        · refine ⟨_, rfl, _, rfl, u, rl, c4, ss, rfl, u12, by omega, hln.exn (u11.exn E12), by omega, hss', fun r rs c5 H13 hc5 e13 u13 hr13 tw => ?_⟩
          exact fin r rs c5 H13 (by omega) e13 u13 hr13 tw _ rfl
      · rintro σ H12 ⟨y1, y6, y7, y8, y9, y10, y11, rfl, E12, c4, hc4, u12⟩
        exact ⟨_, _, _, _, _, _, _, _, _, _, _, rfl, exb_trans EE E12, c4, by omega, u12⟩
    · rintro σ H2 ⟨y1, y2, y3, y4, y5, y6, y7, y8, y9, y10, y11, rfl, E2, _⟩
      exact q H2 E2
end
end K8

set_option maxRecDepth 100000
set_option maxHeartbeats 4000000
/-! the law -/
namespace K8
open PySem PySem.Spec PyProof.Rows L2
open Evl (Ex ex_l ex_t sz_of sz_lt)
section
variable {P : Program} {w : World} {K : PySem.W.Frag} {mg : Str → Option Value} {base : Heap} {C CC CS : Addr}
abbrev sLaw : Stmt := top 65
abbrev nLaw : List Str := ["_law_script", "_law_cells_here", "_law_k"]
theorem scLaw : FnScope nLaw ["_law_script"] (defScope sLaw) := ⟨rfl, rfl, rfl, by decide +kernel, rfl, by decide +kernel, by decide +kernel⟩
def spLaw (K : PySem.W.Frag) : Sp := fun vs H Q _ => ∃ (a : Addr) (ns : List Int), vs = [.ref a] ∧ SqL K H a (ns.map V.int) ∧ ns.length ≤ 63 ∧ ∀ H', Q (.bl true) H'
theorem ok_law {f : Addr} {fd : FuncData} (F : FnP K "law" "law" sLaw [] f fd) (T : Bt mg) (G1 : Cal P w K mg base "_law_cells" 1 (spCells K)) (G2 : Cal P w K mg base "_law_box" 1 (spBox K)) (G3 : Cal P w K mg base "_law_right" 9 spRight) : FnOk P w K mg base CX0 10 f fd ["_law_script"] (spLaw K) := by
  refine ok_of F scLaw (fun vs H Q E h => ?_) (fun cdv A outer s H vs Q E hr h => ?_)
  · obtain ⟨s0, ns, rfl, _⟩ := h
    rfl
  · obtain ⟨a, ns, rfl, hs, hl, q⟩ := h
    have nd := scLaw.nd
    refine ⟨_, pss_cons (ps_set (i := 1) nd rfl (.inr rfl) (pe_cal G1 (hr.mono (by decide)) (pa_cons (pv 0) (pa_cons pe_int pa_nil))))
      (pss_one (ps_ret (pe_callB (cr_all rfl) (by rfl) T.all (by decide +kernel) (pa_cons
        (pe_lc (own := [("_law_k", 2)]) (g := gName 2) (tt := tYes) rfl nd (pi_range1 (by rfl) T.range (pa_cons (pe_callB call_len_seq (by rfl) T.len (by decide +kernel) (pa_cons (pv 1) pa_nil)) pa_nil)) (blkOk_by (N := nLaw) (sc := defScope sLaw) (by decide +kernel))
          (fun _ _ _ _ _ => pg_name (i := 2) nd rfl (Or.inl rfl)) (fun _ _ _ _ _ => pts_nil)
          (fun _ _ _ _ _ => pe_cal G3 hr (pa_cons (pe_cal G2 (hr.mono (by decide)) (pa_cons (pv 1) (pa_cons (pv 2) pa_nil))) pa_nil))) pa_nil)))), ?_⟩
    refine ⟨_, rfl, a, ns, rfl, hs, hl, fun l ms H1 e1 hd h1 h3 => ?_⟩
    have hd' : SqL K H1 l (ms.map V.int) := .inl (.inl hd)
    refine ⟨_, rfl, l, _, rfl, .inl hd', _, rfl, by omega, by rw [List.length_map]; omega, ?_⟩
    have hn : (((ms.map V.int).length : Nat) : Int).toNat = ms.length := by rw [List.length_map]; omega
    rw [hn]
    refine lc_map (List.range ms.length) (fun _ => true) (fun _ v _ => v = .bl true) (by rw [List.length_range]; exact walk_range (lo := 0) (n := ms.length)) (by rw [List.length_range]; omega) (fun _ _ => trivial) (fun _ _ _ _ _ z => z) ?_ ?_
    · rintro i z x Ha Hb hz ea ⟨rfl, rfl⟩ N1 N0 k1 k0
      have hzl := List.mem_range.mp (List.mem_of_getElem? hz)
      obtain rfl := rng_get hz
      refine ⟨rfl, _, rfl, _, rfl, l, ms, _, rfl, ex_l ea hd', by omega, by omega, fun u H2 e2 hu hr2 => ⟨u, rfl, hr2, fun H3 e3 => k1 rfl _ _ (fun b o h => e3 b o (e2 b o h) (ne_of_none h hu)) rfl⟩⟩
    · intro D H2 ys hD e2 hd2 pk
      obtain ⟨bs, e, hb⟩ := bl_all pk
      rw [e] at hd2
      refine ⟨D, bs, rfl, .inl (.inl hd2), ?_⟩
      rw [hb]
      exact q _
end
end K8

set_option maxRecDepth 100000
set_option maxHeartbeats 4000000
/-! the head's facts by names; the law's def keeps its promise (printed by gen_facts.py) -/
namespace K8
open PySem PySem.Spec PyProof.Rows L2
open He (ga ma Fa Dv eqO eqO_ok ba relAll relAll_ok dflB dflB_ok)
/-! ### addresses -/
def recG (K : PySem.W.Frag) (p : Addr) (T : String) : Addr := match PySem.W.recIn K p T with
  | some (.ref g :: _) => g
  | _ => 0
def prA (C m : Str) (K : PySem.W.Frag) : Addr := recG K (ma K (ga K C) m) "property"
def stA (C m : Str) (K : PySem.W.Frag) : Addr := recG K (ma K (ga K C) m) "staticmethod"
def meA (C m : Str) (K : PySem.W.Frag) : Addr := ma K (ga K C) m
def glA (x : Str) (K : PySem.W.Frag) : Addr := ga K x
def dflC (K : PySem.W.Frag) : Addr := He.dflAt ("County", some "__init__") 0 K
def dflS (K : PySem.W.Frag) : Addr := He.dflAt ("Script", some "__init__") 0 K
/-! ### defs -/
structure DefQ where
  at_ : PySem.W.Frag → Addr
  name : Str
  qual : Str
  st : Stmt
  dfl : List Dv := []
def fnAt (K : PySem.W.Frag) (a : Addr) : He.FnW := match K.lookup a with
  | some ⟨_, _, .func fd, _⟩ => some (fd.name, fd.qualname, fd.params, fd.body, fd.scope, fd.globals, fd.closure, fd.builtins)
  | _ => none
def DefQ.val (d : DefQ) : He.FnW := some (d.name, d.qual, defArgs d.st, .stmts (defBody d.st), defScope d.st, mainGlobals, [], builtinsNs)
def DefQ.dvs (K : PySem.W.Frag) (d : DefQ) : List V := d.dfl.map (Dv.v K)
def DefQ.ok (K : PySem.W.Frag) (d : DefQ) : Bool := PySem.W.keepIn K (.ref (d.at_ K)) && (match K.lookup (d.at_ K) with
  | some ⟨_, _, .func fd, _⟩ => PySem.W.codeIn K fd.code d.qual && dflB K fd.defaults (d.dvs K)
  | _ => false)
theorem DefQ.funD {K : PySem.W.Frag} {d : DefQ} (e : fnAt K (d.at_ K) = d.val) (c : d.ok K = true) : ∃ fd, FnP K d.name d.qual d.st (d.dvs K) (d.at_ K) fd := by
  obtain ⟨kp, c2⟩ := ba c
  unfold fnAt at e
  cases q : K.lookup (d.at_ K) with
  | none =>
    rw [q] at c2
    cases c2
  | some o =>
    obtain ⟨oc, od, dt, osl⟩ := o
    rw [q] at c2 e
    cases dt with
    | func fd =>
      obtain ⟨n1, n2, n3, n4, n5, n6, n7, n8, n9, n10, n11, n12, n13, n14, n15⟩ := fd
      have e2 : (some (n1, n2, n3, n4, n5, n6, n7, n15) : He.FnW) = some (d.name, d.qual, defArgs d.st, .stmts (defBody d.st), defScope d.st, mainGlobals, [], builtinsNs) := e
      simp only [Option.some.injEq, Prod.mk.injEq] at e2
      obtain ⟨h1, h2, h3, h4, h5, h6, h7, h8⟩ := e2
      subst h1 h2 h3 h4 h5 h6 h7 h8
      have c3 : (PySem.W.codeIn K n13 d.qual && dflB K n8 (d.dvs K)) = true := c2
      obtain ⟨k1, k2⟩ := ba c3
      exact ⟨_, ⟨oc, od, n8, n9, n10, n11, n12, n13, n14, osl, rfl, q, k1, dflB_ok k2, .inl rfl⟩, kp⟩
    | _ => cases c2
/-! ### the Hook -/
abbrev AlQ : Type := Bool × List He.FnW
def obsQ (ex : PySem.W.Frag → Bool) (fn : List DefQ) (K : PySem.W.Frag) : AlQ := (ex K && fn.all fun d => d.ok K, fn.map fun d => fnAt K (d.at_ K))
def valQ (fn : List DefQ) : AlQ := (true, fn.map DefQ.val)
def SaysQ (ex : PySem.W.Frag → Bool) (fn : List DefQ) (K : PySem.W.Frag) : Prop := obsQ ex fn K = valQ fn
/-- so many objects there are behind the top: all are looked at, the module's names first -/
def asQ (n : Nat) : List Addr := mainGlobals :: (List.range n).reverse
def obsQG (n : Nat) (ex : PySem.W.Frag → Bool) (fn : List DefQ) (g : Addr → Option Obj) : AlQ := obsQ ex fn (He.frG g (asQ n))
def hookQ (n : Nat) (ex : PySem.W.Frag → Bool) (fn : List DefQ) : PySem.W.Hook where
  α := AlQ
  obs := fun s => obsQG n ex fn s.heap.get?
  val := fun _ => valQ fn
  says := fun _ h => ∃ K : PySem.W.Frag, K.In h ∧ SaysQ ex fn K
  of := fun _ _ e => ⟨_, He.frG_in, e⟩
  keeps := fun _ _ _ ⟨K, hK, c⟩ k => ⟨K, PySem.W.Frag.In.keeps hK k, c⟩
theorem obsQG_eq {n : Nat} {ex : PySem.W.Frag → Bool} {fn : List DefQ} {g : Addr → Option Obj} {s : Shared} (h : ∀ a, g a = s.heap.get? a) : obsQG n ex fn g = (hookQ n ex fn).obs s := by
  have e : g = s.heap.get? := funext h
  rw [e] <;> rfl
section
variable {ex : PySem.W.Frag → Bool} {fn : List DefQ} {K : PySem.W.Frag}
theorem SaysQ.facts (c : SaysQ ex fn K) : ex K = true := (ba (show (ex K && fn.all fun d => d.ok K) = true from congrArg (fun z : AlQ => z.1) c)).1
theorem SaysQ.def_ (c : SaysQ ex fn K) (i : Nat) {d : DefQ} (h : fn[i]? = some d := by rfl) : ∃ fd, FnP K d.name d.qual d.st (d.dvs K) (d.at_ K) fd := by
  have c2 := (ba (show (ex K && fn.all fun d => d.ok K) = true from congrArg (fun z : AlQ => z.1) c)).2
  have e : fn.map (fun d => fnAt K (d.at_ K)) = fn.map DefQ.val := congrArg (fun z : AlQ => z.2) c
  have e2 : (fn.map fun d => fnAt K (d.at_ K))[i]? = (fn.map DefQ.val)[i]? := by rw [e]
  rw [List.getElem?_map, List.getElem?_map, h] at e2
  exact DefQ.funD (Option.some.inj e2) (List.all_eq_true.mp c2 d (List.mem_of_getElem? h))
end
/-! ### more facts -/
def tupA (K : PySem.W.Frag) (a : Addr) (vs : List V) : Bool := match K.lookup a with
  | some ⟨.type c, _, .seq its _, _⟩ => decide (c = "tuple") && (decide (its.size ≤ sizeLine) && relAll vs its.toList)
  | _ => false
theorem tupA_ok {K : PySem.W.Frag} {a : Addr} {vs : List V} (h : tupA K a vs = true) (H : Hp) : SqT K H a vs := by
  unfold tupA at h
  cases q : K.lookup a with
  | none =>
    rw [q] at h
    cases h
  | some o =>
    obtain ⟨oc, od, dt, osl⟩ := o
    rw [q] at h
    cases oc with
    | type c =>
      cases dt with
      | seq its n =>
        obtain ⟨h1, h2⟩ := ba (show (decide (c = "tuple") && (decide (its.size ≤ sizeLine) && relAll vs its.toList)) = true from h)
        obtain ⟨h3, h4⟩ := ba h2
        exact .inr ⟨_, its, n, q, congrArg Value.type (of_decide_eq_true h1), rfl, of_decide_eq_true h3, relAll_ok h4⟩
      | _ => cases h
    | _ => cases dt <;> cases h
/-- the first item of the tuple at a -/
def itA (K : PySem.W.Frag) (a : Addr) : Addr := match K.lookup a with
  | some ⟨_, _, .seq its _, _⟩ => (match its.toList with
    | .ref b :: _ => b
    | _ => 0)
  | _ => 0
def prB (C m : Str) (K : PySem.W.Frag) : Bool := eqO (PySem.W.findIn K (.ref (ga K C)) m) (some (some (.ref (ma K (ga K C) m)))) && (eqO (PySem.W.specialIn K (.ref (ma K (ga K C) m)) "__get__") (some (some (.builtin "property.__get__"))) &&
  (decide (PySem.W.takesIn K (.ref (ma K (ga K C) m)) = some true) && (match PySem.W.recIn K (ma K (ga K C) m) "property" with
    | some (.ref g :: _) => decide (g = prA C m K)
    | _ => false)))
theorem prB_ok {K : PySem.W.Frag} {C m : Str} (h : prB C m K = true) : PropOf K (ga K C) m (ma K (ga K C) m) (prA C m K) := by
  obtain ⟨h1, h⟩ := ba h
  obtain ⟨h2, h⟩ := ba h
  obtain ⟨h3, h4⟩ := ba h
  refine ⟨eqO_ok h1, eqO_ok h2, of_decide_eq_true h3, ?_⟩
  cases q : PySem.W.recIn K (ma K (ga K C) m) "property" with
  | none =>
    rw [q] at h4
    cases h4
  | some vs =>
    rw [q] at h4
    cases vs with
    | nil => cases h4
    | cons v r =>
      cases v with
      | ref g =>
        have e : g = prA C m K := of_decide_eq_true h4
        rw [← e]
        exact ⟨r, rfl⟩
      | _ => cases h4
def cfB (z : Option PySem.W.CFound) (p C : Addr) : Bool := match z with
  | some (.get (.builtin b) (.ref q) .none (.ref c)) => decide (b = "staticmethod.__get__") && (decide (q = p) && decide (c = C))
  | _ => false
theorem cfB_ok {z : Option PySem.W.CFound} {p C : Addr} (h : cfB z p C = true) : z = some (.get (.builtin "staticmethod.__get__") (.ref p) .none (.ref C)) := by
  unfold cfB at h
  split at h
  · obtain ⟨h1, h⟩ := ba h
    obtain ⟨h2, h3⟩ := ba h
    rw [of_decide_eq_true h1, of_decide_eq_true h2, of_decide_eq_true h3]
  · cases h
def stB (C m : Str) (K : PySem.W.Frag) : Bool := PySem.W.readsIn K (ga K C) (.type "type") && (eqO (PySem.W.specialIn K (.ref (ga K C)) "__getattribute__") (some (some (.builtin "type.__getattribute__"))) &&
  (cfB (PySem.W.findCls K (.ref (ga K C)) (.type "type") m) (ma K (ga K C) m) (ga K C) && (match PySem.W.recIn K (ma K (ga K C) m) "staticmethod" with
    | some (.ref g :: _) => decide (g = stA C m K)
    | _ => false)))
theorem stB_ok {P : Program} {w : World} {mg : Str → Option Value} {base : Heap} {K : PySem.W.Frag} {C m : Str} {k : Nat} {sp : Sp} (h : stB C m K = true) (hm : mg C = some (.ref (ga K C))) (kp : PySem.W.keepIn K (.ref (stA C m K)) = true) (F : FnR P w K mg base CX0 k (stA C m K) sp) : StC P w K mg base C m k sp := by
  obtain ⟨h1, h⟩ := ba h
  obtain ⟨h2, h⟩ := ba h
  obtain ⟨h3, h4⟩ := ba h
  cases q : PySem.W.recIn K (ma K (ga K C) m) "staticmethod" with
  | none =>
    rw [q] at h4
    cases h4
  | some vs =>
    rw [q] at h4
    cases vs with
    | nil => cases h4
    | cons v r =>
      cases v with
      | ref g =>
        have e : g = stA C m K := of_decide_eq_true h4
        rw [e] at q
        exact ⟨_, _, _, _, r, hm, ⟨h1, eqO_ok h2⟩, cfB_ok h3, q, kp, F⟩
      | _ => cases h4
def clB (C : Str) (K : PySem.W.Frag) : Bool := eqO (PySem.W.findIn K (.ref (ga K C)) "__call__") (some (some (.ref (ma K (ga K C) "__call__")))) && (PySem.W.isFn K (.ref (ma K (ga K C) "__call__")) && PySem.W.fnIn K (ma K (ga K C) "__call__"))
theorem clB_ok {K : PySem.W.Frag} {C : Str} (h : clB C K = true) : StX.CallO K (ga K C) (ma K (ga K C) "__call__") := by
  obtain ⟨h1, h⟩ := ba h
  obtain ⟨h2, h3⟩ := ba h
  exact ⟨eqO_ok h1, h2, h3⟩
/-- one keyword -/
theorem kw_of {K : PySem.W.Frag} {f : Addr} {fd : FuncData} (F : FnP K "floor" "Script.floor" sScFloor [] f fd) (s : Shared) (u v : Value) : BindsTo s fd ⟨[u], [("size", v)]⟩ ((["self", "size"] : List Str).zip [u, v]) := by
  obtain ⟨oc, od, dV, kV, doc, pm, an, cdv, ct, osl, rfl, lk, hcd, hD, hK⟩ := F.ex
  rcases hD with ⟨_, rfl⟩ | ⟨e, _⟩
  · exact .of_eq rfl
  · exact absurd rfl e
def d_number : DefQ := ⟨glA "number_in", "number_in", "number_in", sNumber, []⟩
def d_runIn : DefQ := ⟨glA "run_in", "run_in", "run_in", sRunIn, []⟩
def d_runText : DefQ := ⟨glA "run_text", "run_text", "run_text", sRunText, []⟩
def d_isNum : DefQ := ⟨glA "is_number", "is_number", "is_number", sIsNum, []⟩
def d_isRun : DefQ := ⟨glA "is_run", "is_run", "is_run", sIsRun, []⟩
def d_isRuns : DefQ := ⟨glA "is_runs", "is_runs", "is_runs", sIsRuns, []⟩
def d_Summed : DefQ := ⟨glA "summed", "summed", "summed", sSummed, []⟩
def d_leastIn : DefQ := ⟨glA "least_in", "least_in", "least_in", sLeastIn, []⟩
def d_floorsIn : DefQ := ⟨glA "floors_in", "floors_in", "floors_in", sFloorsIn, []⟩
def d_floorIn : DefQ := ⟨glA "floor_in", "floor_in", "floor_in", sFloorIn, []⟩
def d_formWith : DefQ := ⟨glA "form_with", "form_with", "form_with", sFormWith, []⟩
def d_formOfStep : DefQ := ⟨glA "form_of_step", "form_of_step", "form_of_step", sFormOfStep, []⟩
def d_formBehind : DefQ := ⟨glA "form_behind", "form_behind", "form_behind", sFormBehind, []⟩
def d_formOfSteps : DefQ := ⟨glA "form_of_steps", "form_of_steps", "form_of_steps", sFormOfSteps, []⟩
def d_box : DefQ := ⟨glA "_law_box", "_law_box", "_law_box", sBox, []⟩
def d_take : DefQ := ⟨glA "_law_take", "_law_take", "_law_take", sTake, []⟩
def d_cells : DefQ := ⟨glA "_law_cells", "_law_cells", "_law_cells", sCells, []⟩
def d_of54 : DefQ := ⟨glA "_law_of", "_law_of", "_law_of", sOf, []⟩
def d_same : DefQ := ⟨glA "_law_same", "_law_same", "_law_same", sSame, []⟩
def d_LawSum : DefQ := ⟨glA "_law_sum", "_law_sum", "_law_sum", sLawSum, []⟩
def d_lot : DefQ := ⟨glA "_law_lot", "_law_lot", "_law_lot", sLot, []⟩
def d_heap : DefQ := ⟨glA "_law_heap", "_law_heap", "_law_heap", sHeap, []⟩
def d_line : DefQ := ⟨glA "_law_line", "_law_line", "_law_line", sLine, []⟩
def d_host : DefQ := ⟨glA "_law_host", "_law_host", "_law_host", sHost, []⟩
def d_stair : DefQ := ⟨glA "_law_stair", "_law_stair", "_law_stair", sStair, []⟩
def d_hand : DefQ := ⟨glA "_law_by_hand_right", "_law_by_hand_right", "_law_by_hand_right", sHand, []⟩
def d_just : DefQ := ⟨glA "_law_just", "_law_just", "_law_just", sJust, []⟩
def d_right : DefQ := ⟨glA "_law_right", "_law_right", "_law_right", sRight, []⟩
def d_law : DefQ := ⟨glA "law", "law", "law", sLaw, []⟩
def d_coInit : DefQ := ⟨meA "County" "__init__", "__init__", "County.__init__", sCoInit, [.adr dflC]⟩
def d_coOf : DefQ := ⟨stA "County" "of", "of", "County.of", sCoOf, []⟩
def d_coRuns : DefQ := ⟨prA "County" "runs", "runs", "County.runs", sCoRuns, []⟩
def d_coText : DefQ := ⟨prA "County" "text", "text", "County.text", sCoText, []⟩
def d_coRows : DefQ := ⟨prA "County" "rows", "rows", "County.rows", sCoRows, []⟩
def d_coFrom : DefQ := ⟨meA "County" "rows_from", "rows_from", "County.rows_from", sCoFrom, []⟩
def d_coOnly : DefQ := ⟨meA "County" "only", "only", "County.only", sCoOnly, []⟩
def d_stepInit : DefQ := ⟨meA "Step" "__init__", "__init__", "Step.__init__", sStepInit, []⟩
def d_stepOf : DefQ := ⟨stA "Step" "of", "of", "Step.of", sStepOf, []⟩
def d_stepKind : DefQ := ⟨prA "Step" "kind", "kind", "Step.kind", sStepKind, []⟩
def d_stepLeast : DefQ := ⟨prA "Step" "least", "least", "Step.least", sStepLeast, []⟩
def d_stepCall : DefQ := ⟨meA "Step" "__call__", "__call__", "Step.__call__", sStepCall, []⟩
def d_scInit : DefQ := ⟨meA "Script" "__init__", "__init__", "Script.__init__", sScInit, [.adr dflS]⟩
def d_scOf : DefQ := ⟨stA "Script" "of", "of", "Script.of", sScOf, []⟩
def d_scLeast : DefQ := ⟨prA "Script" "least", "least", "Script.least", sScLeast, []⟩
def d_scFloor : DefQ := ⟨meA "Script" "floor", "floor", "Script.floor", sScFloor, []⟩
def d_scCall : DefQ := ⟨meA "Script" "__call__", "__call__", "Script.__call__", sScCall, []⟩
def fnQ : List DefQ := [d_number, d_runIn, d_runText, d_isNum, d_isRun, d_isRuns, d_Summed, d_leastIn, d_floorsIn, d_floorIn, d_formWith, d_formOfStep, d_formBehind, d_formOfSteps, d_box, d_take, d_cells, d_of54, d_same, d_LawSum, d_lot, d_heap, d_line, d_host, d_stair, d_hand, d_just, d_right, d_law, d_coInit, d_coOf, d_coRuns, d_coText, d_coRows, d_coFrom, d_coOnly, d_stepInit, d_stepOf, d_stepKind, d_stepLeast, d_stepCall, d_scInit, d_scOf, d_scLeast, d_scFloor, d_scCall]
def faQ : List Fa := [.glo "number_in", .glo "run_in", .glo "run_text", .glo "is_number", .glo "is_run", .glo "is_runs", .glo "summed", .glo "least_in", .glo "floors_in", .glo "floor_in", .glo "form_with", .glo "form_of_step", .glo "form_behind", .glo "form_of_steps", .glo "_law_box", .glo "_law_take", .glo "_law_cells", .glo "_law_of", .glo "_law_same", .glo "_law_sum", .glo "_law_lot", .glo "_law_heap", .glo "_law_line", .glo "_law_host", .glo "_law_stair", .glo "_law_by_hand_right", .glo "_law_just", .glo "_law_right", .glo "law", .glo "County", .cls "County", .mkr "County", .glo "Step", .cls "Step", .mkr "Step", .glo "Script", .cls "Script", .mkr "Script", .noat "County" "own_runs", .noat "Step" "own_kind", .noat "Step" "own_least", .noat "Script" "own_steps", .noat "Script" "own_form", .meth "County" "rows_from", .meth "County" "only", .meth "Script" "floor", .free "sum", .free "tuple", .free "list", .free "sorted", .free "len", .free "isinstance", .free "all", .free "range", .free "zip", .free "max", .free "str", .free "int", .free "bool", .free "enumerate", .free "abs", .str "NOTHING" "-", .str "TIMES" "x", .str "TOWN" "town", .str "BETWEEN" "; ", .int "PAIR" 2, .glo "KINDS", .glo "START"]
def moQ (K : PySem.W.Frag) : List Bool := [prB "County" "runs" K, prB "County" "text" K, prB "County" "rows" K, prB "Step" "kind" K, prB "Step" "least" K, prB "Script" "least" K, stB "County" "of" K, stB "Step" "of" K, stB "Script" "of" K, clB "Step" K, clB "Script" K, IsiB K, tupA K (ga K "KINDS") [.str "town", .str "county"], tupA K (ga K "START") [.ref (itA K (ga K "START"))], tupA K (itA K (ga K "START")) [.int 1, .int 1], tupA K (dflC K) [], tupA K (dflS K) []]
def exQ (K : PySem.W.Frag) : Bool := (faQ.all fun f => f.ok K) && (moQ K).all _root_.id
section
variable {K : PySem.W.Frag}
theorem faQ_at (c : exQ K = true) (i : Nat) {f : Fa} (h : faQ[i]? = some f := by rfl) : f.ok K = true := List.all_eq_true.mp (ba c).1 f (List.mem_of_getElem? h)
theorem moQ_at (c : exQ K = true) (i : Nat) {b : Bool} (h : (moQ K)[i]? = some b := by rfl) : b = true := List.all_eq_true.mp (ba c).2 b (List.mem_of_getElem? h)
end
theorem facts {P : Program} {w : World} {K : PySem.W.Frag} {h : Heap} {mg : Str → Option Value} {f : Addr} (X : K.In h) (G : h.Ns mainGlobals mg) (hfa : mg ("law" : Str) = some (.ref f)) (c : SaysQ exQ fnQ K) :
    ∃ fd : FuncData, (∀ (s : Shared) (v : Value), BindsTo s fd ⟨[v], []⟩ [("_law_script", v)]) ∧ ∀ base : Heap, K.In base → base.Ns mainGlobals mg → FnOk P w K mg base CX0 10 f fd ["_law_script"] (spLaw K) := by
  have e := c.facts
  obtain ⟨fd_number, F_number⟩ := c.def_ 0 (d := d_number) rfl
  obtain ⟨fd_runIn, F_runIn⟩ := c.def_ 1 (d := d_runIn) rfl
  obtain ⟨fd_runText, F_runText⟩ := c.def_ 2 (d := d_runText) rfl
  obtain ⟨fd_isNum, F_isNum⟩ := c.def_ 3 (d := d_isNum) rfl
  obtain ⟨fd_isRun, F_isRun⟩ := c.def_ 4 (d := d_isRun) rfl
  obtain ⟨fd_isRuns, F_isRuns⟩ := c.def_ 5 (d := d_isRuns) rfl
  obtain ⟨fd_Summed, F_Summed⟩ := c.def_ 6 (d := d_Summed) rfl
  obtain ⟨fd_leastIn, F_leastIn⟩ := c.def_ 7 (d := d_leastIn) rfl
  obtain ⟨fd_floorsIn, F_floorsIn⟩ := c.def_ 8 (d := d_floorsIn) rfl
  obtain ⟨fd_floorIn, F_floorIn⟩ := c.def_ 9 (d := d_floorIn) rfl
  obtain ⟨fd_formWith, F_formWith⟩ := c.def_ 10 (d := d_formWith) rfl
  obtain ⟨fd_formOfStep, F_formOfStep⟩ := c.def_ 11 (d := d_formOfStep) rfl
  obtain ⟨fd_formBehind, F_formBehind⟩ := c.def_ 12 (d := d_formBehind) rfl
  obtain ⟨fd_formOfSteps, F_formOfSteps⟩ := c.def_ 13 (d := d_formOfSteps) rfl
  obtain ⟨fd_box, F_box⟩ := c.def_ 14 (d := d_box) rfl
  obtain ⟨fd_take, F_take⟩ := c.def_ 15 (d := d_take) rfl
  obtain ⟨fd_cells, F_cells⟩ := c.def_ 16 (d := d_cells) rfl
  obtain ⟨fd_of54, F_of54⟩ := c.def_ 17 (d := d_of54) rfl
  obtain ⟨fd_same, F_same⟩ := c.def_ 18 (d := d_same) rfl
  obtain ⟨fd_LawSum, F_LawSum⟩ := c.def_ 19 (d := d_LawSum) rfl
  obtain ⟨fd_lot, F_lot⟩ := c.def_ 20 (d := d_lot) rfl
  obtain ⟨fd_heap, F_heap⟩ := c.def_ 21 (d := d_heap) rfl
  obtain ⟨fd_line, F_line⟩ := c.def_ 22 (d := d_line) rfl
  obtain ⟨fd_host, F_host⟩ := c.def_ 23 (d := d_host) rfl
  obtain ⟨fd_stair, F_stair⟩ := c.def_ 24 (d := d_stair) rfl
  obtain ⟨fd_hand, F_hand⟩ := c.def_ 25 (d := d_hand) rfl
  obtain ⟨fd_just, F_just⟩ := c.def_ 26 (d := d_just) rfl
  obtain ⟨fd_right, F_right⟩ := c.def_ 27 (d := d_right) rfl
  obtain ⟨fd_law, F_law⟩ := c.def_ 28 (d := d_law) rfl
  obtain ⟨fd_coInit, F_coInit⟩ := c.def_ 29 (d := d_coInit) rfl
  obtain ⟨fd_coOf, F_coOf⟩ := c.def_ 30 (d := d_coOf) rfl
  obtain ⟨fd_coRuns, F_coRuns⟩ := c.def_ 31 (d := d_coRuns) rfl
  obtain ⟨fd_coText, F_coText⟩ := c.def_ 32 (d := d_coText) rfl
  obtain ⟨fd_coRows, F_coRows⟩ := c.def_ 33 (d := d_coRows) rfl
  obtain ⟨fd_coFrom, F_coFrom⟩ := c.def_ 34 (d := d_coFrom) rfl
  obtain ⟨fd_coOnly, F_coOnly⟩ := c.def_ 35 (d := d_coOnly) rfl
  obtain ⟨fd_stepInit, F_stepInit⟩ := c.def_ 36 (d := d_stepInit) rfl
  obtain ⟨fd_stepOf, F_stepOf⟩ := c.def_ 37 (d := d_stepOf) rfl
  obtain ⟨fd_stepKind, F_stepKind⟩ := c.def_ 38 (d := d_stepKind) rfl
  obtain ⟨fd_stepLeast, F_stepLeast⟩ := c.def_ 39 (d := d_stepLeast) rfl
  obtain ⟨fd_stepCall, F_stepCall⟩ := c.def_ 40 (d := d_stepCall) rfl
  obtain ⟨fd_scInit, F_scInit⟩ := c.def_ 41 (d := d_scInit) rfl
  obtain ⟨fd_scOf, F_scOf⟩ := c.def_ 42 (d := d_scOf) rfl
  obtain ⟨fd_scLeast, F_scLeast⟩ := c.def_ 43 (d := d_scLeast) rfl
  obtain ⟨fd_scFloor, F_scFloor⟩ := c.def_ 44 (d := d_scFloor) rfl
  obtain ⟨fd_scCall, F_scCall⟩ := c.def_ 45 (d := d_scCall) rfl
  have b_number : Binds K fd_number ["text"] [] := F_number.bindsN fun _ _ _ _ _ _ us hl => match us, hl with | [_], _ => rfl
  have b_runIn : Binds K fd_runIn ["text"] [] := F_runIn.bindsN fun _ _ _ _ _ _ us hl => match us, hl with | [_], _ => rfl
  have b_runText : Binds K fd_runText ["run"] [] := F_runText.bindsN fun _ _ _ _ _ _ us hl => match us, hl with | [_], _ => rfl
  have b_isNum : Binds K fd_isNum ["thing"] [] := F_isNum.bindsN fun _ _ _ _ _ _ us hl => match us, hl with | [_], _ => rfl
  have b_isRun : Binds K fd_isRun ["thing"] [] := F_isRun.bindsN fun _ _ _ _ _ _ us hl => match us, hl with | [_], _ => rfl
  have b_isRuns : Binds K fd_isRuns ["thing"] [] := F_isRuns.bindsN fun _ _ _ _ _ _ us hl => match us, hl with | [_], _ => rfl
  have b_Summed : Binds K fd_Summed ["pairs"] [] := F_Summed.bindsN fun _ _ _ _ _ _ us hl => match us, hl with | [_], _ => rfl
  have b_leastIn : Binds K fd_leastIn ["form"] [] := F_leastIn.bindsN fun _ _ _ _ _ _ us hl => match us, hl with | [_], _ => rfl
  have b_floorsIn : Binds K fd_floorsIn ["form"] [] := F_floorsIn.bindsN fun _ _ _ _ _ _ us hl => match us, hl with | [_], _ => rfl
  have b_floorIn : Binds K fd_floorIn ["form", "size"] [] := F_floorIn.bindsN fun _ _ _ _ _ _ us hl => match us, hl with | [_, _], _ => rfl
  have b_formWith : Binds K fd_formWith ["floors"] [] := F_formWith.bindsN fun _ _ _ _ _ _ us hl => match us, hl with | [_], _ => rfl
  have b_formOfStep : Binds K fd_formOfStep ["step"] [] := F_formOfStep.bindsN fun _ _ _ _ _ _ us hl => match us, hl with | [_], _ => rfl
  have b_formBehind : Binds K fd_formBehind ["one", "other"] [] := F_formBehind.bindsN fun _ _ _ _ _ _ us hl => match us, hl with | [_, _], _ => rfl
  have b_formOfSteps : Binds K fd_formOfSteps ["steps"] [] := F_formOfSteps.bindsN fun _ _ _ _ _ _ us hl => match us, hl with | [_], _ => rfl
  have b_box : Binds K fd_box ["_law_script", "_law_k"] [] := F_box.bindsN fun _ _ _ _ _ _ us hl => match us, hl with | [_, _], _ => rfl
  have b_take : Binds K fd_take ["_law_urn", "_law_low_so"] [] := F_take.bindsN fun _ _ _ _ _ _ us hl => match us, hl with | [_, _], _ => rfl
  have b_cells : Binds K fd_cells ["_law_script", "_law_top"] [] := F_cells.bindsN fun _ _ _ _ _ _ us hl => match us, hl with | [_, _], _ => rfl
  have b_of54 : Binds K fd_of54 ["_law_urn", "_law_some_so"] [] := F_of54.bindsN fun _ _ _ _ _ _ us hl => match us, hl with | [_, _], _ => rfl
  have b_same : Binds K fd_same ["_law_got", "_law_goal"] [] := F_same.bindsN fun _ _ _ _ _ _ us hl => match us, hl with | [_, _], _ => rfl
  have b_LawSum : Binds K fd_LawSum ["_law_pairs_so"] [] := F_LawSum.bindsN fun _ _ _ _ _ _ us hl => match us, hl with | [_], _ => rfl
  have b_lot : Binds K fd_lot ["_law_urn", "_law_most", "_law_high"] [] := F_lot.bindsN fun _ _ _ _ _ _ us hl => match us, hl with | [_, _, _], _ => rfl
  have b_heap : Binds K fd_heap ["_law_lot_here", "_law_low"] [] := F_heap.bindsN fun _ _ _ _ _ _ us hl => match us, hl with | [_, _], _ => rfl
  have b_line : Binds K fd_line ["_law_urn", "_law_most", "_law_high"] [] := F_line.bindsN fun _ _ _ _ _ _ us hl => match us, hl with | [_, _, _], _ => rfl
  have b_host : Binds K fd_host ["_law_line_so"] [] := F_host.bindsN fun _ _ _ _ _ _ us hl => match us, hl with | [_], _ => rfl
  have b_stair : Binds K fd_stair ["_law_line_so"] [] := F_stair.bindsN fun _ _ _ _ _ _ us hl => match us, hl with | [_], _ => rfl
  have b_hand : Binds K fd_hand [] [] := F_hand.bindsN fun _ _ _ _ _ _ us hl => match us, hl with | [], _ => rfl
  have b_just : Binds K fd_just ["_law_urn", "_law_line_so"] [] := F_just.bindsN fun _ _ _ _ _ _ us hl => match us, hl with | [_, _], _ => rfl
  have b_right : Binds K fd_right ["_law_urn"] [] := F_right.bindsN fun _ _ _ _ _ _ us hl => match us, hl with | [_], _ => rfl
  have b_coOf : Binds K fd_coOf ["text"] [] := F_coOf.bindsN fun _ _ _ _ _ _ us hl => match us, hl with | [_], _ => rfl
  have b_coRuns : Binds K fd_coRuns ["self"] [] := F_coRuns.bindsN fun _ _ _ _ _ _ us hl => match us, hl with | [_], _ => rfl
  have b_coText : Binds K fd_coText ["self"] [] := F_coText.bindsN fun _ _ _ _ _ _ us hl => match us, hl with | [_], _ => rfl
  have b_coRows : Binds K fd_coRows ["self"] [] := F_coRows.bindsN fun _ _ _ _ _ _ us hl => match us, hl with | [_], _ => rfl
  have b_coFrom : Binds K fd_coFrom ["self", "least"] [] := F_coFrom.bindsN fun _ _ _ _ _ _ us hl => match us, hl with | [_, _], _ => rfl
  have b_coOnly : Binds K fd_coOnly ["self", "least"] [] := F_coOnly.bindsN fun _ _ _ _ _ _ us hl => match us, hl with | [_, _], _ => rfl
  have b_stepInit : Binds K fd_stepInit ["self", "kind", "least"] [] := F_stepInit.bindsN fun _ _ _ _ _ _ us hl => match us, hl with | [_, _, _], _ => rfl
  have b_stepOf : Binds K fd_stepOf ["text"] [] := F_stepOf.bindsN fun _ _ _ _ _ _ us hl => match us, hl with | [_], _ => rfl
  have b_stepKind : Binds K fd_stepKind ["self"] [] := F_stepKind.bindsN fun _ _ _ _ _ _ us hl => match us, hl with | [_], _ => rfl
  have b_stepLeast : Binds K fd_stepLeast ["self"] [] := F_stepLeast.bindsN fun _ _ _ _ _ _ us hl => match us, hl with | [_], _ => rfl
  have b_stepCall : Binds K fd_stepCall ["self", "county"] [] := F_stepCall.bindsN fun _ _ _ _ _ _ us hl => match us, hl with | [_, _], _ => rfl
  have b_scOf : Binds K fd_scOf ["text"] [] := F_scOf.bindsN fun _ _ _ _ _ _ us hl => match us, hl with | [_], _ => rfl
  have b_scLeast : Binds K fd_scLeast ["self"] [] := F_scLeast.bindsN fun _ _ _ _ _ _ us hl => match us, hl with | [_], _ => rfl
  have b_scFloor : Binds K fd_scFloor ["self", "size"] [] := F_scFloor.bindsN fun _ _ _ _ _ _ us hl => match us, hl with | [_, _], _ => rfl
  have b_scCall : Binds K fd_scCall ["self", "county"] [] := F_scCall.bindsN fun _ _ _ _ _ _ us hl => match us, hl with | [_, _], _ => rfl
  have ef := hfa.symm.trans (He.glo_ok X G (faQ_at e 28 (f := .glo "law")))
  cases ef
  have bl := FunD.bindsA (ps := ["_law_script"]) F_law fun _ _ _ _ _ _ us hl => match us, hl with | [_], _ => rfl
  refine ⟨fd_law, fun s v => bl s [v] rfl, fun base _ _ => ?_⟩
  have T : Bt mg := ⟨He.free_ok X G (faQ_at e 46 (f := .free "sum")), He.free_ok X G (faQ_at e 47 (f := .free "tuple")), He.free_ok X G (faQ_at e 48 (f := .free "list")), He.free_ok X G (faQ_at e 49 (f := .free "sorted")), He.free_ok X G (faQ_at e 50 (f := .free "len")), He.free_ok X G (faQ_at e 51 (f := .free "isinstance")), He.free_ok X G (faQ_at e 52 (f := .free "all")), He.free_ok X G (faQ_at e 53 (f := .free "range")), He.free_ok X G (faQ_at e 54 (f := .free "zip")), He.free_ok X G (faQ_at e 55 (f := .free "max")), He.free_ok X G (faQ_at e 56 (f := .free "str")), He.free_ok X G (faQ_at e 57 (f := .free "int")), He.free_ok X G (faQ_at e 58 (f := .free "bool")), He.free_ok X G (faQ_at e 59 (f := .free "enumerate")), He.free_ok X G (faQ_at e 60 (f := .free "abs"))⟩
  have TC : ClsC K (ga K "County") := ⟨He.cls_ok (faQ_at e 30 (f := .cls "County")), He.noat_ok (faQ_at e 38 (f := .noat "County" "own_runs"))⟩
  have TS : ClsS K (ga K "Step") := ⟨He.cls_ok (faQ_at e 33 (f := .cls "Step")), He.noat_ok (faQ_at e 39 (f := .noat "Step" "own_kind")), He.noat_ok (faQ_at e 40 (f := .noat "Step" "own_least"))⟩
  have TP : ClsP K (ga K "Script") := ⟨He.cls_ok (faQ_at e 36 (f := .cls "Script")), He.noat_ok (faQ_at e 41 (f := .noat "Script" "own_steps")), He.noat_ok (faQ_at e 42 (f := .noat "Script" "own_form"))⟩
  have I : Isi K := isi_of (moQ_at e 11 (b := IsiB K))
  obtain ⟨tkN, mN⟩ := He.str_ok X G (faQ_at e 61 (f := .str "NOTHING" "-"))
  obtain ⟨tkX, mX⟩ := He.str_ok X G (faQ_at e 62 (f := .str "TIMES" "x"))
  obtain ⟨tkT, mT⟩ := He.str_ok X G (faQ_at e 63 (f := .str "TOWN" "town"))
  obtain ⟨tkB, mB⟩ := He.str_ok X G (faQ_at e 64 (f := .str "BETWEEN" "; "))
  obtain ⟨tkP, mP⟩ := He.int_ok X G (faQ_at e 65 (f := .int "PAIR" 2))
  have mK := He.glo_ok X G (faQ_at e 66 (f := .glo "KINDS"))
  have mS := He.glo_ok X G (faQ_at e 67 (f := .glo "START"))
  have hK : ∀ H, SqT K H (ga K "KINDS") [.str "town", .str "county"] := tupA_ok (moQ_at e 12 (b := tupA K (ga K "KINDS") [.str "town", .str "county"]))
  have hS1 : ∀ H, SqT K H (ga K "START") [.ref (itA K (ga K "START"))] := tupA_ok (moQ_at e 13 (b := tupA K (ga K "START") [.ref (itA K (ga K "START"))]))
  have hS2 : ∀ H, SqT K H (itA K (ga K "START")) [.int 1, .int 1] := tupA_ok (moQ_at e 14 (b := tupA K (itA K (ga K "START")) [.int 1, .int 1]))
  have hS : ∀ H, PsT K H (ga K "START") [(1, 1)] := fun H => ⟨_, hS1 H, .cons ⟨_, rfl, hS2 H⟩ .nil⟩
  have hC0 : ∀ H, PsT K H (dflC K) [] := fun H => ⟨[], tupA_ok (moQ_at e 15 (b := tupA K (dflC K) [])) H, .nil⟩
  have hP0 : ∀ H, PsT K H (dflS K) [] := fun H => ⟨[], tupA_ok (moQ_at e 16 (b := tupA K (dflS K) [])) H, .nil⟩
  have mCo := (He.glo_ok X G (faQ_at e 29 (f := .glo "County")))
  have mSt := (He.glo_ok X G (faQ_at e 32 (f := .glo "Step")))
  have mSc := (He.glo_ok X G (faQ_at e 35 (f := .glo "Script")))
  have kCo := He.mkr_ok (faQ_at e 31 (f := .mkr "County"))
  have kSt := He.mkr_ok (faQ_at e 34 (f := .mkr "Step"))
  have kSc := He.mkr_ok (faQ_at e 37 (f := .mkr "Script"))
  have O_number : FnOk P w K mg base CX0 1 (glA "number_in" K) fd_number _ spNumber := ok_number F_number T
  have C_number : Cal P w K mg base "number_in" 1 spNumber := cal_of F_number.kp O_number b_number (He.glo_ok X G (faQ_at e 0 (f := .glo "number_in")))
  have O_runIn : FnOk P w K mg base CX0 2 (glA "run_in" K) fd_runIn _ (spRunIn K) := ok_runIn F_runIn T mX mP C_number
  have C_runIn : Cal P w K mg base "run_in" 2 (spRunIn K) := cal_of F_runIn.kp O_runIn b_runIn (He.glo_ok X G (faQ_at e 1 (f := .glo "run_in")))
  have O_runText : FnOk P w K mg base CX0 1 (glA "run_text" K) fd_runText _ (spRunText K) := ok_runText F_runText T mX
  have C_runText : Cal P w K mg base "run_text" 1 (spRunText K) := cal_of F_runText.kp O_runText b_runText (He.glo_ok X G (faQ_at e 2 (f := .glo "run_text")))
  have O_isNum : FnOk P w K mg base CX0 1 (glA "is_number" K) fd_isNum _ spIsNum := ok_isNum F_isNum T I
  have C_isNum : Cal P w K mg base "is_number" 1 spIsNum := cal_of F_isNum.kp O_isNum b_isNum (He.glo_ok X G (faQ_at e 3 (f := .glo "is_number")))
  have O_isRun : FnOk P w K mg base CX0 2 (glA "is_run" K) fd_isRun _ (spIsRun K) := ok_isRun F_isRun T I mP C_isNum
  have C_isRun : Cal P w K mg base "is_run" 2 (spIsRun K) := cal_of F_isRun.kp O_isRun b_isRun (He.glo_ok X G (faQ_at e 4 (f := .glo "is_run")))
  have O_isRuns : FnOk P w K mg base CX0 3 (glA "is_runs" K) fd_isRuns _ (spIsRuns K) := ok_isRuns F_isRuns T I C_isRun
  have C_isRuns : Cal P w K mg base "is_runs" 3 (spIsRuns K) := cal_of F_isRuns.kp O_isRuns b_isRuns (He.glo_ok X G (faQ_at e 5 (f := .glo "is_runs")))
  have O_Summed : FnOk P w K mg base CX0 1 (glA "summed" K) fd_Summed _ (spSummed K) := ok_Summed F_Summed T
  have C_Summed : Cal P w K mg base "summed" 1 (spSummed K) := cal_of F_Summed.kp O_Summed b_Summed (He.glo_ok X G (faQ_at e 6 (f := .glo "summed")))
  have O_leastIn : FnOk P w K mg base CX0 1 (glA "least_in" K) fd_leastIn _ (spLeastIn K) := ok_leastIn F_leastIn T
  have C_leastIn : Cal P w K mg base "least_in" 1 (spLeastIn K) := cal_of F_leastIn.kp O_leastIn b_leastIn (He.glo_ok X G (faQ_at e 7 (f := .glo "least_in")))
  have O_floorsIn : FnOk P w K mg base CX0 1 (glA "floors_in" K) fd_floorsIn _ (spFloorsIn K) := ok_floorsIn F_floorsIn T
  have C_floorsIn : Cal P w K mg base "floors_in" 1 (spFloorsIn K) := cal_of F_floorsIn.kp O_floorsIn b_floorsIn (He.glo_ok X G (faQ_at e 8 (f := .glo "floors_in")))
  have O_floorIn : FnOk P w K mg base CX0 2 (glA "floor_in" K) fd_floorIn _ (spFloorIn K) := ok_floorIn F_floorIn C_floorsIn
  have C_floorIn : Cal P w K mg base "floor_in" 2 (spFloorIn K) := cal_of F_floorIn.kp O_floorIn b_floorIn (He.glo_ok X G (faQ_at e 9 (f := .glo "floor_in")))
  have O_formWith : FnOk P w K mg base CX0 1 (glA "form_with" K) fd_formWith _ (spFormWith K) := ok_formWith F_formWith T
  have C_formWith : Cal P w K mg base "form_with" 1 (spFormWith K) := cal_of F_formWith.kp O_formWith b_formWith (He.glo_ok X G (faQ_at e 10 (f := .glo "form_with")))
  have O_stepKind : FnOk P w K mg base CX0 1 (prA "Step" "kind" K) fd_stepKind _ (spStepKind (ga K "Step")) := ok_stepKind F_stepKind TS
  have C_stepKind : PrC P w K mg base (ga K "Step") "kind" 1 (spStepKind (ga K "Step")) := ⟨_, _, _, _, prB_ok (moQ_at e 3 (b := prB "Step" "kind" K)), O_stepKind, b_stepKind⟩
  have O_stepLeast : FnOk P w K mg base CX0 1 (prA "Step" "least" K) fd_stepLeast _ (spStepLeast (ga K "Step")) := ok_stepLeast F_stepLeast TS
  have C_stepLeast : PrC P w K mg base (ga K "Step") "least" 1 (spStepLeast (ga K "Step")) := ⟨_, _, _, _, prB_ok (moQ_at e 4 (b := prB "Step" "least" K)), O_stepLeast, b_stepLeast⟩
  have O_formOfStep : FnOk P w K mg base CX0 3 (glA "form_of_step" K) fd_formOfStep _ (spFormOfStep K (ga K "Step")) := ok_formOfStep F_formOfStep TS C_stepKind C_stepLeast
  have C_formOfStep : Cal P w K mg base "form_of_step" 3 (spFormOfStep K (ga K "Step")) := cal_of F_formOfStep.kp O_formOfStep b_formOfStep (He.glo_ok X G (faQ_at e 11 (f := .glo "form_of_step")))
  have O_formBehind : FnOk P w K mg base CX0 2 (glA "form_behind" K) fd_formBehind _ (spFormBehind K) := ok_formBehind F_formBehind T C_leastIn C_floorsIn C_formWith
  have C_formBehind : Cal P w K mg base "form_behind" 2 (spFormBehind K) := cal_of F_formBehind.kp O_formBehind b_formBehind (He.glo_ok X G (faQ_at e 12 (f := .glo "form_behind")))
  have O_formOfSteps : FnOk P w K mg base CX0 4 (glA "form_of_steps" K) fd_formOfSteps _ (spFormOfSteps K (ga K "Step")) := ok_formOfSteps F_formOfSteps mS hS C_formOfStep C_formBehind
  have C_formOfSteps : Cal P w K mg base "form_of_steps" 4 (spFormOfSteps K (ga K "Step")) := cal_of F_formOfSteps.kp O_formOfSteps b_formOfSteps (He.glo_ok X G (faQ_at e 13 (f := .glo "form_of_steps")))
  have O_stepInit : FnOk P w K mg base CX0 1 (meA "Step" "__init__" K) fd_stepInit _ (spStepInit (ga K "Step")) := ok_stepInit F_stepInit TS mK hK
  have C_stepInit : MkC P w K mg base "Step" (ga K "Step") 1 (spStepInit (ga K "Step")) := ⟨_, kSt, raw_of O_stepInit b_stepInit, mSt⟩
  have O_coInit : FnOk P w K mg base CX0 2 (meA "County" "__init__" K) fd_coInit _ (spCoInit K (ga K "County")) := ok_coInit F_coInit TC C_Summed
  obtain ⟨ds2, vd2, bd2⟩ := FunD.binds1 (ps := ["self", "runs"]) F_coInit 2 1 (List.cons_ne_nil _ _) rfl (fun _ _ _ _ _ _ _ us its hl hi => match us, hl, its, hi with | [_, _], _, [_], _ => ⟨_, rfl, rfl⟩)
  obtain ⟨ds1, vd1, bd1⟩ := FunD.binds1 (ps := ["self", "runs"]) F_coInit 1 0 (List.cons_ne_nil _ _) rfl (fun _ _ _ _ _ _ _ us its hl hi => match us, hl, its, hi with | [_], _, [_], _ => ⟨_, rfl, rfl⟩)
  have C_coInit : MkC P w K mg base "County" (ga K "County") 2 (spCoInit K (ga K "County")) := ⟨_, kCo, (O_coInit.raw bd2 vd2).imp fun vs H Q E h => by
    show spCoInit K (ga K "County") (vs ++ []) H Q E
    rw [List.append_nil]
    exact h, mCo⟩
  have C_coInit0 : MkC P w K mg base "County" (ga K "County") 2 (spCoInit0 K (ga K "County") (dflC K)) := ⟨_, kCo, O_coInit.raw bd1 vd1, mCo⟩
  have O_scInit : FnOk P w K mg base CX0 5 (meA "Script" "__init__" K) fd_scInit _ (spScInit K (ga K "Script") (ga K "Step")) := ok_scInit F_scInit TP T C_formOfSteps
  obtain ⟨es2, ve2, be2⟩ := FunD.binds1 (ps := ["self", "steps"]) F_scInit 2 1 (List.cons_ne_nil _ _) rfl (fun _ _ _ _ _ _ _ us its hl hi => match us, hl, its, hi with | [_, _], _, [_], _ => ⟨_, rfl, rfl⟩)
  obtain ⟨es1, ve1, be1⟩ := FunD.binds1 (ps := ["self", "steps"]) F_scInit 1 0 (List.cons_ne_nil _ _) rfl (fun _ _ _ _ _ _ _ us its hl hi => match us, hl, its, hi with | [_], _, [_], _ => ⟨_, rfl, rfl⟩)
  have C_scInit : MkC P w K mg base "Script" (ga K "Script") 5 (spScInit K (ga K "Script") (ga K "Step")) := ⟨_, kSc, (O_scInit.raw be2 ve2).imp fun vs H Q E h => by
    show spScInit K (ga K "Script") (ga K "Step") (vs ++ []) H Q E
    rw [List.append_nil]
    exact h, mSc⟩
  have C_scInit0 : MkC P w K mg base "Script" (ga K "Script") 5 (spScInit0 K (ga K "Script") (ga K "Step") (dflS K)) := ⟨_, kSc, O_scInit.raw be1 ve1, mSc⟩
  have O_coRuns : FnOk P w K mg base CX0 1 (prA "County" "runs" K) fd_coRuns _ (spCoRuns K (ga K "County")) := ok_coRuns F_coRuns TC
  have C_coRuns : PrC P w K mg base (ga K "County") "runs" 1 (spCoRuns K (ga K "County")) := ⟨_, _, _, _, prB_ok (moQ_at e 0 (b := prB "County" "runs" K)), O_coRuns, b_coRuns⟩
  have O_coRows : FnOk P w K mg base CX0 1 (prA "County" "rows" K) fd_coRows _ (spCoRows K (ga K "County")) := ok_coRows F_coRows TC T
  have C_coRows : PrC P w K mg base (ga K "County") "rows" 1 (spCoRows K (ga K "County")) := ⟨_, _, _, _, prB_ok (moQ_at e 2 (b := prB "County" "rows" K)), O_coRows, b_coRows⟩
  have O_coText : FnOk P w K mg base CX0 2 (prA "County" "text" K) fd_coText _ (spCoText K (ga K "County")) := ok_coText F_coText TC T mN C_runText
  have C_coText : PrC P w K mg base (ga K "County") "text" 2 (spCoText K (ga K "County")) := ⟨_, _, _, _, prB_ok (moQ_at e 1 (b := prB "County" "text" K)), O_coText, b_coText⟩
  have O_coFrom : FnOk P w K mg base CX0 1 (meA "County" "rows_from" K) fd_coFrom _ (spCoFrom K (ga K "County")) := ok_coFrom F_coFrom TC T
  have M_coFrom := He.meth_ok (faQ_at e 43 (f := .meth "County" "rows_from"))
  have C_coFrom : MeC P w K mg base (ga K "County") "rows_from" 1 (spCoFrom K (ga K "County")) := ⟨_, M_coFrom, raw_of O_coFrom b_coFrom⟩
  have O_coOnly : FnOk P w K mg base CX0 4 (meA "County" "only" K) fd_coOnly _ (spCoOnly K (ga K "County")) := ok_coOnly F_coOnly TC C_coInit
  have M_coOnly := He.meth_ok (faQ_at e 44 (f := .meth "County" "only"))
  have C_coOnly : MeC P w K mg base (ga K "County") "only" 4 (spCoOnly K (ga K "County")) := ⟨_, M_coOnly, raw_of O_coOnly b_coOnly⟩
  have O_coOf : FnOk P w K mg base CX0 4 (stA "County" "of" K) fd_coOf _ (spCoOf K (ga K "County")) := ok_coOf F_coOf T mN C_runIn C_isRuns C_coInit
  have C_coOf : StC P w K mg base "County" "of" 4 (spCoOf K (ga K "County")) := stB_ok (moQ_at e 6 (b := stB "County" "of" K)) mCo F_coOf.kp (raw_of O_coOf b_coOf)
  have O_stepOf : FnOk P w K mg base CX0 3 (stA "Step" "of" K) fd_stepOf _ (spStepOf (ga K "Step")) := ok_stepOf F_stepOf T mK hK C_number C_stepInit
  have C_stepOf : StC P w K mg base "Step" "of" 3 (spStepOf (ga K "Step")) := stB_ok (moQ_at e 7 (b := stB "Step" "of" K)) mSt F_stepOf.kp (raw_of O_stepOf b_stepOf)
  have O_stepCall : FnOk P w K mg base CX0 5 (meA "Step" "__call__" K) fd_stepCall _ (spStepCall K (ga K "Step") (ga K "County")) := ok_stepCall F_stepCall TS TC mT C_coOnly C_coRows C_coInit0 hC0
  have C_stepCall : InC P w K mg base (ga K "Step") 5 (spStepCall K (ga K "Step") (ga K "County")) := ⟨_, clB_ok (moQ_at e 9 (b := clB "Step" K)), raw_of O_stepCall b_stepCall⟩
  have O_scOf : FnOk P w K mg base CX0 7 (stA "Script" "of" K) fd_scOf _ (spScOf K (ga K "Script") (ga K "Step")) := ok_scOf F_scOf mN mB C_stepOf C_scInit
  have C_scOf : StC P w K mg base "Script" "of" 7 (spScOf K (ga K "Script") (ga K "Step")) := stB_ok (moQ_at e 8 (b := stB "Script" "of" K)) mSc F_scOf.kp (raw_of O_scOf b_scOf)
  have O_scLeast : FnOk P w K mg base CX0 2 (prA "Script" "least" K) fd_scLeast _ (spScLeast K (ga K "Script") (ga K "Step")) := ok_scLeast F_scLeast TP C_leastIn
  have C_scLeast : PrC P w K mg base (ga K "Script") "least" 2 (spScLeast K (ga K "Script") (ga K "Step")) := ⟨_, _, _, _, prB_ok (moQ_at e 5 (b := prB "Script" "least" K)), O_scLeast, b_scLeast⟩
  have O_scFloor : FnOk P w K mg base CX0 3 (meA "Script" "floor" K) fd_scFloor _ (spScFloor K (ga K "Script") (ga K "Step")) := ok_scFloor F_scFloor TP C_floorIn
  have M_scFloor := He.meth_ok (faQ_at e 45 (f := .meth "Script" "floor"))
  have C_scFloor : MeC P w K mg base (ga K "Script") "floor" 3 (spScFloor K (ga K "Script") (ga K "Step")) := ⟨_, M_scFloor, raw_of O_scFloor b_scFloor⟩
  have K_scFloor : KwC P w K mg base (ga K "Script") "floor" "size" 3 (spScFloor K (ga K "Script") (ga K "Step")) := ⟨_, _, _, M_scFloor, O_scFloor, kw_of F_scFloor⟩
  have O_scCall : FnOk P w K mg base CX0 6 (meA "Script" "__call__" K) fd_scCall _ (spScCall K (ga K "Script") (ga K "Step") (ga K "County")) := ok_scCall F_scCall TP C_stepCall
  have C_scCall : InC P w K mg base (ga K "Script") 6 (spScCall K (ga K "Script") (ga K "Step") (ga K "County")) := ⟨_, clB_ok (moQ_at e 10 (b := clB "Script" K)), raw_of O_scCall b_scCall⟩
  have O_box : FnOk P w K mg base CX0 1 (glA "_law_box" K) fd_box _ (spBox K) := ok_box F_box T
  have C_box : Cal P w K mg base "_law_box" 1 (spBox K) := cal_of F_box.kp O_box b_box (He.glo_ok X G (faQ_at e 14 (f := .glo "_law_box")))
  have O_take : FnOk P w K mg base CX0 1 (glA "_law_take" K) fd_take _ spTake := ok_take F_take T
  have C_take : Cal P w K mg base "_law_take" 1 spTake := cal_of F_take.kp O_take b_take (He.glo_ok X G (faQ_at e 15 (f := .glo "_law_take")))
  have O_cells : FnOk P w K mg base CX0 1 (glA "_law_cells" K) fd_cells _ (spCells K) := ok_cells F_cells T
  have C_cells : Cal P w K mg base "_law_cells" 1 (spCells K) := cal_of F_cells.kp O_cells b_cells (He.glo_ok X G (faQ_at e 16 (f := .glo "_law_cells")))
  have O_of54 : FnOk P w K mg base CX0 2 (glA "_law_of" K) fd_of54 _ spOf := ok_of54 F_of54 T C_take
  have C_of54 : Cal P w K mg base "_law_of" 2 spOf := cal_of F_of54.kp O_of54 b_of54 (He.glo_ok X G (faQ_at e 17 (f := .glo "_law_of")))
  have O_same := ok_same (P := P) (w := w) (mg := mg) (base := base) F_same T I fun k sp h => cal_of F_same.kp h b_same (He.glo_ok X G (faQ_at e 18 (f := .glo "_law_same")))
  have C_same2 : Cal P w K mg base "_law_same" 3 (spSame K 2) := cal_of F_same.kp (O_same 2) b_same (He.glo_ok X G (faQ_at e 18 (f := .glo "_law_same")))
  have C_same3 : Cal P w K mg base "_law_same" 4 (spSame K 3) := cal_of F_same.kp (O_same 3) b_same (He.glo_ok X G (faQ_at e 18 (f := .glo "_law_same")))
  have O_LawSum : FnOk P w K mg base CX0 1 (glA "_law_sum" K) fd_LawSum _ (spSummed K) := ok_LawSum F_LawSum T
  have C_LawSum : Cal P w K mg base "_law_sum" 1 (spSummed K) := cal_of F_LawSum.kp O_LawSum b_LawSum (He.glo_ok X G (faQ_at e 19 (f := .glo "_law_sum")))
  have O_lot : FnOk P w K mg base CX0 3 (glA "_law_lot" K) fd_lot _ (spLot K) := ok_lot F_lot T C_take C_of54 C_LawSum
  have C_lot : Cal P w K mg base "_law_lot" 3 (spLot K) := cal_of F_lot.kp O_lot b_lot (He.glo_ok X G (faQ_at e 20 (f := .glo "_law_lot")))
  have O_heap : FnOk P w K mg base CX0 1 (glA "_law_heap" K) fd_heap _ (spHeap K) := ok_heap F_heap T
  have C_heap : Cal P w K mg base "_law_heap" 1 (spHeap K) := cal_of F_heap.kp O_heap b_heap (He.glo_ok X G (faQ_at e 21 (f := .glo "_law_heap")))
  have O_line : FnOk P w K mg base CX0 3 (glA "_law_line" K) fd_line _ (spLine K) := ok_line F_line T C_take C_of54
  have C_line : Cal P w K mg base "_law_line" 3 (spLine K) := cal_of F_line.kp O_line b_line (He.glo_ok X G (faQ_at e 22 (f := .glo "_law_line")))
  have O_host : FnOk P w K mg base CX0 7 (glA "_law_host" K) fd_host _ (spHost K (ga K "Script") (ga K "Step")) := ok_host F_host C_stepInit C_scInit
  have C_host : Cal P w K mg base "_law_host" 7 (spHost K (ga K "Script") (ga K "Step")) := cal_of F_host.kp O_host b_host (He.glo_ok X G (faQ_at e 23 (f := .glo "_law_host")))
  have O_stair : FnOk P w K mg base CX0 1 (glA "_law_stair" K) fd_stair _ (spStair K) := ok_stair F_stair T
  have C_stair : Cal P w K mg base "_law_stair" 1 (spStair K) := cal_of F_stair.kp O_stair b_stair (He.glo_ok X G (faQ_at e 24 (f := .glo "_law_stair")))
  have O_just : FnOk P w K mg base CX0 2 (glA "_law_just" K) fd_just _ (spJust K) := ok_just F_just T C_take C_stair C_LawSum
  have C_just : Cal P w K mg base "_law_just" 2 (spJust K) := cal_of F_just.kp O_just b_just (He.glo_ok X G (faQ_at e 26 (f := .glo "_law_just")))
  have O_hand : FnOk P w K mg base CX0 8 (glA "_law_by_hand_right" K) fd_hand _ spHand := ok_hand F_hand T TP TC hP0 C_scOf C_scLeast C_scFloor K_scFloor C_scCall C_coOf C_coText C_scInit0 C_coInit C_same2
  have C_hand : Cal P w K mg base "_law_by_hand_right" 8 spHand := cal_of F_hand.kp O_hand b_hand (He.glo_ok X G (faQ_at e 25 (f := .glo "_law_by_hand_right")))
  have O_right : FnOk P w K mg base CX0 9 (glA "_law_right" K) fd_right _ spRight := ok_right F_right T TP TC C_coInit C_heap C_scLeast C_coFrom C_scFloor C_scCall C_coRuns C_coOnly C_same3 C_hand C_line C_host C_stair C_lot C_just
  have C_right : Cal P w K mg base "_law_right" 9 spRight := cal_of F_right.kp O_right b_right (He.glo_ok X G (faQ_at e 27 (f := .glo "_law_right")))
  exact ok_law F_law T C_cells C_box C_right
end K8

set_option maxRecDepth 100000
set_option maxHeartbeats 0
/-! the head's run -/
namespace K8
open PySem PySem.Spec PyProof.Rows L2
def names0 : List PySem.Str := ["_wall", "is_number", "tupled", "number_in", "NoPlace", "NoTown", "BadText", "BadRun", "BadStep", "NOTHING", "TIMES", "PAIR", "summed", "run_in", "run_text", "is_run", "is_runs", "County", "shown", "many_from", "has", "places_of", "joined", "is_within", "blended", "greatest_within", "least_around", "TOWN", "COUNTY", "KINDS"]
def names1 : List PySem.Str := ["Step", "START", "least_in", "floors_in", "floor_in", "form_with", "form_of_step", "form_behind", "power_of", "plain_steps", "BETWEEN", "form_of_steps", "Script", "_law_box", "_law_take", "_law_cells", "_law_of", "_law_same", "_law_sum", "_law_lot", "_law_heap", "_law_line", "_law_host", "_law_stair", "_law_by_hand_right", "_law_just", "_law_right"]
def names : List PySem.Str := names0 ++ names1
abbrev R : PySem.W.OpenRow := PySem.W.OpenLaw.row PySem.Challenge.rw_smalltowns_k08_whole_shown_by_what_sizes
abbrev hk : PySem.W.Hook := hookQ 723 exQ fnQ
def ob (s : PySem.W.SharedT) : AlQ := obsQG 723 exQ fnQ (HandSHeadRun.getT s)
theorem ob_eq (s : PySem.W.SharedT) : ob s = hk.obs s.abs := obsQG_eq (HandSHeadRun.getT_eq s)
theorem run (w : World) : HandSHeadRun.RunEq R (PySem.W.view R.prog [65]) hk ob 20000 names w := by
  intro os
  kernel_rfl
end K8

set_option maxRecDepth 100000
set_option maxHeartbeats 0
open PySem PySem.W PySem.Calls PyProof.Rows
theorem PySem.Challenge.cw_smalltowns_k08_whole_shown_by_what_sizes_holds : PySem.Challenge.rw_smalltowns_k08_whole_shown_by_what_sizes.Holds := by
  w_on; o_law
  refine HandSHeadRun.head_any (r := OpenLaw.row PySem.Challenge.rw_smalltowns_k08_whole_shown_by_what_sizes) (q := view (OpenLaw.row PySem.Challenge.rw_smalltowns_k08_whole_shown_by_what_sizes).prog [65]) (H := K8.hk) (ob := K8.ob) (M := 20000) (loose := K8.names) (d := HandSHeadRun.topDef (OpenLaw.row PySem.Challenge.rw_smalltowns_k08_whole_shown_by_what_sizes).prog 65) (kwd := []) K8.ob_eq
    (by kernel_rfl) (fun s => by kernel_rfl) K8.run (by kernel_rfl) (by kernel_rfl) (by kernel_rfl) (by rfl) (by first | assumption | decide +kernel) (by decide +kernel) ⟨rfl, rfl, rfl, rfl, rfl, by decide +kernel⟩ ?hw ?hc
  case hw => w_witness2
  case hc =>
    refine L2.walk_ofE (l := PySem.Challenge.rw_smalltowns_k08_whole_shown_by_what_sizes) (n := 63) (k := 10) (x := "_law_script") (CX := L2.CX0) rfl (by decide) (by kernel_rfl) ⟨rfl, by decide, by decide⟩ ?F (fun _ _ _ _ z => z)
    intro w mg fa h Y G hmg0
    obtain ⟨K, KX, c⟩ := Y
    have hmg : mg ("law" : PySem.Str) = some (.ref fa) := by
      have e : (HandSHeadRun.topDef (OpenLaw.row PySem.Challenge.rw_smalltowns_k08_whole_shown_by_what_sizes).prog 65).name = ("law" : PySem.Str) := by kernel_rfl
      rw [← e]
      exact hmg0
    obtain ⟨fd, hb, hF⟩ := K8.facts (P := (PySem.Challenge.rw_smalltowns_k08_whole_shown_by_what_sizes).prog) (w := w) KX G hmg c
    exact ⟨K, fd, K8.spLaw K, KX, hb, fun H a ns hl _ hS => ⟨a, ns, rfl, hS, hl, fun _ => rfl⟩, hF⟩
