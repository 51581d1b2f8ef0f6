import PyProof.Rows.All
import Wide.All
import OpenK.AllK
import Wide.FinOn
import HandS.ForMost
import HandS.Text
import HandS.Codes
import HandS.Defaults
import HandS.IsInst
import HandS.Style
import HandS.Head0
import HandS.Head1
import HandS.Head2
import HandS.HeadEnd
import HandS.HeadHook1
import HandS.HeadHook2
import HandS.Wide
import HandS.DictComp
import HandS.ExcOwn
import HandS.TryOnly
import HandS.ExcIs
import HandS.CallSlots
import HandS.WordsExc
import HandS.Dict
import HandS.TupLe
import HandS.Zip
import HandS.TupAny
import HandS.TupMul
import HandS.Iter
import HandS.More
import HandS.WordsDict
import HandS.Deep
import HandS.Bytes
import HandS.Flow
import HandS.SortInts
import HandS.BoundList
import PyProof.StrBlock2
import PyProof.P3In
import PyProof.DictUpdate
import KE.KxText
import KE.DataMinMax
import KE.KDictPairs
import KE.KDictSum
import KE.KSortKey
import HandS.SortKw
import KE.GoesMore
import HandS.Finally
import KE.DataFind
import PyProof.TupleOfSeq
import HandS.Conv
import PySem.Challenge.RW_steadwhole_k80_headers_and_certificates
set_option Elab.async false
set_option linter.all false
set_option maxRecDepth 100000
set_option maxHeartbeats 1000000
namespace Z
/-! ### the layer of this claim: defs by names, short rules of reading -/
open PySem PySem.Spec PyProof.Rows L2
set_option autoImplicit false
abbrev BindAll (x qual : Str) (st : Stmt) (ps : List Str) : Prop := ∀ (kV doc pm : Value) (an : Option Addr) (cdv ct : Value) (us : List Value), us.length = ps.length →
  bindArgs (PySem.W.fnOf x qual (defArgs st) (defBody st) (defScope st) .none kV doc pm an cdv ct) ⟨us, []⟩ = pure (ps.zip us)
structure GFun (K : PySem.W.Frag) (mg : Str → Option Value) (x : Str) (st : Stmt) : Prop where
  ex : ∃ (f : Addr) (fd : FuncData), FunD K x x (defArgs st) (defBody st) (defScope st) [] [] f fd ∧ mg x = some (.ref f)
structure GMet (K : PySem.W.Frag) (C : Addr) (m qual : Str) (st : Stmt) : Prop where
  ex : ∃ (f : Addr) (fd : FuncData), FunD K m qual (defArgs st) (defBody st) (defScope st) [] [] f fd ∧ Cls K C ∧ Meth K C m f
/-- a def that may be called by its name (CX: what it may let out) -/
structure CalX (CX : CXT) (P : Program) (w : World) (K : PySem.W.Frag) (mg : Str → Option Value) (base : Heap) (k : Nat) (x : Str) (sp : Sp) (dvs : List V) : Prop where
  ex : ∃ (f : Addr) (fd : FuncData) (ps : List Str) (ds : List Value), FnOk P w K mg base CX k f fd ps sp ∧ mg x = some (.ref f) ∧ PySem.W.keepIn K (.ref f) = true ∧ Binds K fd ps ds ∧ Vals dvs ds
structure MetX (CX : CXT) (P : Program) (w : World) (K : PySem.W.Frag) (mg : Str → Option Value) (base : Heap) (k : Nat) (C : Addr) (m : Str) (sp : Sp) (dvs : List V) : Prop where
  ex : ∃ (f : Addr) (fd : FuncData) (ps : List Str) (ds : List Value), Cls K C ∧ Meth K C m f ∧ FnOk P w K mg base CX k f fd ps sp ∧ Binds K fd ps ds ∧ Vals dvs ds
structure MakX (CX : CXT) (P : Program) (w : World) (K : PySem.W.Frag) (mg : Str → Option Value) (base : Heap) (k : Nat) (x : Str) (C : Addr) (sp : Sp) (dvs : List V) : Prop where
  ex : ∃ (f : Addr) (fd : FuncData) (ps : List Str) (ds : List Value), Mk K C f ∧ FnOk P w K mg base CX k f fd ps sp ∧ mg x = some (.ref C) ∧ Binds K fd ps ds ∧ Vals dvs ds
abbrev Cal := CalX CX0
abbrev Met := MetX CX0
abbrev Mak := MakX CX0
section
variable {P : Program} {w : World} {K : PySem.W.Frag} {mg : Str → Option Value} {base : Heap} {x qual m : Str} {st : Stmt} {N ps : List Str} {k : Nat} {sp : Sp} {C : Addr}
theorem fnd_ok {f : Addr} {fd : FuncData} (F : FunD K x qual (defArgs st) (defBody st) (defScope st) [] [] f fd) (S : FnScope N ps (defScope st)) (len : ∀ vs H Q E, sp vs H Q E → vs.length = ps.length)
    (hbody : ∀ (cdv : Value) (A : Around) (outer : List Env) (s : Shared) (H : Hp) (vs : List V) (Q : VK) (E : XK), Room k (A.deeper (envOfC qual (defScope st) s.heap.objs.size f cdv)) → sp vs H Q E →
      ∃ t, PSs (cxOf CX0 P w K mg base N qual (defScope st) f cdv A outer s H E).nox (defBody st) t ∧ t { nx := fun _ H' => Q .non H', rt := Q } (start N vs) H) : FnOk P w K mg base CX0 (k + 1) f fd ps sp :=
  F.ok S len fun cdv A outer s H vs Q E hr h => by
    obtain ⟨t, h1, h2⟩ := hbody cdv A outer s H vs Q E hr h
    exact ⟨t, h1.nox, h2⟩
theorem GFun.cal (g : GFun K mg x st) (S : FnScope N ps (defScope st)) (b : BindAll x x st ps) (len : ∀ vs H Q E, sp vs H Q E → vs.length = ps.length)
    (hbody : ∀ (f : Addr) (cdv : Value) (A : Around) (outer : List Env) (s : Shared) (H : Hp) (vs : List V) (Q : VK) (E : XK), Room k (A.deeper (envOfC x (defScope st) s.heap.objs.size f cdv)) → sp vs H Q E →
      ∃ t, PSs (cxOf CX0 P w K mg base N x (defScope st) f cdv A outer s H E).nox (defBody st) t ∧ t { nx := fun _ H' => Q .non H', rt := Q } (start N vs) H) : Cal P w K mg base (k + 1) x sp [] := by
  obtain ⟨f, fd, F, hm⟩ := g.ex
  exact ⟨f, fd, ps, [], fnd_ok F S len (hbody f), hm, F.kp, F.bindsN b, .nil⟩
theorem GMet.met (g : GMet K C m qual st) (S : FnScope N ps (defScope st)) (b : BindAll m qual st ps) (len : ∀ vs H Q E, sp vs H Q E → vs.length = ps.length)
    (hbody : ∀ (f : Addr) (cdv : Value) (A : Around) (outer : List Env) (s : Shared) (H : Hp) (vs : List V) (Q : VK) (E : XK), Room k (A.deeper (envOfC qual (defScope st) s.heap.objs.size f cdv)) → sp vs H Q E →
      ∃ t, PSs (cxOf CX0 P w K mg base N qual (defScope st) f cdv A outer s H E).nox (defBody st) t ∧ t { nx := fun _ H' => Q .non H', rt := Q } (start N vs) H) : Met P w K mg base (k + 1) C m sp [] := by
  obtain ⟨f, fd, F, c, hm⟩ := g.ex
  exact ⟨f, fd, ps, [], c, hm, fnd_ok F S len (hbody f), F.bindsN b, .nil⟩
theorem GFun.law {fa : Addr} (g : GFun K mg "law" st) (hmg : mg "law" = some (.ref fa)) (S : FnScope N ["script"] (defScope st)) (b : BindAll "law" "law" st ["script"]) (len : ∀ vs H Q E, sp vs H Q E → vs.length = 1)
    (hbody : ∀ (base : Heap) (f : Addr) (cdv : Value) (A : Around) (outer : List Env) (s : Shared) (H : Hp) (vs : List V) (Q : VK) (E : XK), Room k (A.deeper (envOfC "law" (defScope st) s.heap.objs.size f cdv)) → sp vs H Q E →
      ∃ t, PSs (cxOf CX0 P w K mg base N "law" (defScope st) f cdv A outer s H E).nox (defBody st) t ∧ t { nx := fun _ H' => Q .non H', rt := Q } (start N vs) H) :
    ∃ fd : FuncData, (∀ (s : Shared) (v : Value), BindsTo s fd ⟨[v], []⟩ [("script", v)]) ∧ ∀ base : Heap, FnOk P w K mg base CX0 (k + 1) fa fd ["script"] sp := by
  obtain ⟨f, fd, F, hm⟩ := g.ex
  have e := hmg.symm.trans hm
  cases e
  exact ⟨fd, fun s v => F.bindsA (ps := ["script"]) b s [v] rfl, fun base => fnd_ok F S len (hbody base fa)⟩
end
section
variable {X : Cx} {k j : Nat} {C : Addr} {x m : Str} {sp : Sp} {dvs : List V} {p pos apos : Pos}
theorem pe_cX {CX : CXT} {E : XK} {e : Expr} {es : List Expr} {t : TA} (c : CalX CX X.prog X.w X.K X.mg X.base k x sp dvs) (hr : Room j X.A) (hk : k ≤ j) (hx : Passes CX X E) (hg : Gl X x) (ha : PA X (e :: es) t)
    (hdb : (x == ("__debug__" : Str)) = false := by decide) (he : starEach (e :: es) X.env = (false, eval e X.env) :: starEach es X.env := by rfl) (hpl : (backTo pos (starEach es X.env)).any (·.1) = false := by rfl) :
    PE X (.Call (.Name x p) (e :: es) [] pos) (tCall sp dvs E t) := by
  obtain ⟨f, fd, ps, ds, F, hm, kp, b, d⟩ := c.ex
  exact pe_call F (hr.mono hk) hg hm kp b d hx ha hdb he hpl
theorem pe_cX0 {CX : CXT} {E : XK} (c : CalX CX X.prog X.w X.K X.mg X.base k x sp dvs) (hr : Room j X.A) (hk : k ≤ j) (hx : Passes CX X E) (hg : Gl X x) (hdb : (x == ("__debug__" : Str)) = false := by decide) :
    PE X (.Call (.Name x p) [] [] pos) (tCall sp dvs E tNil) := by
  obtain ⟨f, fd, ps, ds, F, hm, kp, b, d⟩ := c.ex
  exact pe_call0 F (hr.mono hk) hg hm kp b d hx hdb
theorem pe_c {e : Expr} {es : List Expr} {t : TA} (c : Cal X.prog X.w X.K X.mg X.base k x sp dvs) (hr : Room j X.A) (hk : k ≤ j) (hg : Gl X x) (ha : PA X (e :: es) t)
    (hdb : (x == ("__debug__" : Str)) = false := by decide) (he : starEach (e :: es) X.env = (false, eval e X.env) :: starEach es X.env := by rfl) (hpl : (backTo pos (starEach es X.env)).any (·.1) = false := by rfl) :
    PE X (.Call (.Name x p) (e :: es) [] pos) (tCall sp dvs E0 t) := pe_cX c hr hk pass0 hg ha hdb he hpl
theorem pe_c0 (c : Cal X.prog X.w X.K X.mg X.base k x sp dvs) (hr : Room j X.A) (hk : k ≤ j) (hg : Gl X x) (hdb : (x == ("__debug__" : Str)) = false := by decide) :
    PE X (.Call (.Name x p) [] [] pos) (tCall sp dvs E0 tNil) := pe_cX0 c hr hk pass0 hg hdb
theorem pe_mkX {CX : CXT} {E : XK} {e : Expr} {es : List Expr} {t : TA} (c : MakX CX X.prog X.w X.K X.mg X.base k x C sp dvs) (hr : Room j X.A) (hk : k + 1 ≤ j) (hx : Passes CX X E) (hg : Gl X x) (ha : PA X (e :: es) t)
    (hdb : (x == ("__debug__" : Str)) = false := by decide) (he : starEach (e :: es) X.env = (false, eval e X.env) :: starEach es X.env := by rfl) (hpl : (backTo pos (starEach es X.env)).any (·.1) = false := by rfl) :
    PE X (.Call (.Name x p) (e :: es) [] pos) (tMake C sp dvs E t) := by
  obtain ⟨f, fd, ps, ds, M, F, hm, b, d⟩ := c.ex
  exact pe_make M F (hr.mono hk) hg hm b d hx ha hdb he hpl
theorem pe_mkX0 {CX : CXT} {E : XK} (c : MakX CX X.prog X.w X.K X.mg X.base k x C sp dvs) (hr : Room j X.A) (hk : k + 1 ≤ j) (hx : Passes CX X E) (hg : Gl X x) (hdb : (x == ("__debug__" : Str)) = false := by decide) :
    PE X (.Call (.Name x p) [] [] pos) (tMake C sp dvs E tNil) := by
  obtain ⟨f, fd, ps, ds, M, F, hm, b, d⟩ := c.ex
  exact pe_make0 M F (hr.mono hk) hg hm b d hx hdb
theorem pe_mk {e : Expr} {es : List Expr} {t : TA} (c : Mak X.prog X.w X.K X.mg X.base k x C sp dvs) (hr : Room j X.A) (hk : k + 1 ≤ j) (hg : Gl X x) (ha : PA X (e :: es) t)
    (hdb : (x == ("__debug__" : Str)) = false := by decide) (he : starEach (e :: es) X.env = (false, eval e X.env) :: starEach es X.env := by rfl) (hpl : (backTo pos (starEach es X.env)).any (·.1) = false := by rfl) :
    PE X (.Call (.Name x p) (e :: es) [] pos) (tMake C sp dvs E0 t) := pe_mkX c hr hk pass0 hg ha hdb he hpl
theorem pe_mk0 (c : Mak X.prog X.w X.K X.mg X.base k x C sp dvs) (hr : Room j X.A) (hk : k + 1 ≤ j) (hg : Gl X x) (hdb : (x == ("__debug__" : Str)) = false := by decide) :
    PE X (.Call (.Name x p) [] [] pos) (tMake C sp dvs E0 tNil) := pe_mkX0 c hr hk pass0 hg hdb
section
variable {e o : Expr} {es : List Expr} {ta : TE} {t : TA}
theorem pe_mtX {CX : CXT} {E : XK} {pl : Sem Bool} (c : MetX CX X.prog X.w X.K X.mg X.base k C m sp dvs) (hr : Room j X.A) (hk : k ≤ j) (hx : Passes CX X E) (he : PE X o ta) (ha : PA X (e :: es) t)
    (hst : starEach (e :: es) X.env = (false, eval e X.env) :: starEach es X.env := by rfl) (hpl : (backTo pos (starEach es X.env)).any (·.1) = false := by rfl)
    (ht : eval (.Call (.Attribute o m apos) (e :: es) [] pos) X.env = (do
      let ov ← eval o X.env
      standAt apos.atName
      let (f, first) ← holding [ov] (getMethod ov m pl)
      callWith pos f first (backTo pos (starEach (e :: es) X.env)) (backToKw pos (keywordEach [] X.env))) := by rfl) :
    PE X (.Call (.Attribute o m apos) (e :: es) [] pos) (tMeth C m sp dvs E ta t) := by
  obtain ⟨f, fd, ps, ds, hc, hm, F, b, d⟩ := c.ex
  exact pe_meth (pl := pl) he hc hm F (hr.mono hk) b d hx ha hst hpl ht
theorem pe_mtX0 {CX : CXT} {E : XK} {pl : Sem Bool} (c : MetX CX X.prog X.w X.K X.mg X.base k C m sp dvs) (hr : Room j X.A) (hk : k ≤ j) (hx : Passes CX X E) (he : PE X o ta)
    (ht : eval (.Call (.Attribute o m apos) [] [] pos) X.env = (do
      let ov ← eval o X.env
      standAt apos.atName
      let (f, first) ← holding [ov] (getMethod ov m pl)
      callWith pos f first (backTo pos (starEach [] X.env)) (backToKw pos (keywordEach [] X.env))) := by rfl) :
    PE X (.Call (.Attribute o m apos) [] [] pos) (tMeth C m sp dvs E ta tNil) := by
  obtain ⟨f, fd, ps, ds, hc, hm, F, b, d⟩ := c.ex
  exact pe_meth0 (pl := pl) he hc hm F (hr.mono hk) b d hx ht
theorem pe_mt {pl : Sem Bool} (c : Met X.prog X.w X.K X.mg X.base k C m sp dvs) (hr : Room j X.A) (hk : k ≤ j) (he : PE X o ta) (ha : PA X (e :: es) t)
    (hst : starEach (e :: es) X.env = (false, eval e X.env) :: starEach es X.env := by rfl) (hpl : (backTo pos (starEach es X.env)).any (·.1) = false := by rfl)
    (ht : eval (.Call (.Attribute o m apos) (e :: es) [] pos) X.env = (do
      let ov ← eval o X.env
      standAt apos.atName
      let (f, first) ← holding [ov] (getMethod ov m pl)
      callWith pos f first (backTo pos (starEach (e :: es) X.env)) (backToKw pos (keywordEach [] X.env))) := by rfl) :
    PE X (.Call (.Attribute o m apos) (e :: es) [] pos) (tMeth C m sp dvs E0 ta t) := pe_mtX (pl := pl) c hr hk pass0 he ha hst hpl ht
theorem pe_mt0 {pl : Sem Bool} (c : Met X.prog X.w X.K X.mg X.base k C m sp dvs) (hr : Room j X.A) (hk : k ≤ j) (he : PE X o ta)
    (ht : eval (.Call (.Attribute o m apos) [] [] pos) X.env = (do
      let ov ← eval o X.env
      standAt apos.atName
      let (f, first) ← holding [ov] (getMethod ov m pl)
      callWith pos f first (backTo pos (starEach [] X.env)) (backToKw pos (keywordEach [] X.env))) := by rfl) :
    PE X (.Call (.Attribute o m apos) [] [] pos) (tMeth C m sp dvs E0 ta tNil) := pe_mtX0 (pl := pl) c hr hk pass0 he ht
end
theorem pe_gc (hg : Gl X x) {v : V} (h : ∃ u, X.mg x = some u ∧ RelV v u) (hd : (x == ("__debug__" : Str)) = false := by decide) : PE X (.Name x p) (tC v) := by
  obtain ⟨u, e, r⟩ := h
  exact pe_glob hg e r hd
/-- xs[i], read ahead of xs[i] op= e -/
theorem get_list : PGet X (rIxL X.K) := by
  intro pins s σ H x y v u Q I rx ry h
  obtain ⟨p, xs, i, z, rfl, rfl, hq, he, q⟩ := h
  cases rx
  obtain ⟨t, rfl⟩ := ry
  obtain ⟨its, r, pl, hz⟩ := I.list hq
  obtain ⟨j, h1, h2, h3, h4, h5⟩ := atI_get he
  obtain ⟨w, ew, rw'⟩ := r.get h2
  have hl := r.length
  have hn := line63
  have fin : EP X pins σ Q w s := ⟨z, H, I, rw', q⟩
  by_cases h0 : 0 ≤ i
  · have hj : i.toNat = j := by
      rw [seqIndex_of h0 h5] at h1
      exact Option.some.inj h1
    exact wpAny_getItem_list pl.isList h0 (by omega) (by rw [hj]; simpa using ew) fin
  · have hj : (i + (its.toArray.size : Int)).toNat = j := by
      rw [seqIndex_neg (by omega) h4] at h1
      rw [List.size_toArray, ← hl]
      exact Option.some.inj h1
    exact wpAny_getItem_list_neg pl.isList (by omega) (by rw [List.size_toArray] <;> omega) (by omega) (by rw [hj]; simpa using ew) fin
end
abbrev qNewL (xs : List V) (H : Hp) (Q : VK) : Prop := xs.length ≤ sizeLine ∧ ∀ p, H p = none → Q (.ref p) (upd H p (.lst xs))
abbrev qNewT (xs : List V) (H : Hp) (Q : VK) : Prop := xs.length ≤ sizeLine ∧ ∀ p, H p = none → Q (.ref p) (upd H p (.tup xs))
section
variable {K : PySem.W.Frag} {σ : L2.St} {H : Hp} {Q : VK} {QB : Bool → Hp → Prop} {v x y : V} {ta tb te : TE} {t u : TT} {r : R2} {D : Ends} {QL : List V → Hp → Prop}
/-! ### readings, one step each -/
theorem rd_var {i : Nat} (h : σ[i]? = some (some v)) (q : Q v H) : tVar i σ H Q := ⟨v, h, q⟩
theorem rd_c (q : Q v H) : tC v σ H Q := q
theorem rd_op (q : ta σ H fun x H1 => tb σ H1 fun y H2 => r x y H2 Q) : tOp r ta tb σ H Q := q
theorem rd_i0 {g : Int → Int → V} {i j : Int} (q : Q (g i j) H) : rI0 g (.int i) (.int j) H Q := ⟨i, j, rfl, rfl, q⟩
theorem rd_i {C : Int → Int → Prop} {g : Int → Int → V} {i j : Int} (c : C i j) (q : Q (g i j) H) : rI C g (.int i) (.int j) H Q := ⟨i, j, rfl, rfl, c, q⟩
theorem rd_eq (h : scal x y = true) (q : Q (.bl (decide (x = y))) H) : rEq x y H Q := ⟨h, q⟩
theorem rd_ne (h : scal x y = true) (q : Q (.bl (!decide (x = y))) H) : rNe x y H Q := ⟨h, q⟩
theorem rd_eqi {i j : Int} (q : Q (.bl (decide (i = j))) H) : rEq (.int i) (.int j) H Q := ⟨rfl, by rw [show decide (V.int i = V.int j) = decide (i = j) from decide_eq_decide.mpr (by simp)]; exact q⟩
theorem rd_nei {i j : Int} (q : Q (.bl (!decide (i = j))) H) : rNe (.int i) (.int j) H Q := ⟨rfl, by rw [show decide (V.int i = V.int j) = decide (i = j) from decide_eq_decide.mpr (by simp)]; exact q⟩
theorem rd_tb {b : Bool} {R : Bool → Prop} (q : R b) : ∃ k, V.bl b = .bl k ∧ R k := ⟨b, rfl, q⟩
theorem rd_tTest (q : te σ H fun x H' => ∃ k, x = .bl k ∧ QB k H') : tTest te σ H QB := q
theorem rd_tB (q : te σ H fun x H' => ∃ k, x = .bl k ∧ QB k H') : tB te σ H QB := q
theorem rd_and (q : t σ H fun c H1 => if c = true then u σ H1 QB else QB false H1) : tAnd t u σ H QB := q
theorem rd_or (q : t σ H fun c H1 => if c = true then QB true H1 else u σ H1 QB) : tOr t u σ H QB := q
theorem rd_not (q : t σ H fun c H1 => QB (!c) H1) : tNot t σ H QB := q
theorem rd_ite {b : Bool} {A B : Prop} (h1 : b = true → A) (h2 : b = false → B) : if b = true then A else B := by
  cases b with
  | true => exact iteT (h1 rfl)
  | false => exact iteF (h2 rfl)
theorem rd_nil (q : QL [] H) : tNil σ H QL := q
theorem rd_cons {tr : TA} (q : ta σ H fun x H1 => tr σ H1 fun xs H2 => QL (x :: xs) H2) : tCons ta tr σ H QL := q
theorem rd_call {sp : Sp} {dvs : List V} {E : XK} {ts : TA} (q : ts σ H fun vs H1 => sp (vs ++ dvs) H1 Q E) : tCall sp dvs E ts σ H Q := q
theorem rd_cb {rc : List V → Hp → VK → Prop} {ts : TA} (q : ts σ H fun vs H1 => rc vs H1 Q) : tCB rc ts σ H Q := q
theorem rd_un {ru : V → Hp → VK → Prop} (q : ta σ H fun x H1 => ru x H1 Q) : tUn ru ta σ H Q := q
theorem rd_ixL {p : Addr} {xs : List V} {i : Int} (h : SqL K H p xs) (ha : atI xs i = some v) (q : Q v H) : rIxL K (.ref p) (.int i) H Q := ⟨p, xs, i, v, rfl, rfl, h, ha, q⟩
theorem rd_ixT {p : Addr} {xs : List V} {i : Int} (h : SqT K H p xs) (ha : atI xs i = some v) (q : Q v H) : rIxT K (.ref p) (.int i) H Q := ⟨p, xs, i, v, rfl, rfl, h, ha, q⟩
theorem rd_seq {a b : TS} (q : a { D with nx := b D } σ H) : tSeq a b D σ H := q
theorem rd_nx (q : D.nx σ H) : tNext D σ H := q
theorem rd_asg {g : TG} (q : te σ H fun x H1 => g x σ H1 D.nx) : tAsg te g D σ H := q
theorem rd_gName {i : Nat} {R : L2.St → Hp → Prop} (q : R (σ.set i (some v)) H) : gName i v σ H R := q
theorem rd_gSub {to ti : TE} {s : TSet} {R : L2.St → Hp → Prop} (q : to σ H fun o H1 => ti σ H1 fun i H2 => s o i v H2 fun H3 => R σ H3) : gSub to ti s v σ H R := q
theorem rd_setL {p : Addr} {xs : List V} {k : Int} {j : Nat} {R : Hp → Prop} (h : H p = some (.lst xs)) (hj : ixN xs.length k = some j) (q : R (upd H p (.lst (xs.set j v)))) : rSetL (.ref p) (.int k) v H R := ⟨p, xs, k, j, rfl, rfl, h, hj, q⟩
theorem rd_ret (q : te σ H D.rt) : tRet te D σ H := q
theorem rd_retN (q : D.rt .non H) : tRetN D σ H := q
theorem rd_if {c : TT} {a b : TS} (q : c σ H fun z H1 => if z = true then a D σ H1 else b D σ H1) : tIfS c a b D σ H := q
theorem rd_drop (q : te σ H fun _ H1 => D.nx σ H1) : tDrop te D σ H := q
theorem rd_aug {i : Nat} {ti : TIp} (h : σ[i]? = some (some x)) (q : te σ H fun y H1 => ti x y H1 fun z H2 => D.nx (σ.set i (some z)) H2) : tAug i te ti D σ H := ⟨x, h, q⟩
theorem rd_ipI {f : Int → Int → Int} {i j : Int} (q : Q (.int (f i j)) H) : ipI f (.int i) (.int j) H Q := ⟨i, j, rfl, rfl, q⟩
theorem rd_augS {to ti te : TE} {tg : V → V → Hp → VK → Prop} {tp : TIp} {ts : TSet} (q : to σ H fun o H1 => ti σ H1 fun i H2 => tg o i H2 fun x H3 => te σ H3 fun y H4 => tp x y H4 fun z H5 => ts o i z H5 fun H6 => D.nx σ H6) : tAugS to ti te tg tp ts D σ H := q
theorem rd_tup {ts : TA} (q : ts σ H fun xs H1 => qNewT xs H1 Q) : tTup ts σ H Q := q
theorem rd_lst {ts : TA} (q : ts σ H fun xs H1 => qNewL xs H1 Q) : tLst ts σ H Q := q
theorem rd_bm0 {T : String} {m : V → List V → Hp → VK → Prop} {to : TE} (q : to σ H fun x H1 => tyV K T x H1 ∧ m x [] H1 Q) : tBM0 K T m to σ H Q := q
theorem rd_bm {T : String} {m : V → List V → Hp → VK → Prop} {to : TE} {ts : TA} (q : to σ H fun x H1 => tyV K T x H1 ∧ ts σ H1 fun xs H2 => m x xs H2 Q) : tBM K T m to ts σ H Q := q
theorem rd_chain {r r' : R2} {tc : TE} (q : ta σ H fun x H1 => tb σ H1 fun y H2 => r x y H2 fun z H3 => ∃ k, z = .bl k ∧ (if k = true then tc σ H3 fun w' H4 => r' y w' H4 Q else Q (.bl false) H3)) : tChain r r' ta tb tc σ H Q := q
theorem rd_andV (q : ta σ H fun x H1 => ∃ c, x = .bl c ∧ if c = true then tb σ H1 Q else Q (.bl false) H1) : tAndV ta tb σ H Q := q
theorem rd_orV (q : ta σ H fun x H1 => ∃ c, x = .bl c ∧ if c = true then Q (.bl true) H1 else tb σ H1 Q) : tOrV ta tb σ H Q := q
theorem rd_notV (q : ta σ H fun x H1 => ∃ c, x = .bl c ∧ Q (.bl (!c)) H1) : tNotV ta σ H Q := q
end
section
variable {K : PySem.W.Frag} {H : Hp} {Q : VK}
theorem rd_isi {x c : V} {t u : Value} {b : Bool} (k : ClsV c u) (ty : TyX K H x t) (e : PySem.W.kitOne K t u = some b) (q : Q (.bl b) H) : rIsi K [x, c] H Q := ⟨x, c, t, u, b, rfl, k, ty, e, q⟩
theorem isi_int_int {i : Int} (q : Q (.bl true) H) : rIsi K [(.int i), .ty "int"] H Q := rd_isi (.ty _) (.base (.int _)) (kit_ty (by decide +kernel)) q
theorem isi_int_bool {i : Int} (q : Q (.bl false) H) : rIsi K [(.int i), .ty "bool"] H Q := rd_isi (.ty _) (.base (.int _)) (kit_ty (by decide +kernel)) q
theorem isi_int_str {i : Int} (q : Q (.bl false) H) : rIsi K [(.int i), .ty "str"] H Q := rd_isi (.ty _) (.base (.int _)) (kit_ty (by decide +kernel)) q
theorem isi_int_list {i : Int} (q : Q (.bl false) H) : rIsi K [(.int i), .ty "list"] H Q := rd_isi (.ty _) (.base (.int _)) (kit_ty (by decide +kernel)) q
theorem isi_int_tuple {i : Int} (q : Q (.bl false) H) : rIsi K [(.int i), .ty "tuple"] H Q := rd_isi (.ty _) (.base (.int _)) (kit_ty (by decide +kernel)) q
theorem isi_int_dict {i : Int} (q : Q (.bl false) H) : rIsi K [(.int i), .ty "dict"] H Q := rd_isi (.ty _) (.base (.int _)) (kit_ty (by decide +kernel)) q
theorem isi_int_bytes {i : Int} (q : Q (.bl false) H) : rIsi K [(.int i), .ty "bytes"] H Q := rd_isi (.ty _) (.base (.int _)) (kit_ty (by decide +kernel)) q
theorem isi_bool_int {i : Bool} (q : Q (.bl true) H) : rIsi K [(.bl i), .ty "int"] H Q := rd_isi (.ty _) (.base (.bl _)) (kit_ty (by decide +kernel)) q
theorem isi_bool_bool {i : Bool} (q : Q (.bl true) H) : rIsi K [(.bl i), .ty "bool"] H Q := rd_isi (.ty _) (.base (.bl _)) (kit_ty (by decide +kernel)) q
theorem isi_bool_str {i : Bool} (q : Q (.bl false) H) : rIsi K [(.bl i), .ty "str"] H Q := rd_isi (.ty _) (.base (.bl _)) (kit_ty (by decide +kernel)) q
theorem isi_bool_list {i : Bool} (q : Q (.bl false) H) : rIsi K [(.bl i), .ty "list"] H Q := rd_isi (.ty _) (.base (.bl _)) (kit_ty (by decide +kernel)) q
theorem isi_bool_tuple {i : Bool} (q : Q (.bl false) H) : rIsi K [(.bl i), .ty "tuple"] H Q := rd_isi (.ty _) (.base (.bl _)) (kit_ty (by decide +kernel)) q
theorem isi_bool_dict {i : Bool} (q : Q (.bl false) H) : rIsi K [(.bl i), .ty "dict"] H Q := rd_isi (.ty _) (.base (.bl _)) (kit_ty (by decide +kernel)) q
theorem isi_bool_bytes {i : Bool} (q : Q (.bl false) H) : rIsi K [(.bl i), .ty "bytes"] H Q := rd_isi (.ty _) (.base (.bl _)) (kit_ty (by decide +kernel)) q
theorem isi_str_int {i : Str} (q : Q (.bl false) H) : rIsi K [(.str i), .ty "int"] H Q := rd_isi (.ty _) (.base (.str _)) (kit_ty (by decide +kernel)) q
theorem isi_str_bool {i : Str} (q : Q (.bl false) H) : rIsi K [(.str i), .ty "bool"] H Q := rd_isi (.ty _) (.base (.str _)) (kit_ty (by decide +kernel)) q
theorem isi_str_str {i : Str} (q : Q (.bl true) H) : rIsi K [(.str i), .ty "str"] H Q := rd_isi (.ty _) (.base (.str _)) (kit_ty (by decide +kernel)) q
theorem isi_str_list {i : Str} (q : Q (.bl false) H) : rIsi K [(.str i), .ty "list"] H Q := rd_isi (.ty _) (.base (.str _)) (kit_ty (by decide +kernel)) q
theorem isi_str_tuple {i : Str} (q : Q (.bl false) H) : rIsi K [(.str i), .ty "tuple"] H Q := rd_isi (.ty _) (.base (.str _)) (kit_ty (by decide +kernel)) q
theorem isi_str_dict {i : Str} (q : Q (.bl false) H) : rIsi K [(.str i), .ty "dict"] H Q := rd_isi (.ty _) (.base (.str _)) (kit_ty (by decide +kernel)) q
theorem isi_str_bytes {i : Str} (q : Q (.bl false) H) : rIsi K [(.str i), .ty "bytes"] H Q := rd_isi (.ty _) (.base (.str _)) (kit_ty (by decide +kernel)) q
theorem isi_NoneType_int  (q : Q (.bl false) H) : rIsi K [.non, .ty "int"] H Q := rd_isi (.ty _) (.base (.non)) (kit_ty (by decide +kernel)) q
theorem isi_NoneType_bool  (q : Q (.bl false) H) : rIsi K [.non, .ty "bool"] H Q := rd_isi (.ty _) (.base (.non)) (kit_ty (by decide +kernel)) q
theorem isi_NoneType_str  (q : Q (.bl false) H) : rIsi K [.non, .ty "str"] H Q := rd_isi (.ty _) (.base (.non)) (kit_ty (by decide +kernel)) q
theorem isi_NoneType_list  (q : Q (.bl false) H) : rIsi K [.non, .ty "list"] H Q := rd_isi (.ty _) (.base (.non)) (kit_ty (by decide +kernel)) q
theorem isi_NoneType_tuple  (q : Q (.bl false) H) : rIsi K [.non, .ty "tuple"] H Q := rd_isi (.ty _) (.base (.non)) (kit_ty (by decide +kernel)) q
theorem isi_NoneType_dict  (q : Q (.bl false) H) : rIsi K [.non, .ty "dict"] H Q := rd_isi (.ty _) (.base (.non)) (kit_ty (by decide +kernel)) q
theorem isi_NoneType_bytes  (q : Q (.bl false) H) : rIsi K [.non, .ty "bytes"] H Q := rd_isi (.ty _) (.base (.non)) (kit_ty (by decide +kernel)) q
theorem isi_list_int {p : Addr} {xs : List V} (h : H p = some (.lst xs)) (q : Q (.bl false) H) : rIsi K [(.ref p), .ty "int"] H Q := rd_isi (.ty _) (.base (.lst h)) (kit_ty (by decide +kernel)) q
theorem isi_list_bool {p : Addr} {xs : List V} (h : H p = some (.lst xs)) (q : Q (.bl false) H) : rIsi K [(.ref p), .ty "bool"] H Q := rd_isi (.ty _) (.base (.lst h)) (kit_ty (by decide +kernel)) q
theorem isi_list_str {p : Addr} {xs : List V} (h : H p = some (.lst xs)) (q : Q (.bl false) H) : rIsi K [(.ref p), .ty "str"] H Q := rd_isi (.ty _) (.base (.lst h)) (kit_ty (by decide +kernel)) q
theorem isi_list_list {p : Addr} {xs : List V} (h : H p = some (.lst xs)) (q : Q (.bl true) H) : rIsi K [(.ref p), .ty "list"] H Q := rd_isi (.ty _) (.base (.lst h)) (kit_ty (by decide +kernel)) q
theorem isi_list_tuple {p : Addr} {xs : List V} (h : H p = some (.lst xs)) (q : Q (.bl false) H) : rIsi K [(.ref p), .ty "tuple"] H Q := rd_isi (.ty _) (.base (.lst h)) (kit_ty (by decide +kernel)) q
theorem isi_list_dict {p : Addr} {xs : List V} (h : H p = some (.lst xs)) (q : Q (.bl false) H) : rIsi K [(.ref p), .ty "dict"] H Q := rd_isi (.ty _) (.base (.lst h)) (kit_ty (by decide +kernel)) q
theorem isi_list_bytes {p : Addr} {xs : List V} (h : H p = some (.lst xs)) (q : Q (.bl false) H) : rIsi K [(.ref p), .ty "bytes"] H Q := rd_isi (.ty _) (.base (.lst h)) (kit_ty (by decide +kernel)) q
theorem isi_tuple_int {p : Addr} {xs : List V} (h : H p = some (.tup xs)) (q : Q (.bl false) H) : rIsi K [(.ref p), .ty "int"] H Q := rd_isi (.ty _) (.base (.tup h)) (kit_ty (by decide +kernel)) q
theorem isi_tuple_bool {p : Addr} {xs : List V} (h : H p = some (.tup xs)) (q : Q (.bl false) H) : rIsi K [(.ref p), .ty "bool"] H Q := rd_isi (.ty _) (.base (.tup h)) (kit_ty (by decide +kernel)) q
theorem isi_tuple_str {p : Addr} {xs : List V} (h : H p = some (.tup xs)) (q : Q (.bl false) H) : rIsi K [(.ref p), .ty "str"] H Q := rd_isi (.ty _) (.base (.tup h)) (kit_ty (by decide +kernel)) q
theorem isi_tuple_list {p : Addr} {xs : List V} (h : H p = some (.tup xs)) (q : Q (.bl false) H) : rIsi K [(.ref p), .ty "list"] H Q := rd_isi (.ty _) (.base (.tup h)) (kit_ty (by decide +kernel)) q
theorem isi_tuple_tuple {p : Addr} {xs : List V} (h : H p = some (.tup xs)) (q : Q (.bl true) H) : rIsi K [(.ref p), .ty "tuple"] H Q := rd_isi (.ty _) (.base (.tup h)) (kit_ty (by decide +kernel)) q
theorem isi_tuple_dict {p : Addr} {xs : List V} (h : H p = some (.tup xs)) (q : Q (.bl false) H) : rIsi K [(.ref p), .ty "dict"] H Q := rd_isi (.ty _) (.base (.tup h)) (kit_ty (by decide +kernel)) q
theorem isi_tuple_bytes {p : Addr} {xs : List V} (h : H p = some (.tup xs)) (q : Q (.bl false) H) : rIsi K [(.ref p), .ty "bytes"] H Q := rd_isi (.ty _) (.base (.tup h)) (kit_ty (by decide +kernel)) q
theorem isi_dict_int {p : Addr} {xs : List (Key × V)} (h : H p = some (.dK xs)) (q : Q (.bl false) H) : rIsi K [(.ref p), .ty "int"] H Q := rd_isi (.ty _) (.base (.dK h)) (kit_ty (by decide +kernel)) q
theorem isi_dict_bool {p : Addr} {xs : List (Key × V)} (h : H p = some (.dK xs)) (q : Q (.bl false) H) : rIsi K [(.ref p), .ty "bool"] H Q := rd_isi (.ty _) (.base (.dK h)) (kit_ty (by decide +kernel)) q
theorem isi_dict_str {p : Addr} {xs : List (Key × V)} (h : H p = some (.dK xs)) (q : Q (.bl false) H) : rIsi K [(.ref p), .ty "str"] H Q := rd_isi (.ty _) (.base (.dK h)) (kit_ty (by decide +kernel)) q
theorem isi_dict_list {p : Addr} {xs : List (Key × V)} (h : H p = some (.dK xs)) (q : Q (.bl false) H) : rIsi K [(.ref p), .ty "list"] H Q := rd_isi (.ty _) (.base (.dK h)) (kit_ty (by decide +kernel)) q
theorem isi_dict_tuple {p : Addr} {xs : List (Key × V)} (h : H p = some (.dK xs)) (q : Q (.bl false) H) : rIsi K [(.ref p), .ty "tuple"] H Q := rd_isi (.ty _) (.base (.dK h)) (kit_ty (by decide +kernel)) q
theorem isi_dict_dict {p : Addr} {xs : List (Key × V)} (h : H p = some (.dK xs)) (q : Q (.bl true) H) : rIsi K [(.ref p), .ty "dict"] H Q := rd_isi (.ty _) (.base (.dK h)) (kit_ty (by decide +kernel)) q
theorem isi_dict_bytes {p : Addr} {xs : List (Key × V)} (h : H p = some (.dK xs)) (q : Q (.bl false) H) : rIsi K [(.ref p), .ty "bytes"] H Q := rd_isi (.ty _) (.base (.dK h)) (kit_ty (by decide +kernel)) q
end
/-! ### the head's facts and some more of K -/
def obsX (n : Nat) (fa : List He.Fa) (fn : List He.DefD) (ex : PySem.W.Frag → Bool) (g : Addr → Option Obj) : He.AlD × Bool := (He.obsD fa fn (He.frG g (He.asD g n)), ex (He.frG g (He.asD g n)))
def hookX (n : Nat) (fa : List He.Fa) (fn : List He.DefD) (ex : PySem.W.Frag → Bool) : PySem.W.Hook where
  α := He.AlD × Bool
  obs := fun s => obsX n fa fn ex s.heap.get?
  val := fun _ => (He.valD fn, true)
  says := fun _ h => ∃ K : PySem.W.Frag, K.In h ∧ He.SaysD fa fn K ∧ ex K = true
  of := fun _ _ e => ⟨_, He.frG_in, congrArg Prod.fst e, congrArg Prod.snd e⟩
  keeps := fun _ _ _ ⟨K, hK, c⟩ k => ⟨K, PySem.W.Frag.In.keeps hK k, c⟩
theorem obsX_eq {n : Nat} {fa : List He.Fa} {fn : List He.DefD} {ex : PySem.W.Frag → Bool} {g : Addr → Option Obj} {s : Shared} (h : ∀ a, g a = s.heap.get? a) : obsX n fa fn ex g = (hookX n fa fn ex).obs s := by
  have e : g = s.heap.get? := funext h
  rw [e] <;> rfl
theorem ex_at {exs : List (PySem.W.Frag → Bool)} {K : PySem.W.Frag} (h : (exs.all fun f => f K) = true) (i : Nat) {f : PySem.W.Frag → Bool} (e : exs[i]? = some f := by rfl) : f K = true := List.all_eq_true.mp h f (List.mem_of_getElem? e)
/-! ### rules under names -/
def qIsN : R2 := fun x y H Q => y = .non ∧ Q (.bl (decide (x = .non))) H
def qNotN : R2 := fun x y H Q => y = .non ∧ Q (.bl (!decide (x = .non))) H
def qInt1 : List V → Hp → VK → Prop := fun xs H Q => (∃ i, xs = [.int i] ∧ Q (.int i) H) ∨ ∃ k, xs = [.bl k] ∧ Q (.int (if k then 1 else 0)) H
def qBool1 : List V → Hp → VK → Prop := fun xs H Q => (∃ i, xs = [.int i] ∧ Q (.bl (i != 0)) H) ∨ ∃ k, xs = [.bl k] ∧ Q (.bl k) H
def qLen (K : PySem.W.Frag) : List V → Hp → VK → Prop := fun xs H Q => ∃ p ys, xs = [.ref p] ∧ (SqL K H p ys ∨ SqT K H p ys) ∧ (ys.length ≤ 1152921504606846976 → Q (.int ys.length) H)
def qLenS : List V → Hp → VK → Prop := fun xs H Q => ∃ z, xs = [.str z] ∧ z.length ≤ sizeLine ∧ Q (.int z.length) H
def qListOf (K : PySem.W.Frag) : List V → Hp → VK → Prop := fun xs H Q => ∃ p ys, xs = [.ref p] ∧ (SqL K H p ys ∨ SqT K H p ys) ∧ ∀ l, H l = none → Q (.ref l) (upd H l (.lst ys))
def qMax2 : List V → Hp → VK → Prop := fun xs H Q => ∃ i j, xs = [.int i, .int j] ∧ Q (.int (if j > i then j else i)) H
def qMin2 : List V → Hp → VK → Prop := fun xs H Q => ∃ i j, xs = [.int i, .int j] ∧ Q (.int (if j < i then j else i)) H
section
variable {X : Cx} {K : PySem.W.Frag} {H : Hp} {Q : VK} {x : V}
theorem op_isNq : OpR X (compareOp .Is) qIsN := op_isN
theorem op_notNq : OpR X (compareOp .IsNot) qNotN := op_notN
theorem call_int1q : CallR X (.type "int") qInt1 := call_int1
theorem call_bool1q : CallR X (.type "bool") qBool1 := call_bool1
theorem call_lenq : CallR X (.builtin "len") (qLen X.K) := by
  intro pins s σ H xs us Q I r h
  obtain ⟨p, ys, rfl, hs, q⟩ := h
  have hz : ys.length ≤ sizeLine := by
    rcases hs with hs | hs
    · obtain ⟨_, _, _, z⟩ := I.list hs
      exact z
    · obtain ⟨_, _, _, z⟩ := I.tuple hs
      exact z
  exact call_len_seq pins s σ H _ us Q I r ⟨p, ys, rfl, hs, q (Nat.le_trans hz (by decide))⟩
theorem call_lenSq : CallR X (.builtin "len") qLenS := call_len_str
theorem call_listq : CallR X (.type "list") (qListOf X.K) := call_list_of
theorem call_max2q (hc : X.calm = true) : CallR X (.builtin "max") qMax2 := call_max2 hc
theorem call_min2q (hc : X.calm = true) : CallR X (.builtin "min") qMin2 := call_min2 hc
theorem rd_isNn (q : Q (.bl true) H) : qIsN .non .non H Q := ⟨rfl, q⟩
theorem rd_isNi {i : Int} (q : Q (.bl false) H) : qIsN (.int i) .non H Q := ⟨rfl, q⟩
theorem rd_isNb {i : Bool} (q : Q (.bl false) H) : qIsN (.bl i) .non H Q := ⟨rfl, q⟩
theorem rd_isNs {i : Str} (q : Q (.bl false) H) : qIsN (.str i) .non H Q := ⟨rfl, q⟩
theorem rd_isNr {i : Addr} (q : Q (.bl false) H) : qIsN (.ref i) .non H Q := ⟨rfl, q⟩
theorem rd_notNn (q : Q (.bl false) H) : qNotN .non .non H Q := ⟨rfl, q⟩
theorem rd_notNi {i : Int} (q : Q (.bl true) H) : qNotN (.int i) .non H Q := ⟨rfl, q⟩
theorem rd_notNb {i : Bool} (q : Q (.bl true) H) : qNotN (.bl i) .non H Q := ⟨rfl, q⟩
theorem rd_notNs {i : Str} (q : Q (.bl true) H) : qNotN (.str i) .non H Q := ⟨rfl, q⟩
theorem rd_notNr {i : Addr} (q : Q (.bl true) H) : qNotN (.ref i) .non H Q := ⟨rfl, q⟩
theorem rd_int1 {i : Int} (q : Q (.int i) H) : qInt1 [.int i] H Q := .inl ⟨i, rfl, q⟩
theorem rd_int1b {k : Bool} (q : Q (.int (if k then 1 else 0)) H) : qInt1 [.bl k] H Q := .inr ⟨k, rfl, q⟩
theorem rd_lenL {p : Addr} {xs : List V} (h : SqL K H p xs) (q : xs.length ≤ 1152921504606846976 → Q (.int xs.length) H) : qLen K [.ref p] H Q := ⟨p, xs, rfl, .inl h, q⟩
theorem rd_lenT {p : Addr} {xs : List V} (h : SqT K H p xs) (q : xs.length ≤ 1152921504606846976 → Q (.int xs.length) H) : qLen K [.ref p] H Q := ⟨p, xs, rfl, .inr h, q⟩
theorem rd_listL {p : Addr} {xs : List V} (h : SqL K H p xs) (q : ∀ l, H l = none → Q (.ref l) (upd H l (.lst xs))) : qListOf K [.ref p] H Q := ⟨p, xs, rfl, .inl h, q⟩
end
section
variable {K : PySem.W.Frag} {H : Hp} {Q : VK}
theorem rd_xor {a b : Nat} (q : Q (.int ((a ^^^ b : Nat) : Int)) H) : rI0 (fun i j => .int (Builtin.bitXor i j)) (.int (a : Int)) (.int (b : Int)) H Q :=
  rd_i0 (by rw [Bits.bitXor_pp (x := (a : Int)) (y := (b : Int)) (by omega) (by omega)]; exact q)
theorem iteNF {A B : Prop} (h : A) : if (!false) = true then A else B := by
  rw [if_pos (show (!false) = true from rfl)]
  exact h
theorem iteNT {A B : Prop} (h : B) : if (!true) = true then A else B := by
  rw [if_neg (by decide)]
  exact h
theorem iteNS' {c A B : Prop} [Decidable c] (hc : ¬ c) (h : A) : if (!decide c) = true then A else B := by
  rw [decide_eq_false hc]
  exact iteNF h
theorem not_t {c : Prop} [Decidable c] (h : (!decide c) = true) : ¬ c := by
  cases q : decide c with
  | true => rw [q] at h; cases h
  | false => exact of_decide_eq_false q
theorem not_f {c : Prop} [Decidable c] (h : (!decide c) = false) : c := by
  cases q : decide c with
  | true => exact of_decide_eq_true q
  | false => rw [q] at h; cases h
theorem iteD {c A B : Prop} [Decidable c] (hc : c) (h : A) : if decide c = true then A else B := by
  rw [decide_eq_true hc]
  exact iteT h
theorem iteDn {c A B : Prop} [Decidable c] (hc : ¬ c) (h : B) : if decide c = true then A else B := by
  rw [decide_eq_false hc]
  exact iteF h
theorem atI_int {ns : List Int} {i : Int} (h0 : 0 ≤ i) (h1 : i < ns.length) : ∃ z : Int, atI (ns.map V.int) i = some (.int z) ∧ ns[i.toNat]? = some z := by
  have hk : i.toNat < ns.length := by omega
  have e : ((i.toNat : Nat) : Int) = i := by omega
  refine ⟨ns[i.toNat], ?_, List.getElem?_eq_getElem hk⟩
  have q : atI (ns.map V.int) ((i.toNat : Nat) : Int) = some (.int ns[i.toNat]) := atI_nat (by rw [List.getElem?_map, List.getElem?_eq_getElem hk] <;> rfl)
  rw [e] at q
  exact q
theorem same_new {H : Hp} {p : Addr} (h : H p = none) (o : HO) : Same H (upd H p o) := fun b u q => by rw [upd_ne (ne_of_none q h)]; exact q
end
/-- a statement, then the rest, with a word between them: what follows is shown once -/
def qJoin (t u : TS) : TS := fun D σ H => ∃ Mid : L2.St → Hp → Prop, t { D with nx := Mid } σ H ∧ ∀ σ' H', Mid σ' H' → u D σ' H'
theorem pss_join {X : Cx} {st : Stmt} {rest : List Stmt} {t u : TS} (h1 : PS X st t) (h2 : PSs X rest u) : PSs X (st :: rest) (qJoin t u) := by
  refine ⟨fun pins s σ H D I h => ?_⟩
  obtain ⟨Mid, h, k⟩ := h
  refine wpAny_execs_cons (thn (h1.run pins s σ H { D with nx := Mid } I h) fun f s1 q => ?_)
  cases f with
  | next =>
    obtain ⟨σ', H', I', q⟩ := q
    exact h2.run pins s1 σ' H' D I' (k σ' H' q)
  | ret v => exact q
  | brk => exact q
  | cont => exact q
theorem cx_K {CX : CXT} {P : Program} {w : World} {K : PySem.W.Frag} {mg : Str → Option Value} {base : Heap} {N : List Str} {qual : Str} {sc : Scope} {f : Addr} {cd : Value} {A : Around} {outer : List Env} {s : Shared} {H : Hp} {E : XK} : (cxOf CX P w K mg base N qual sc f cd A outer s H E).nox.K = K := rfl
theorem cx_K2 {CX : CXT} {P : Program} {w : World} {K : PySem.W.Frag} {mg : Str → Option Value} {base : Heap} {N : List Str} {qual : Str} {sc : Scope} {f : Addr} {cd : Value} {A : Around} {outer : List Env} {s : Shared} {H : Hp} {E : XK} : (cxOf CX P w K mg base N qual sc f cd A outer s H E).K = K := rfl
theorem cx_w {CX : CXT} {P : Program} {w : World} {K : PySem.W.Frag} {mg : Str → Option Value} {base : Heap} {N : List Str} {qual : Str} {sc : Scope} {f : Addr} {cd : Value} {A : Around} {outer : List Env} {s : Shared} {H : Hp} {E : XK} : (cxOf CX P w K mg base N qual sc f cd A outer s H E).nox.w = w := rfl
/-! ### data: what a value stands for, off the objects M that change -/
/-- all that is not in M stays; nothing goes -/
structure Ext (M : List Addr) (H H' : Hp) : Prop where
  keep : ∀ b o, b ∉ M → H b = some o → H' b = some o
  there : ∀ b, H b ≠ none → H' b ≠ none
/-- the objects M stand -/
def Al (M : List Addr) (H : Hp) : Prop := ∀ b ∈ M, H b ≠ none
mutual
inductive Is (M : List Addr) (H : Hp) : V → PyData → Prop
  | non : Is M H .non .none
  | bl (b : Bool) : Is M H (.bl b) (.bool b)
  | int (i : Int) : Is M H (.int i) (.int i)
  | str (x : Str) : Is M H (.str x) (.str x)
  | lst {a : Addr} {xs : List V} {ds : List PyData} : a ∉ M → H a = some (.lst xs) → IsAll M H xs ds → Is M H (.ref a) (.list ds)
  | tup {a : Addr} {xs : List V} {ds : List PyData} : a ∉ M → H a = some (.tup xs) → IsAll M H xs ds → Is M H (.ref a) (.tuple ds)
inductive IsAll (M : List Addr) (H : Hp) : List V → List PyData → Prop
  | nil : IsAll M H [] []
  | cons {v : V} {vs : List V} {d : PyData} {ds : List PyData} : Is M H v d → IsAll M H vs ds → IsAll M H (v :: vs) (d :: ds)
end
section
variable {M M' : List Addr} {H H' H'' : Hp} {v x : V} {vs xs : List V} {d : PyData} {ds : List PyData} {a p : Addr} {o : HO} {K : PySem.W.Frag}
theorem Ext.refl : Ext M H H := ⟨fun _ _ _ h => h, fun _ h => h⟩
theorem Ext.trans (e : Ext M H H') (f : Ext M H' H'') : Ext M H H'' := ⟨fun b o hb h => f.keep b o hb (e.keep b o hb h), fun b h => f.there b (e.there b h)⟩
theorem Ext.more (e : Ext M H H') (h : ∀ b ∈ M, b ∈ M') : Ext M' H H' := ⟨fun b o hb k => e.keep b o (fun q => hb (h b q)) k, e.there⟩
theorem Ext.any (e : Ext [] H H') : Ext M H H' := e.more fun b h => nomatch h
theorem there_upd : ∀ b, H b ≠ none → (upd H p o) b ≠ none := fun b h => by
  unfold upd
  split
  · exact fun z => nomatch z
  · exact h
theorem Ext.new (h : H p = none) : Ext M H (upd H p o) := ⟨fun b u _ k => by rw [upd_ne (ne_of_none k h)]; exact k, there_upd⟩
theorem Ext.set (h : p ∈ M) : Ext M H (upd H p o) := ⟨fun b u hb k => by rw [upd_ne (fun e => hb (by rw [e]; exact h))]; exact k, there_upd⟩
/-- a change of what was not there at first -/
theorem Ext.mut (e : Ext M H H') (h : H p = none) : Ext M H (upd H' p o) := ⟨fun b u hb k => by rw [upd_ne (ne_of_none k h)]; exact e.keep b u hb k, fun b k => there_upd b (e.there b k)⟩
theorem Ext.same (e : Ext [] H H') : Same H H' := fun b o h => e.keep b o (fun q => nomatch q) h
theorem Ext.free (e : Ext M H H') (h : H' p = none) : H p = none := by
  cases q : H p with
  | none => rfl
  | some o => exact absurd h (e.there p (by rw [q]; exact fun z => nomatch z))
theorem Ext.drop (e : Ext (p :: M) H H') (h : H p = none) : Ext M H H' := ⟨fun b o hb k => e.keep b o (fun q => by
  rcases List.mem_cons.mp q with rfl | q
  · rw [h] at k; cases k
  · exact hb q) k, e.there⟩
theorem Al.ext (s : Al M H) (e : Ext M' H H') : Al M H' := fun b hb => e.there b (s b hb)
theorem Al.nil : Al [] H := fun b h => nomatch h
theorem Al.cons (h : H p ≠ none) (s : Al M H) : Al (p :: M) H := fun b hb => by
  rcases List.mem_cons.mp hb with rfl | hb
  · exact h
  · exact s b hb
theorem Al.fresh (s : Al M H) (h : H p = none) : p ∉ M := fun q => s p q h
theorem some_ne {b : Addr} {o : HO} (h : H b = some o) : H b ≠ none := by rw [h]; exact fun z => nomatch z
theorem upd_there : upd H p o p ≠ none := by rw [upd_same]; exact fun z => nomatch z
mutual
theorem Is.mono (e : Ext M H H') : ∀ {v : V} {d : PyData}, Is M H v d → Is M H' v d
  | _, _, .non => .non
  | _, _, .bl b => .bl b
  | _, _, .int i => .int i
  | _, _, .str x => .str x
  | _, _, .lst n h r => .lst n (e.keep _ _ n h) (IsAll.mono e r)
  | _, _, .tup n h r => .tup n (e.keep _ _ n h) (IsAll.mono e r)
theorem IsAll.mono (e : Ext M H H') : ∀ {vs : List V} {ds : List PyData}, IsAll M H vs ds → IsAll M H' vs ds
  | _, _, .nil => .nil
  | _, _, .cons h r => .cons (Is.mono e h) (IsAll.mono e r)
end
mutual
/-- other objects are looked away from -/
theorem Is.swap (h : ∀ b ∈ M', b ∈ M ∨ H b = none) : ∀ {v : V} {d : PyData}, Is M H v d → Is M' H v d
  | _, _, .non => .non
  | _, _, .bl b => .bl b
  | _, _, .int i => .int i
  | _, _, .str x => .str x
  | _, _, .lst n k r => .lst (fun q => by
      rcases h _ q with z | z
      · exact n z
      · rw [z] at k; cases k) k (IsAll.swap h r)
  | _, _, .tup n k r => .tup (fun q => by
      rcases h _ q with z | z
      · exact n z
      · rw [z] at k; cases k) k (IsAll.swap h r)
theorem IsAll.swap (h : ∀ b ∈ M', b ∈ M ∨ H b = none) : ∀ {vs : List V} {ds : List PyData}, IsAll M H vs ds → IsAll M' H vs ds
  | _, _, .nil => .nil
  | _, _, .cons k r => .cons (Is.swap h k) (IsAll.swap h r)
end
theorem Is.off (i : Is M H v d) (h : H p = none) : Is (p :: M) H v d := i.swap fun b hb => by
  rcases List.mem_cons.mp hb with rfl | hb
  · exact .inr h
  · exact .inl hb
theorem IsAll.off (i : IsAll M H vs ds) (h : H p = none) : IsAll (p :: M) H vs ds := i.swap fun b hb => by
  rcases List.mem_cons.mp hb with rfl | hb
  · exact .inr h
  · exact .inl hb
theorem Is.on (i : Is (p :: M) H v d) : Is M H v d := i.swap fun b hb => .inl (List.mem_cons_of_mem _ hb)
theorem IsAll.on (i : IsAll (p :: M) H vs ds) : IsAll M H vs ds := i.swap fun b hb => .inl (List.mem_cons_of_mem _ hb)
theorem Is.all (i : Is M H v d) : Is [] H v d := i.swap fun b hb => absurd hb (by simp)
/-- a new object beside -/
theorem Is.beside (i : Is M H v d) (h : H p = none) : Is (p :: M) (upd H p o) v d := (i.off h).mono (.set (List.mem_cons_self ..))
theorem IsAll.beside (i : IsAll M H vs ds) (h : H p = none) : IsAll (p :: M) (upd H p o) vs ds := (i.off h).mono (.set (List.mem_cons_self ..))
mutual
theorem Is.dp : ∀ {v : V} {d : PyData}, Is M H v d → Dp K H v d
  | _, _, .non => .non
  | _, _, .bl b => .bl b
  | _, _, .int i => .int i
  | _, _, .str x => .str x
  | _, _, .lst _ h r => .lst (SqL.of h) (IsAll.dp r)
  | _, _, .tup _ h r => .tup (SqT.of h) (IsAll.dp r)
theorem IsAll.dp : ∀ {vs : List V} {ds : List PyData}, IsAll M H vs ds → DpAll K H vs ds
  | _, _, .nil => .nil
  | _, _, .cons h r => .cons (Is.dp h) (IsAll.dp r)
end
theorem IsAll.length : ∀ {vs : List V} {ds : List PyData}, IsAll M H vs ds → vs.length = ds.length
  | _, _, .nil => rfl
  | _, _, .cons _ r => congrArg Nat.succ r.length
theorem IsAll.get : ∀ {vs : List V} {ds : List PyData} {i : Nat}, IsAll M H vs ds → ds[i]? = some d → ∃ v, vs[i]? = some v ∧ Is M H v d
  | _, _, _, .nil, e => by simp at e
  | _, _, 0, .cons h _, e => by simp at e; subst e; exact ⟨_, rfl, h⟩
  | _, _, i + 1, .cons _ r, e => by
    obtain ⟨u, h1, h2⟩ := IsAll.get (i := i) r (by simpa using e)
    exact ⟨u, by simpa using h1, h2⟩
theorem IsAll.got : ∀ {vs : List V} {ds : List PyData} {i : Nat}, IsAll M H vs ds → vs[i]? = some v → ∃ d, ds[i]? = some d ∧ Is M H v d
  | _, _, _, .nil, e => by simp at e
  | _, _, 0, .cons h _, e => by simp at e; subst e; exact ⟨_, rfl, h⟩
  | _, _, i + 1, .cons _ r, e => by
    obtain ⟨u, h1, h2⟩ := IsAll.got (i := i) r (by simpa using e)
    exact ⟨u, by simpa using h1, h2⟩
theorem IsAll.append : ∀ {vs ws : List V} {ds es : List PyData}, IsAll M H vs ds → IsAll M H ws es → IsAll M H (vs ++ ws) (ds ++ es)
  | _, _, _, _, .nil, s => s
  | _, _, _, _, .cons r t, s => .cons r (IsAll.append t s)
theorem IsAll.one (h : Is M H v d) : IsAll M H [v] [d] := .cons h .nil
theorem IsAll.take : ∀ {vs : List V} {ds : List PyData} (n : Nat), IsAll M H vs ds → IsAll M H (vs.take n) (ds.take n)
  | _, _, 0, _ => by simp only [List.take_zero]; exact .nil
  | _, _, _ + 1, .nil => .nil
  | _, _, n + 1, .cons r t => .cons r (IsAll.take n t)
theorem IsAll.drop : ∀ {vs : List V} {ds : List PyData} (n : Nat), IsAll M H vs ds → IsAll M H (vs.drop n) (ds.drop n)
  | _, _, 0, r => r
  | _, _, _ + 1, .nil => .nil
  | _, _, n + 1, .cons _ t => IsAll.drop n t
theorem IsAll.rev : ∀ {vs : List V} {ds : List PyData}, IsAll M H vs ds → IsAll M H vs.reverse ds.reverse
  | _, _, .nil => .nil
  | _, _, .cons r t => by
    rw [List.reverse_cons, List.reverse_cons]
    exact (IsAll.rev t).append (.one r)
theorem IsAll.set : ∀ {vs : List V} {ds : List PyData} (i : Nat), IsAll M H vs ds → Is M H v d → IsAll M H (vs.set i v) (ds.set i d)
  | _, _, _, .nil, _ => .nil
  | _, _, 0, .cons _ t, h => .cons h t
  | _, _, i + 1, .cons r t, h => .cons r (IsAll.set i t h)
theorem IsAll.ints : ∀ ns : List Int, IsAll M H (ns.map V.int) (ns.map PyData.int)
  | [] => .nil
  | n :: ns => .cons (.int n) (IsAll.ints ns)
theorem IsAll.ofInts : ∀ {vs : List V} {ns : List Int}, IsAll M H vs (ns.map PyData.int) → vs = ns.map V.int
  | _, [], h => by cases h; rfl
  | _, n :: ns, h => by
    cases h with
    | cons h r => cases h; rw [IsAll.ofInts r]; rfl
/-! readings -/
theorem Is.list (i : Is M H (.ref a) (.list ds)) : ∃ xs, a ∉ M ∧ H a = some (.lst xs) ∧ IsAll M H xs ds := by
  cases i with
  | lst n h r => exact ⟨_, n, h, r⟩
theorem Is.tuple (i : Is M H (.ref a) (.tuple ds)) : ∃ xs, a ∉ M ∧ H a = some (.tup xs) ∧ IsAll M H xs ds := by
  cases i with
  | tup n h r => exact ⟨_, n, h, r⟩
theorem Is.listV (i : Is M H v (.list ds)) : ∃ a xs, v = .ref a ∧ a ∉ M ∧ H a = some (.lst xs) ∧ IsAll M H xs ds := by
  cases i with
  | lst n h r => exact ⟨_, _, rfl, n, h, r⟩
theorem Is.tupleV (i : Is M H v (.tuple ds)) : ∃ a xs, v = .ref a ∧ a ∉ M ∧ H a = some (.tup xs) ∧ IsAll M H xs ds := by
  cases i with
  | tup n h r => exact ⟨_, _, rfl, n, h, r⟩
variable {Q : VK} {e : PyData}
theorem rd_dix {i : Int} {j : Nat} (h : Is M H (.ref a) (.list ds)) (hj : i = (j : Int)) (hd : ds[j]? = some d) (q : ∀ v, Is M H v d → Q v H) : rIxL K (.ref a) (.int i) H Q := by
  obtain ⟨xs, _, hx, r⟩ := h.list
  obtain ⟨v, hv, iv⟩ := r.get hd
  exact ⟨a, xs, i, v, rfl, rfl, SqL.of hx, by rw [hj]; exact atI_nat hv, q v iv⟩
theorem rd_dixT {i : Int} {j : Nat} (h : Is M H (.ref a) (.tuple ds)) (hj : i = (j : Int)) (hd : ds[j]? = some d) (q : ∀ v, Is M H v d → Q v H) : rIxT K (.ref a) (.int i) H Q := by
  obtain ⟨xs, _, hx, r⟩ := h.tuple
  obtain ⟨v, hv, iv⟩ := r.get hd
  exact ⟨a, xs, i, v, rfl, rfl, SqT.of hx, by rw [hj]; exact atI_nat hv, q v iv⟩
theorem rd_dlen (h : Is M H (.ref a) (.list ds)) (q : ds.length ≤ 1152921504606846976 → Q (.int ds.length) H) : qLen K [.ref a] H Q := by
  obtain ⟨xs, _, hx, r⟩ := h.list
  exact rd_lenL (SqL.of hx) (by rw [r.length]; exact q)
theorem rd_dlenT (h : Is M H (.ref a) (.tuple ds)) (q : ds.length ≤ 1152921504606846976 → Q (.int ds.length) H) : qLen K [.ref a] H Q := by
  obtain ⟨xs, _, hx, r⟩ := h.tuple
  exact rd_lenT (SqT.of hx) (by rw [r.length]; exact q)
theorem rd_eqD (h : Is M H x d) (k : Is M' H v e) (s1 : SeqAt.shaped d = true) (s2 : SeqAt.shaped e = true) (q : Q (.bl (PyData.eqv d e)) H) : rEqD K x v H Q := ⟨d, e, h.dp, k.dp, s1, s2, q⟩
theorem rd_neD (h : Is M H x d) (k : Is M' H v e) (s1 : SeqAt.shaped d = true) (s2 : SeqAt.shaped e = true) (q : Q (.bl (!PyData.eqv d e)) H) : rNeD K x v H Q := ⟨d, e, h.dp, k.dp, s1, s2, q⟩
/-- a new list, a new tuple -/
theorem new_lst (s : Al M H) (h : IsAll M H xs ds) (hp : H p = none) : Is M (upd H p (.lst xs)) (.ref p) (.list ds) := .lst (s.fresh hp) upd_same (h.mono (.new hp))
theorem new_tup (s : Al M H) (h : IsAll M H xs ds) (hp : H p = none) : Is M (upd H p (.tup xs)) (.ref p) (.tuple ds) := .tup (s.fresh hp) upd_same (h.mono (.new hp))
theorem szl {n : Nat} (h : n ≤ 1000) : n ≤ sizeLine := Nat.le_of_lt (small1000 h)
theorem szL {n : Nat} (h : n ≤ 100000) : n ≤ sizeLine := Nat.le_trans h (by decide)
theorem szl' {n : Nat} (h : n ≤ 100000) : n < sizeLine := Nat.lt_of_le_of_lt h (by decide)
theorem rd_dtup {K : PySem.W.Frag} {σ : L2.St} {ts : TA} (q : ts σ H fun xs H1 => xs.length ≤ sizeLine ∧ ∀ p, H1 p = none → Q (.ref p) (upd H1 p (.tup xs))) : tTup ts σ H Q := q
/-- slices by places that are not negative -/
theorem cut_nn (xs : List V) (lo hi : Nat) : cutV xs (some (lo : Int)) (some (hi : Int)) = (xs.take hi).drop lo := by
  unfold cutV
  rw [HT.sIx_nat, HT.sIx_nat, List.drop_take]
  apply List.ext_getElem?
  intro i
  simp only [List.getElem?_take, List.getElem?_drop]
  by_cases h1 : lo ≤ xs.length
  · rw [Nat.min_eq_left h1]
    by_cases h2 : hi ≤ xs.length
    · rw [Nat.min_eq_left h2]
    · rw [Nat.min_eq_right (by omega)]
      by_cases h3 : i < hi - lo
      · rw [if_pos h3]
        by_cases h4 : i < xs.length - lo
        · rw [if_pos h4]
        · rw [if_neg h4, List.getElem?_eq_none (by omega)]
      · rw [if_neg h3, if_neg (by omega)]
  · rw [Nat.min_eq_right (by omega : xs.length ≤ lo), if_neg (by omega)]
    split
    · rw [List.getElem?_eq_none (by omega)]
    · rfl
theorem cut_0n (xs : List V) (hi : Nat) : cutV xs none (some (hi : Int)) = xs.take hi := by
  have e := cut_nn xs 0 hi
  rw [List.drop_zero] at e
  rw [← e]
  unfold cutV
  rw [HT.sIx_nat, HT.sIx_nat, HT.sIx_none, Nat.zero_min]
theorem cut_n0 (xs : List V) (lo : Nat) : cutV xs (some (lo : Int)) none = xs.drop lo := by
  have e := cut_nn xs lo xs.length
  rw [List.take_length] at e
  rw [← e]
  unfold cutV
  rw [HT.sIx_nat, HT.sIx_nat, HT.sIx_none, Nat.min_self]
theorem cut_00 (xs : List V) : cutV xs none none = xs := by
  unfold cutV
  rw [HT.sIx_none, HT.sIx_none, List.drop_zero, Nat.sub_zero, List.take_length]
theorem IsAll.cut {lo hi : Nat} (h : IsAll M H xs ds) : IsAll M H (cutV xs (some (lo : Int)) (some (hi : Int))) ((ds.take hi).drop lo) := by
  rw [cut_nn]
  exact (h.take hi).drop lo
theorem IsAll.cut0 {hi : Nat} (h : IsAll M H xs ds) : IsAll M H (cutV xs none (some (hi : Int))) (ds.take hi) := by
  rw [cut_0n]
  exact h.take hi
theorem IsAll.cutN {lo : Nat} (h : IsAll M H xs ds) : IsAll M H (cutV xs (some (lo : Int)) none) (ds.drop lo) := by
  rw [cut_n0]
  exact h.drop lo
end
section
variable {M : List Addr} {H0 H H1 : Hp} {a D : Addr} {ds : List PyData} {K : PySem.W.Frag} {j : Nat} {vs : List Nat} {te : TE} {tt : TT} {σ : L2.St} {Qd : Hp → Prop} {g : TG} {tb : TS} {E : Ends}
/-- a walk over data, the list stands still -/
theorem for_data (h : Is M H0 (.ref a) (.list ds)) (Pv : Nat → L2.St → Hp → Prop) (h0 : Pv 0 σ H) (hE : ∀ i σ H, Pv i σ H → Ext M H0 H)
    (hs : ∀ i d x σ H, ds[i]? = some d → Is M H x d → Pv i σ H → g x σ H fun σ2 H2 => tb { E with nx := Pv (i + 1), ct := Pv (i + 1), bk := E.nx } σ2 H2) (hd : ∀ σ H, Pv ds.length σ H → E.nx σ H) :
    ∃ W : Nat → Nat → L2.St → Hp → Prop, (∃ m, W 0 m σ H) ∧ ∀ i m σ H, W i m σ H →
      ((Itl K a).stop i H ∧ E.nx σ H) ∨ ((Itl K a).go i H ∧ ∃ N : L2.St → Hp → Prop, (∀ σ' H', N σ' H' → ∃ m', m' < m ∧ W (i + 1) m' σ' H') ∧ ∀ x H', (Itl K a).yld i H x H' → g x σ H' fun σ2 H2 => tb { E with nx := N, ct := N, bk := E.nx } σ2 H2) := by
  obtain ⟨xs, na, hx, r⟩ := h.list
  refine for_list (xs := xs) Pv h0 (fun i σ H _ p => SqL.of ((hE i σ H p).keep _ _ na hx)) (fun i x σ H hi p => ?_) (fun σ H p => hd σ H (by rw [← r.length]; exact p))
  obtain ⟨d, hd', iv⟩ := r.got hi
  exact hs i d x σ H hd' (iv.mono (hE i σ H p)) p
theorem for_dataT (h : Is M H0 (.ref a) (.tuple ds)) (Pv : Nat → L2.St → Hp → Prop) (h0 : Pv 0 σ H) (hE : ∀ i σ H, Pv i σ H → Ext M H0 H)
    (hs : ∀ i d x σ H, ds[i]? = some d → Is M H x d → Pv i σ H → g x σ H fun σ2 H2 => tb { E with nx := Pv (i + 1), ct := Pv (i + 1), bk := E.nx } σ2 H2) (hd : ∀ σ H, Pv ds.length σ H → E.nx σ H) :
    ∃ W : Nat → Nat → L2.St → Hp → Prop, (∃ m, W 0 m σ H) ∧ ∀ i m σ H, W i m σ H →
      ((Itt K a).stop i H ∧ E.nx σ H) ∨ ((Itt K a).go i H ∧ ∃ N : L2.St → Hp → Prop, (∀ σ' H', N σ' H' → ∃ m', m' < m ∧ W (i + 1) m' σ' H') ∧ ∀ x H', (Itt K a).yld i H x H' → g x σ H' fun σ2 H2 => tb { E with nx := N, ct := N, bk := E.nx } σ2 H2) := by
  obtain ⟨xs, na, hx, r⟩ := h.tuple
  refine for_tup (xs := xs) Pv h0 (fun i σ H _ p => SqT.of ((hE i σ H p).keep _ _ na hx)) (fun i x σ H hi p => ?_) (fun σ H p => hd σ H (by rw [← r.length]; exact p))
  obtain ⟨d, hd', iv⟩ := r.got hi
  exact hs i d x σ H hd' (iv.mono (hE i σ H p)) p
/-- what a comprehension has made so far -/
structure Made (M : List Addr) (H0 : Hp) (D : Addr) (es : List PyData) (H : Hp) : Prop where
  free : H0 D = none
  ext : Ext [] H0 H
  off : D ∉ M
  ls : ∃ ys, H D = some (.lst ys) ∧ IsAll (D :: M) H ys es
theorem Made.start (s : Al M H0) (hD : H0 D = none) : Made M H0 D [] (upd H0 D (.lst [])) := ⟨hD, .new hD, s.fresh hD, [], upd_same, .nil⟩
theorem Made.al {es : List PyData} (m : Made M H0 D es H) (s : Al M H0) : Al (D :: M) H := by
  obtain ⟨ys, h1, h2⟩ := m.ls
  exact .cons (some_ne h1) (s.ext m.ext)
theorem Made.is {es : List PyData} (m : Made M H0 D es H) : Is M H (.ref D) (.list es) := by
  obtain ⟨ys, h1, h2⟩ := m.ls
  exact .lst m.off h1 h2.on
theorem Made.step {es : List PyData} {d : PyData} {y : V} {H' : Hp} (m : Made M H0 D es H) (e : Ext [] H H') (h : Is (D :: M) H' y d) (hl : es.length < 100000) :
    ∃ acc, H' D = some (.lst acc) ∧ acc.length < sizeLine ∧ Made M H0 D (es ++ [d]) (upd H' D (.lst (acc ++ [y]))) := by
  obtain ⟨ys, h1, h2⟩ := m.ls
  refine ⟨ys, e.keep _ _ (fun q => nomatch q) h1, szl' (by rw [h2.length]; omega), m.free, (m.ext.trans e).mut m.free, m.off, _, upd_same, ?_⟩
  exact ((h2.mono e.any).append (.one h)).mono (.set (List.mem_cons_self ..))
theorem Made.ext' {es : List PyData} {H' : Hp} (m : Made M H0 D es H) (e : Ext [] H H') : Made M H0 D es H' := by
  obtain ⟨ys, h1, h2⟩ := m.ls
  exact ⟨m.free, m.ext.trans e, m.off, ys, e.keep _ _ (fun q => nomatch q) h1, h2.mono e.any⟩
theorem rd_yes {H : Hp} {Q : Bool → Hp → Prop} (q : Q true H) : tYes σ H Q := q
/-- [e for x in range(..)] -/
theorem lc_rng {lo : Int} {n : Nat} (f : Nat → PyData) (s : Al M H0) (hD : H0 D = none) (hn : n ≤ 100000) (hw : ∀ x, wipe ((wipe σ vs).set j (some x)) vs = wipe σ vs)
    (he : ∀ (i : Nat) H', i < n → Al (D :: M) H' → Ext [] H0 H' → ∀ R : VK, (∀ y H'', Ext [] H' H'' → Is (D :: M) H'' y (f i) → R y H'') → te ((wipe σ vs).set j (some (.int (lo + i)))) H' R)
    (hd : ∀ H', Ext [] H0 H' → Is M H' (.ref D) (.list ((List.range n).map f)) → Qd H') :
    ∃ W : Nat → Nat → Hp → Prop, (∃ m, W 0 m (upd H0 D (.lst []))) ∧ ∀ i m H, W i m H →
      ((Itr lo n).stop i H ∧ Qd H) ∨ ((Itr lo n).go i H ∧ ∃ Nx : Hp → Prop, (∀ H', Nx H' → ∃ m', m' < m ∧ W (i + 1) m' H') ∧ ∀ x H', (Itr lo n).yld i H x H' → gName j x (wipe σ vs) H' fun σ2 H2 => wipe σ2 vs = wipe σ vs ∧ tYes σ2 H2 fun b H3 =>
        if b = true then te σ2 H3 fun y H4 => ∃ acc, H4 D = some (.lst acc) ∧ acc.length < sizeLine ∧ Nx (upd H4 D (.lst (acc ++ [y]))) else Nx H3) := by
  refine lc_range (fun i H' => Made M H0 D ((List.range i).map f) H') (Made.start s hD) (fun i H' hi m => ?_) fun H' m => hd H' m.ext m.is
  refine ⟨hw _, rd_yes ?_⟩
  refine iteT ?_
  refine he i H' hi (m.al s) m.ext _ fun y H'' e r => ?_
  rw [List.range_succ, List.map_append]
  exact m.step e r (by rw [List.length_map, List.length_range]; omega)
/-- [e for x in a list] -/
theorem lc_map (f : PyData → PyData) (s : Al M H0) (hD : H0 D = none) (h : Is M H0 (.ref a) (.list ds)) (hn : ds.length ≤ 100000) (hw : ∀ x, wipe ((wipe σ vs).set j (some x)) vs = wipe σ vs)
    (he : ∀ (x : V) (d : PyData) H', d ∈ ds → Al (D :: M) H' → Ext [] H0 H' → Is (D :: M) H' x d → ∀ R : VK, (∀ y H'', Ext [] H' H'' → Is (D :: M) H'' y (f d) → R y H'') → te ((wipe σ vs).set j (some x)) H' R)
    (hd : ∀ H', Ext [] H0 H' → Is M H' (.ref D) (.list (ds.map f)) → Qd H') :
    ∃ W : Nat → Nat → Hp → Prop, (∃ m, W 0 m (upd H0 D (.lst []))) ∧ ∀ i m H, W i m H →
      ((Itl K a).stop i H ∧ Qd H) ∨ ((Itl K a).go i H ∧ ∃ Nx : Hp → Prop, (∀ H', Nx H' → ∃ m', m' < m ∧ W (i + 1) m' H') ∧ ∀ x H', (Itl K a).yld i H x H' → gName j x (wipe σ vs) H' fun σ2 H2 => wipe σ2 vs = wipe σ vs ∧ tYes σ2 H2 fun b H3 =>
        if b = true then te σ2 H3 fun y H4 => ∃ acc, H4 D = some (.lst acc) ∧ acc.length < sizeLine ∧ Nx (upd H4 D (.lst (acc ++ [y]))) else Nx H3) := by
  obtain ⟨xs, na, hx, r⟩ := h.list
  refine lc_list (xs := xs) (fun i H' => Made M H0 D ((ds.take i).map f) H') (Made.start s hD) (fun i H' _ m => SqL.of (m.ext.keep _ _ (fun q => nomatch q) hx)) (fun i x H' hi m => ?_) fun H' m => hd H' m.ext (by have z := m.is; rw [r.length, List.take_length] at z; exact z)
  obtain ⟨d, hd', iv⟩ := r.got hi
  have hlt : i < ds.length := (List.getElem?_eq_some_iff.mp hd').1
  refine ⟨hw _, rd_yes ?_⟩
  refine iteT ?_
  refine he x d H' (List.mem_of_getElem? hd') (m.al s) m.ext ((iv.off hD).mono m.ext.any) _ fun y H'' e r => ?_
  have et : ds.take (i + 1) = ds.take i ++ [d] := by rw [List.take_add_one, hd']; rfl
  rw [et, List.map_append]
  exact m.step e r (by rw [List.length_map, List.length_take]; omega)
/-- [e for x in a list if test] -/
theorem lc_filter (f : PyData → PyData) (p : PyData → Bool) (s : Al M H0) (hD : H0 D = none) (h : Is M H0 (.ref a) (.list ds)) (hn : ds.length ≤ 100000) (hw : ∀ x, wipe ((wipe σ vs).set j (some x)) vs = wipe σ vs)
    (ht : ∀ (x : V) (d : PyData) H', d ∈ ds → Al (D :: M) H' → Ext [] H0 H' → Is (D :: M) H' x d → ∀ R : Bool → Hp → Prop, (∀ H'', Ext [] H' H'' → R (p d) H'') → tt ((wipe σ vs).set j (some x)) H' R)
    (he : ∀ (x : V) (d : PyData) H', d ∈ ds → p d = true → Al (D :: M) H' → Ext [] H0 H' → Is (D :: M) H' x d → ∀ R : VK, (∀ y H'', Ext [] H' H'' → Is (D :: M) H'' y (f d) → R y H'') → te ((wipe σ vs).set j (some x)) H' R)
    (hd : ∀ H', Ext [] H0 H' → Is M H' (.ref D) (.list ((ds.filter p).map f)) → Qd H') :
    ∃ W : Nat → Nat → Hp → Prop, (∃ m, W 0 m (upd H0 D (.lst []))) ∧ ∀ i m H, W i m H →
      ((Itl K a).stop i H ∧ Qd H) ∨ ((Itl K a).go i H ∧ ∃ Nx : Hp → Prop, (∀ H', Nx H' → ∃ m', m' < m ∧ W (i + 1) m' H') ∧ ∀ x H', (Itl K a).yld i H x H' → gName j x (wipe σ vs) H' fun σ2 H2 => wipe σ2 vs = wipe σ vs ∧ tt σ2 H2 fun b H3 =>
        if b = true then te σ2 H3 fun y H4 => ∃ acc, H4 D = some (.lst acc) ∧ acc.length < sizeLine ∧ Nx (upd H4 D (.lst (acc ++ [y]))) else Nx H3) := by
  obtain ⟨xs, na, hx, r⟩ := h.list
  refine lc_list (xs := xs) (fun i H' => Made M H0 D (((ds.take i).filter p).map f) H') (Made.start s hD) (fun i H' _ m => SqL.of (m.ext.keep _ _ (fun q => nomatch q) hx)) (fun i x H' hi m => ?_) fun H' m => hd H' m.ext (by have z := m.is; rw [r.length, List.take_length] at z; exact z)
  obtain ⟨d, hd', iv⟩ := r.got hi
  have hlt : i < ds.length := (List.getElem?_eq_some_iff.mp hd').1
  have et : ds.take (i + 1) = ds.take i ++ [d] := by rw [List.take_add_one, hd']; rfl
  refine ⟨hw _, ?_⟩
  refine ht x d H' (List.mem_of_getElem? hd') (m.al s) m.ext ((iv.off hD).mono m.ext.any) _ fun H2 e2 => ?_
  rw [et, List.filter_append, List.map_append]
  cases hp : p d with
  | true =>
    refine iteT (he x d H2 (List.mem_of_getElem? hd') hp ((m.al s).ext e2) (m.ext.trans e2) ((iv.off hD).mono (m.ext.trans e2).any) _ fun y H'' e r => ?_)
    rw [List.filter_cons, if_pos hp]
    refine m.step (e2.trans e) r ?_
    rw [List.length_map]
    have z := List.length_filter_le p (ds.take i)
    rw [List.length_take] at z
    omega
  | false =>
    refine iteF ?_
    rw [List.filter_cons, if_neg (by rw [hp]; exact Bool.false_ne_true)]
    show Made M H0 D (_ ++ []) H2
    rw [List.append_nil]
    exact m.ext' e2
end
section
variable {K : PySem.W.Frag} {σ : L2.St} {H : Hp} {Q : VK} {te : TE} {l : Addr} {xs : List V}
/-- l.append(e) -/
theorem rd_app (h : H l = some (.lst xs)) (q : te σ H fun y H2 => ∃ ys, H2 l = some (.lst ys) ∧ ys.length < sizeLine ∧ Q .non (upd H2 l (.lst (ys ++ [y])))) :
    tyV K "list" (.ref l) H ∧ tCons te tNil σ H fun vs H2 => rAppend (.ref l) vs H2 Q := by
  refine ⟨.inl ⟨rfl, _, SqL.of h⟩, ?_⟩
  refine rd_cons ?_
  have : (fun y H2 => ∃ ys, H2 l = some (.lst ys) ∧ ys.length < sizeLine ∧ Q .non (upd H2 l (.lst (ys ++ [y])))) = fun y H2 => tNil σ H2 fun vs H3 => rAppend (.ref l) (y :: vs) H3 Q := by
    funext y H2
    refine propext ⟨?_, ?_⟩
    · rintro ⟨ys, a, b, c⟩
      exact ⟨l, ys, y, rfl, rfl, a, b, c⟩
    · rintro ⟨l', ys, y', e1, e2, a, b, c⟩
      cases e1; cases e2
      exact ⟨ys, a, b, c⟩
  rw [← this]
  exact q
end
/-! shapes -/
theorem clAll_mem : ∀ {ds : List PyData}, (∀ d ∈ ds, PyData.canLay0 d = true) → PyData.canLayAll0 ds = true
  | [], _ => by simp [PyData.canLayAll0]
  | d :: ds, h => by
    simp only [PyData.canLayAll0, Bool.and_eq_true]
    exact ⟨h d (List.mem_cons_self ..), clAll_mem fun e he => h e (List.mem_cons_of_mem _ he)⟩
theorem depthAll_mem {n : Nat} : ∀ {ds : List PyData}, (∀ d ∈ ds, PyData.depth d ≤ n) → PyData.depthAll ds ≤ n
  | [], _ => by simp [PyData.depthAll]
  | d :: ds, h => by
    simp only [PyData.depthAll]
    exact Nat.max_le.mpr ⟨h d (List.mem_cons_self ..), depthAll_mem fun e he => h e (List.mem_cons_of_mem _ he)⟩
/-- shaped, at most n deep -/
def Sh (n : Nat) (d : PyData) : Prop := PyData.canLay0 d = true ∧ PyData.depth d ≤ n
theorem Sh.ok {n : Nat} {d : PyData} (h : Sh n d) (hn : n ≤ 64 := by decide) : SeqAt.shaped d = true := by
  unfold SeqAt.shaped
  rw [h.1, Bool.true_and]
  exact decide_eq_true (Nat.le_trans h.2 hn)
theorem Sh.int {n : Nat} (i : Int) : Sh n (.int i) := ⟨by simp [PyData.canLay0], by simp [PyData.depth]⟩
theorem Sh.non {n : Nat} : Sh n .none := ⟨by simp [PyData.canLay0], by simp [PyData.depth]⟩
theorem Sh.bl {n : Nat} (b : Bool) : Sh n (.bool b) := ⟨by simp [PyData.canLay0], by simp [PyData.depth]⟩
theorem Sh.list {n : Nat} {ds : List PyData} (h : ∀ d ∈ ds, Sh n d) : Sh (n + 1) (.list ds) :=
  ⟨by simp only [PyData.canLay0]; exact clAll_mem fun d hd => (h d hd).1, by simp only [PyData.depth]; exact Nat.succ_le_succ (depthAll_mem fun d hd => (h d hd).2)⟩
theorem Sh.tuple {n : Nat} {ds : List PyData} (h : ∀ d ∈ ds, Sh n d) : Sh (n + 1) (.tuple ds) :=
  ⟨by simp only [PyData.canLay0]; exact clAll_mem fun d hd => (h d hd).1, by simp only [PyData.depth]; exact Nat.succ_le_succ (depthAll_mem fun d hd => (h d hd).2)⟩
theorem Sh.refl {n : Nat} {d : PyData} (h : Sh n d) : PyData.eqv d d = true := SeqAt.eqv_refl d h.1
/-- lists of numbers -/
abbrev nats (ns : List Nat) : PyData := .list (ns.map fun n : Nat => .int n)
theorem sh_nats {n : Nat} (ns : List Nat) : Sh (n + 1) (nats ns) := Sh.list fun d hd => by
  obtain ⟨k, _, rfl⟩ := List.mem_map.mp hd
  exact .int _
theorem eqvAll_ints : ∀ xs ys : List Nat, PyData.eqvAll (xs.map fun n : Nat => .int n) (ys.map fun n : Nat => .int n) = decide (xs = ys)
  | [], [] => by simp [PyData.eqvAll]
  | [], _ :: _ => by simp [PyData.eqvAll]
  | _ :: _, [] => by simp [PyData.eqvAll]
  | x :: xs, y :: ys => by
    have ih := eqvAll_ints xs ys
    simp only [List.map_cons, PyData.eqvAll, PyData.eqv, ih]
    by_cases h : x = y
    · subst h; simp
    · have : ¬ (x : Int) = (y : Int) := by omega
      simp [h, this]
theorem eqv_nats (xs ys : List Nat) : PyData.eqv (nats xs) (nats ys) = decide (xs = ys) := by
  simp only [PyData.eqv]
  exact eqvAll_ints xs ys
theorem nats_V {M : List Addr} {H : Hp} (ns : List Nat) : IsAll M H (ns.map fun n : Nat => V.int n) (ns.map fun n : Nat => PyData.int n) := by
  induction ns with
  | nil => exact .nil
  | cons n ns ih => exact .cons (.int _) ih
/-! ### loops, comprehensions, slices: the rest of their readings under names -/
def qFor (J : It) (g : TG) (tb : TS) (D : Ends) (σ : L2.St) (H1 : Hp) : Prop := ∃ W : Nat → Nat → L2.St → Hp → Prop, (∃ m, W 0 m σ H1) ∧ ∀ i m σ H, W i m σ H → (J.stop i H ∧ D.nx σ H) ∨
  (J.go i H ∧ ∃ N : L2.St → Hp → Prop, (∀ σ' H', N σ' H' → ∃ m', m' < m ∧ W (i + 1) m' σ' H') ∧ ∀ x H', J.yld i H x H' → g x σ H' fun σ2 H2 => tb { D with nx := N, ct := N, bk := D.nx } σ2 H2)
def qLc (J : It) (g : TG) (tt : TT) (te : TE) (vs : List Nat) (σ : L2.St) (D : Addr) (H1 : Hp) (Q : VK) : Prop := ∃ W : Nat → Nat → Hp → Prop, (∃ m, W 0 m (upd H1 D (.lst []))) ∧ ∀ i m H, W i m H → (J.stop i H ∧ Q (.ref D) H) ∨
  (J.go i H ∧ ∃ Nx : Hp → Prop, (∀ H', Nx H' → ∃ m', m' < m ∧ W (i + 1) m' H') ∧ ∀ x H', J.yld i H x H' → g x (wipe σ vs) H' fun σ2 H2 => wipe σ2 vs = wipe σ vs ∧ tt σ2 H2 fun b H3 => if b = true then te σ2 H3 fun y H4 => ∃ acc, H4 D = some (.lst acc) ∧ acc.length < sizeLine ∧ Nx (upd H4 D (.lst (acc ++ [y]))) else Nx H3)
section
variable {K : PySem.W.Frag} {σ : L2.St} {H : Hp} {Q : VK} {wi : TI} {g : TG} {tb : TS} {D : Ends} {tt : TT} {te : TE} {vs : List Nat} {ta : TA} {R : It → Hp → Prop} {r : V → Option Int → Option Int → Hp → VK → Prop} {tl th : TO}
theorem rd_for (q : wi σ H fun J H1 => qFor J g tb D σ H1) : tFor wi g tb D σ H := q
theorem rd_lc (q : wi σ H fun J H1 => ∀ D, H1 D = none → qLc J g tt te vs σ D H1 Q) : tLc wi g tt te vs σ H Q := q
theorem rd_rng1 (q : ta σ H fun vs H1 => ∃ j : Int, vs = [.int j] ∧ -(2 ^ 62) ≤ j ∧ j < 2 ^ 62 ∧ R (Itr 0 j.toNat) H1) : iRng1 ta σ H R := q
theorem rd_rng2 (q : ta σ H fun vs H1 => ∃ i j : Int, vs = [.int i, .int j] ∧ (-(2 ^ 62) ≤ i ∧ i < 2 ^ 62 ∧ -(2 ^ 62) ≤ j ∧ j < 2 ^ 62) ∧ R (Itr i (j - i).toNat) H1) : iRng2 ta σ H R := q
theorem rd_rng {j : Int} {P : Int → Prop} (h0 : -(2 ^ 62) ≤ j) (h1 : j < 2 ^ 62) (q : P j) : ∃ i : Int, [V.int j] = [.int i] ∧ -(2 ^ 62) ≤ i ∧ i < 2 ^ 62 ∧ P i := ⟨j, rfl, h0, h1, q⟩
theorem rd_rngB {i j : Int} (h : -(2 ^ 62) ≤ i ∧ i < 2 ^ 62 ∧ -(2 ^ 62) ≤ j ∧ j < 2 ^ 62) {P : Int → Int → Prop} (q : P i j) : ∃ i' j' : Int, [V.int i, V.int j] = [.int i', .int j'] ∧ (-(2 ^ 62) ≤ i' ∧ i' < 2 ^ 62 ∧ -(2 ^ 62) ≤ j' ∧ j' < 2 ^ 62) ∧ P i' j' := ⟨i, j, rfl, h, q⟩
theorem rd_il (q : te σ H fun x H1 => ∃ a, x = .ref a ∧ (∃ xs, SqL K H1 a xs) ∧ R (Itl K a) H1) : iList K te σ H R := q
theorem rd_it (q : te σ H fun x H1 => ∃ a, x = .ref a ∧ (∃ xs, SqT K H1 a xs) ∧ R (Itt K a) H1) : iTup K te σ H R := q
theorem rd_itl {a : Addr} {P : Addr → Prop} (h : ∃ xs, SqL K H a xs) (q : P a) : ∃ a', V.ref a = .ref a' ∧ (∃ xs, SqL K H a' xs) ∧ P a' := ⟨a, rfl, h, q⟩
theorem rd_itt {a : Addr} {P : Addr → Prop} (h : ∃ xs, SqT K H a xs) (q : P a) : ∃ a', V.ref a = .ref a' ∧ (∃ xs, SqT K H a' xs) ∧ P a' := ⟨a, rfl, h, q⟩
theorem Is.sql {M : List Addr} {a : Addr} {ds : List PyData} (i : Is M H (.ref a) (.list ds)) : ∃ xs, SqL K H a xs := by
  obtain ⟨xs, _, h, _⟩ := i.list
  exact ⟨xs, SqL.of h⟩
theorem Is.sqt {M : List Addr} {a : Addr} {ds : List PyData} (i : Is M H (.ref a) (.tuple ds)) : ∃ xs, SqT K H a xs := by
  obtain ⟨xs, _, h, _⟩ := i.tuple
  exact ⟨xs, SqT.of h⟩
theorem sql_of {a : Addr} {xs : List V} (h : H a = some (.lst xs)) : ∃ xs, SqL K H a xs := ⟨xs, SqL.of h⟩
theorem rd_sl (q : te σ H fun x H1 => tl σ H1 fun l H2 => th σ H2 fun u H3 => r x l u H3 Q) : tSl r te tl th σ H Q := q
theorem rd_part {QO : Option Int → Hp → Prop} (q : te σ H fun x H1 => ∃ i, x = .int i ∧ QO (some i) H1) : tPart te σ H QO := q
theorem rd_pi {i : Int} {P : Int → Prop} (q : P i) : ∃ i', V.int i = .int i' ∧ P i' := ⟨i, rfl, q⟩
theorem rd_pn {QO : Option Int → Hp → Prop} (q : QO none H) : tNoPart σ H QO := q
theorem rd_slL {M : List Addr} {a : Addr} {lo hi : Option Int} {ds : List PyData} (h : Is M H (.ref a) (.list ds)) (q : ∀ xs, H a = some (.lst xs) → IsAll M H xs ds → ∀ p, H p = none → Q (.ref p) (upd H p (.lst (cutV xs lo hi)))) : rSlL K (.ref a) lo hi H Q := by
  obtain ⟨xs, _, hx, r⟩ := h.list
  exact ⟨a, xs, rfl, SqL.of hx, q xs hx r⟩
/-- a range, by its turns -/
theorem q_range {lo : Int} {n : Nat} (Pv : Nat → L2.St → Hp → Prop) (h0 : Pv 0 σ H) (hs : ∀ i σ H, i < n → Pv i σ H → g (.int (lo + i)) σ H fun σ2 H2 => tb { D with nx := Pv (i + 1), ct := Pv (i + 1), bk := D.nx } σ2 H2)
    (hd : ∀ σ H, Pv n σ H → D.nx σ H) : qFor (Itr lo n) g tb D σ H := for_range Pv h0 hs hd
theorem q_data {M : List Addr} {H0 : Hp} {a : Addr} {ds : List PyData} (h : Is M H0 (.ref a) (.list ds)) (Pv : Nat → L2.St → Hp → Prop) (h0 : Pv 0 σ H) (hE : ∀ i σ H, Pv i σ H → Ext M H0 H)
    (hs : ∀ i d x σ H, ds[i]? = some d → Is M H x d → Pv i σ H → g x σ H fun σ2 H2 => tb { D with nx := Pv (i + 1), ct := Pv (i + 1), bk := D.nx } σ2 H2) (hd : ∀ σ H, Pv ds.length σ H → D.nx σ H) : qFor (Itl K a) g tb D σ H := for_data h Pv h0 hE hs hd
theorem q_dataT {M : List Addr} {H0 : Hp} {a : Addr} {ds : List PyData} (h : Is M H0 (.ref a) (.tuple ds)) (Pv : Nat → L2.St → Hp → Prop) (h0 : Pv 0 σ H) (hE : ∀ i σ H, Pv i σ H → Ext M H0 H)
    (hs : ∀ i d x σ H, ds[i]? = some d → Is M H x d → Pv i σ H → g x σ H fun σ2 H2 => tb { D with nx := Pv (i + 1), ct := Pv (i + 1), bk := D.nx } σ2 H2) (hd : ∀ σ H, Pv ds.length σ H → D.nx σ H) : qFor (Itt K a) g tb D σ H := for_dataT h Pv h0 hE hs hd
end
section
variable {K : PySem.W.Frag} {σ : L2.St} {H : Hp} {Q : VK} {te : TE} {a : Addr} {xs : List V}
theorem rd_rev (q : te σ H fun x H1 => ∃ a xs, x = .ref a ∧ SqL K H1 a xs ∧ ∀ p, H1 p = none → Q (.ref p) (upd H1 p (.lst xs.reverse))) : tRevL K te σ H Q := q
theorem rd_revd (h : SqL K H a xs) (q : ∀ p, H p = none → Q (.ref p) (upd H p (.lst xs.reverse))) : ∃ a' xs', V.ref a = .ref a' ∧ SqL K H a' xs' ∧ ∀ p, H p = none → Q (.ref p) (upd H p (.lst xs'.reverse)) := ⟨a, xs, rfl, h, q⟩
theorem rd_listT {p : Addr} (h : SqT K H p xs) (q : ∀ l, H l = none → Q (.ref l) (upd H l (.lst xs))) : qListOf K [.ref p] H Q := ⟨p, xs, rfl, .inr h, q⟩
theorem rd_cat {l b : Addr} {xs zs : List V} (h : H l = some (.lst xs)) (k : H b = some (.lst zs)) (hz : xs.length + zs.length ≤ sizeLine) (q : ∀ p, H p = none → Q (.ref p) (upd H p (.lst (xs ++ zs)))) : rCat (.ref l) (.ref b) H Q := ⟨l, b, xs, zs, rfl, rfl, h, k, hz, q⟩
theorem rd_dcat {M : List Addr} {l b : Addr} {ds es : List PyData} (s : Al M H) (h : Is M H (.ref l) (.list ds)) (k : Is M H (.ref b) (.list es)) (hz : ds.length + es.length ≤ 100000)
    (q : ∀ p H', H p = none → Ext [] H H' → (∃ xs, H' p = some (.lst xs) ∧ IsAll (p :: M) H' xs (ds ++ es)) → Is M H' (.ref p) (.list (ds ++ es)) → Q (.ref p) H') : rCat (.ref l) (.ref b) H Q := by
  obtain ⟨xs, _, hx, r⟩ := h.list
  obtain ⟨zs, _, hz', r'⟩ := k.list
  refine rd_cat hx hz' (szL (by rw [r.length, r'.length]; exact hz)) fun p hp => ?_
  exact q p _ hp (.new hp) ⟨_, upd_same, (r.append r').beside hp⟩ (new_lst s (r.append r') hp)
theorem rd_dlist {M : List Addr} {l : Addr} {ds : List PyData} (s : Al M H) (h : Is M H (.ref l) (.list ds))
    (q : ∀ p H', H p = none → Ext [] H H' → (∃ xs, H' p = some (.lst xs) ∧ IsAll (p :: M) H' xs ds) → Is M H' (.ref p) (.list ds) → Q (.ref p) H') : qListOf K [.ref l] H Q := by
  obtain ⟨xs, _, hx, r⟩ := h.list
  refine rd_listL (SqL.of hx) fun p hp => ?_
  exact q p _ hp (.new hp) ⟨_, upd_same, r.beside hp⟩ (new_lst s r hp)
end
/-! ### rules with the written part by its name (so that they stand within comprehensions too) -/
section
variable {X : Cx} (K : PySem.W.Frag) (hK : X.K = K := by rfl)
include hK
theorem sl_listK : SlR X (rSlL K) := hK ▸ sl_list
theorem sl_tupK : SlR X (rSlT K) := hK ▸ sl_tup
theorem ix_listK : IxR X (rIxL K) := hK ▸ ix_list
theorem ix_tupK : IxR X (rIxT K) := hK ▸ ix_tup
theorem ix_seqK : IxR X (rIx K) := hK ▸ ix_seq
theorem get_listK : PGet X (rIxL K) := hK ▸ get_list
theorem call_lenK : CallR X (.builtin "len") (qLen K) := hK ▸ call_lenq
theorem call_listK : CallR X (.type "list") (qListOf K) := hK ▸ call_listq
theorem call_isK : CallR X (.builtin "isinstance") (rIsi K) := hK ▸ call_isi
theorem op_in_seqK : OpR X (compareOp .In) (rIn K false) := hK ▸ op_in_seq
theorem op_notIn_seqK : OpR X (compareOp .NotIn) (rIn K true) := hK ▸ op_notIn_seq
theorem op_catTK : OpR X (binaryOp .Add) (rCatT K) := hK ▸ op_catT
omit hK
theorem op_eqDK (hu : X.A.units + 64 < cLine) (hK : X.K = K := by rfl) : OpR X (compareOp .Eq) (rEqD K) := hK ▸ op_eqD hu
theorem op_neDK (hu : X.A.units + 64 < cLine) (hK : X.K = K := by rfl) : OpR X (compareOp .NotEq) (rNeD K) := hK ▸ op_neD hu
end
section
variable {X : Cx} {e o : Expr} {ta to te : TE} {t : TA} {tg : Expr} {pos : Pos} {f : Str}
theorem pe_fldK (K : PySem.W.Frag) (he : PE X e ta) (hb : attributeBase e f X.env (eval e X.env) = eval e X.env) (hK : X.K = K := by rfl) : PE X (.Attribute e f pos) (tFld K ta f) := hK ▸ pe_fld he hb
def qTru (K : PySem.W.Frag) (ta : TE) : TT := fun σ H Q => ta σ H fun x H' => ∃ k, TruV K x H' k ∧ Q k H'
theorem pt_truthK (K : PySem.W.Frag) (ha : PE X e ta) (he : ∀ whole, isTrue e X.env whole = (do let v ← whole; standAt e.pos; holding [v] (truthy v))) (hK : X.K = K := by rfl) : PT X e (qTru K ta) := by
  subst hK
  exact pt_truth ha he
theorem pi_listK (K : PySem.W.Frag) (hl : PE X e te) (hK : X.K = K := by rfl) : PI X tg e (iList K te) := hK ▸ pi_list hl
theorem pi_tupK (K : PySem.W.Frag) (hl : PE X e te) (hK : X.K = K := by rfl) : PI X tg e (iTup K te) := hK ▸ pi_tup hl
theorem pg_tupK (K : PySem.W.Frag) {es : List Expr} {k : Nat} {t : TGs} {n : Nat} (hc : X.calm = true) (h : PGs X es t) (hn : (assignEach es X.env).length = n := by rfl) (hst : (assignEach es X.env).findIdx? (·.1) = none := by rfl) (hK : X.K = K := by rfl) : PG X (.Tuple es k pos) (gTup K n t) := hK ▸ pg_tup hc h hn hst
theorem pe_revLK (K : PySem.W.Frag) {k : Nat} {p1 p2 p3 : Pos} (he : PE X e te) (hK : X.K = K := by rfl) : PE X (.Subscript e (.Slice none none (some (.UnaryOp .USub (.Constant (.int 1) k p1) p2)) p3) pos) (tRevL K te) := hK ▸ pe_revL he
theorem rd_tru {K : PySem.W.Frag} {σ : L2.St} {H : Hp} {Q : Bool → Hp → Prop} (q : ta σ H fun x H' => ∃ k, TruV K x H' k ∧ Q k H') : qTru K ta σ H Q := q
end
section
variable {M : List Addr} {H0 H H1 : Hp} {a D : Addr} {ds : List PyData} {K : PySem.W.Frag} {j : Nat} {vs : List Nat} {te : TE} {tt : TT} {σ : L2.St} {Q : VK} {ta : TA} {R : It → Hp → Prop}
theorem rd_u {g : Int → V} {i : Int} (q : Q (g i) H) : rU g (.int i) H Q := ⟨i, rfl, q⟩
theorem rd_rng3 (q : ta σ H fun vs H1 => ∃ (i j c : Int) (n : Nat), vs = [.int i, .int j, .int c] ∧ RgC i j c n ∧ R (Itc i c n) H1) : iRng3 ta σ H R := q
theorem rgC_up {i j c : Int} (hc : 0 < c) (hc' : c < 1073741824) (ha : 0 ≤ i) (ha' : i < 2 ^ 62) (hb : 0 ≤ j) (hb' : j < 2 ^ 62) : RgC i j c (if i < j then (j - i - 1) / c + 1 else 0).toNat := by
  refine ⟨by omega, by omega, ?_, ?_⟩
  · have h1 : 0 ≤ (j - i - 1) / c ∨ ¬ i < j := by
      by_cases h : i < j
      · exact .inl (Int.ediv_nonneg (by omega) (by omega))
      · exact .inr h
    have h2 : i < j → (j - i - 1) / c ≤ j - i - 1 := fun h => Int.ediv_le_self _ (by omega)
    unfold Builtin.Range.small Builtin.Range.rangeSize
    simp only [Builtin.Range.rangeFitsLong, Bool.and_eq_true, Bool.or_eq_true, decide_eq_true_eq, beq_iff_eq, hc, gt_iff_lt, if_true]
    by_cases h : i < j
    · have := h2 h
      have := h1.resolve_right (fun q => q h)
      simp only [h, if_true]
      omega
    · simp only [h, if_false]
      omega
  · unfold Builtin.Range.rangeSize
    simp only [hc, gt_iff_lt, if_true]
    by_cases h : i < j
    · simp only [h, if_true]
      have := Int.ediv_nonneg (a := j - i - 1) (b := c) (by omega) (by omega)
      omega
    · simp only [h, if_false]
      rfl
/-- [e for x in range(i, j, c)] -/
theorem q_lcC {lo c : Int} {n : Nat} (f : Nat → PyData) (s : Al M H0) (hD : H0 D = none) (hn : n ≤ 100000) (hw : ∀ x, wipe ((wipe σ vs).set j (some x)) vs = wipe σ vs)
    (he : ∀ (i : Nat) H', i < n → Al (D :: M) H' → Ext [] H0 H' → ∀ R : VK, (∀ y H'', Ext [] H' H'' → Is (D :: M) H'' y (f i) → R y H'') → te ((wipe σ vs).set j (some (.int (lo + (i : Nat) * c)))) H' R)
    (hd : ∀ H', Ext [] H0 H' → Is M H' (.ref D) (.list ((List.range n).map f)) → Q (.ref D) H') : qLc (Itc lo c n) (gName j) tYes te vs σ D H0 Q := by
  refine ⟨fun i m H => m = n - i ∧ i ≤ n ∧ Made M H0 D ((List.range i).map f) H, ⟨n, by simp, Nat.zero_le _, Made.start s hD⟩, ?_⟩
  rintro i m H ⟨rfl, hi, p⟩
  by_cases hlt : i < n
  · refine .inr ⟨hlt, fun H' => Made M H0 D ((List.range (i + 1)).map f) H', fun H' p' => ⟨n - (i + 1), by omega, rfl, hlt, p'⟩, fun x H' y => ?_⟩
    obtain ⟨e, y⟩ := y
    subst e y
    refine ⟨hw _, rd_yes ?_⟩
    refine iteT ?_
    refine he i _ hlt (p.al s) p.ext _ fun y H'' e r => ?_
    rw [List.range_succ, List.map_append]
    exact p.step e r (by rw [List.length_map, List.length_range]; omega)
  · have e : i = n := by omega
    subst e
    exact .inl ⟨Nat.le_refl _, hd H p.ext p.is⟩
theorem q_lcR {lo : Int} {n : Nat} (f : Nat → PyData) (s : Al M H0) (hD : H0 D = none) (hn : n ≤ 100000) (hw : ∀ x, wipe ((wipe σ vs).set j (some x)) vs = wipe σ vs)
    (he : ∀ (i : Nat) H', i < n → Al (D :: M) H' → Ext [] H0 H' → ∀ R : VK, (∀ y H'', Ext [] H' H'' → Is (D :: M) H'' y (f i) → R y H'') → te ((wipe σ vs).set j (some (.int (lo + i)))) H' R)
    (hd : ∀ H', Ext [] H0 H' → Is M H' (.ref D) (.list ((List.range n).map f)) → Q (.ref D) H') : qLc (Itr lo n) (gName j) tYes te vs σ D H0 Q := lc_rng f s hD hn hw he hd
theorem q_lcL (f : PyData → PyData) (s : Al M H0) (hD : H0 D = none) (h : Is M H0 (.ref a) (.list ds)) (hn : ds.length ≤ 100000) (hw : ∀ x, wipe ((wipe σ vs).set j (some x)) vs = wipe σ vs)
    (he : ∀ (x : V) (d : PyData) H', d ∈ ds → Al (D :: M) H' → Ext [] H0 H' → Is (D :: M) H' x d → ∀ R : VK, (∀ y H'', Ext [] H' H'' → Is (D :: M) H'' y (f d) → R y H'') → te ((wipe σ vs).set j (some x)) H' R)
    (hd : ∀ H', Ext [] H0 H' → Is M H' (.ref D) (.list (ds.map f)) → Q (.ref D) H') : qLc (Itl K a) (gName j) tYes te vs σ D H0 Q := lc_map f s hD h hn hw he hd
theorem q_lcF (f : PyData → PyData) (p : PyData → Bool) (s : Al M H0) (hD : H0 D = none) (h : Is M H0 (.ref a) (.list ds)) (hn : ds.length ≤ 100000) (hw : ∀ x, wipe ((wipe σ vs).set j (some x)) vs = wipe σ vs)
    (ht : ∀ (x : V) (d : PyData) H', d ∈ ds → Al (D :: M) H' → Ext [] H0 H' → Is (D :: M) H' x d → ∀ R : Bool → Hp → Prop, (∀ H'', Ext [] H' H'' → R (p d) H'') → tt ((wipe σ vs).set j (some x)) H' R)
    (he : ∀ (x : V) (d : PyData) H', d ∈ ds → p d = true → Al (D :: M) H' → Ext [] H0 H' → Is (D :: M) H' x d → ∀ R : VK, (∀ y H'', Ext [] H' H'' → Is (D :: M) H'' y (f d) → R y H'') → te ((wipe σ vs).set j (some x)) H' R)
    (hd : ∀ H', Ext [] H0 H' → Is M H' (.ref D) (.list ((ds.filter p).map f)) → Q (.ref D) H') : qLc (Itl K a) (gName j) tt te vs σ D H0 Q := lc_filter f p s hD h hn hw ht he hd
end
section
variable {M : List Addr} {H : Hp} {xs : List V} {ds : List PyData} {a : Addr} {K : PySem.W.Frag} {Q : VK}
theorem IsAll.cutI {lo hi : Int} {l h : Nat} (r : IsAll M H xs ds) (hl : lo = (l : Int)) (hh : hi = (h : Int)) : IsAll M H (cutV xs (some lo) (some hi)) ((ds.take h).drop l) := by
  subst hl hh
  exact r.cut
theorem IsAll.cutI0 {hi : Int} {h : Nat} (r : IsAll M H xs ds) (hh : hi = (h : Int)) : IsAll M H (cutV xs none (some hi)) (ds.take h) := by
  subst hh
  exact r.cut0
theorem IsAll.cutIN {lo : Int} {l : Nat} (r : IsAll M H xs ds) (hl : lo = (l : Int)) : IsAll M H (cutV xs (some lo) none) (ds.drop l) := by
  subst hl
  exact r.cutN
/-- slices of data -/
theorem rd_cut {lo hi : Int} {l h : Nat} (s : Al M H) (i : Is M H (.ref a) (.list ds)) (hl : lo = (l : Int)) (hh : hi = (h : Int)) (q : ∀ p H', H p = none → Ext [] H H' → (∃ xs, H' p = some (.lst xs) ∧ IsAll (p :: M) H' xs ((ds.take h).drop l)) → Is M H' (.ref p) (.list ((ds.take h).drop l)) → Q (.ref p) H') :
    rSlL K (.ref a) (some lo) (some hi) H Q := rd_slL i fun _ _ r p hp => q p _ hp (.new hp) ⟨_, upd_same, (r.cutI hl hh).beside hp⟩ (new_lst s (r.cutI hl hh) hp)
theorem rd_cut0 {hi : Int} {h : Nat} (s : Al M H) (i : Is M H (.ref a) (.list ds)) (hh : hi = (h : Int)) (q : ∀ p H', H p = none → Ext [] H H' → (∃ xs, H' p = some (.lst xs) ∧ IsAll (p :: M) H' xs (ds.take h)) → Is M H' (.ref p) (.list (ds.take h)) → Q (.ref p) H') :
    rSlL K (.ref a) none (some hi) H Q := rd_slL i fun _ _ r p hp => q p _ hp (.new hp) ⟨_, upd_same, (r.cutI0 hh).beside hp⟩ (new_lst s (r.cutI0 hh) hp)
theorem rd_cutN {lo : Int} {l : Nat} (s : Al M H) (i : Is M H (.ref a) (.list ds)) (hl : lo = (l : Int)) (q : ∀ p H', H p = none → Ext [] H H' → (∃ xs, H' p = some (.lst xs) ∧ IsAll (p :: M) H' xs (ds.drop l)) → Is M H' (.ref p) (.list (ds.drop l)) → Q (.ref p) H') :
    rSlL K (.ref a) (some lo) none H Q := rd_slL i fun _ _ r p hp => q p _ hp (.new hp) ⟨_, upd_same, (r.cutIN hl).beside hp⟩ (new_lst s (r.cutIN hl) hp)
/-- l.extend(b) -/
theorem rd_ext {l b : Addr} {xs zs : List V} (h : H l = some (.lst xs)) (k : H b = some (.lst zs)) (hz : xs.length + zs.length ≤ 100000) (q : Q .non (upd H l (.lst (xs ++ zs)))) : rExtend (.ref l) [.ref b] H Q := ⟨l, b, xs, zs, rfl, rfl, h, k, szL hz, q⟩
theorem map_cut (ns : List Nat) (l h : Nat) : ((ns.map fun n : Nat => PyData.int n).take h).drop l = ((ns.take h).drop l).map fun n : Nat => PyData.int n := by rw [List.map_drop, List.map_take]
end
/-! ### facts found by themselves: steps from heap to heap -/
section
variable {M M' : List Addr} {A B C H H' : Hp} {p : Addr} {o : HO} {v : V} {d : PyData}
theorem at_is (e : Ext M H H') (i : Is M H v d) : Is M H' v d := i.mono e
theorem at_is0 (e : Ext [] H H') (i : Is M H v d) : Is M H' v d := i.mono e.any
theorem at_is1 {N : List Addr} {D : Addr} (e : Ext N H H') (i : Is (D :: N) H v d) : Is (D :: N) H' v d := i.mono (e.more fun b hb => List.mem_cons_of_mem _ hb)
theorem at_isN (h : H p = none) (i : Is M H v d) : Is M (upd H p o) v d := i.mono (.new h)
theorem at_al (e : Ext M' H H') (s : Al M H) : Al M H' := s.ext e
theorem at_alN (s : Al M H) : Al M (upd H p o) := fun b hb => there_upd b (s b hb)
theorem at_ext (e : Ext M B C) (f : Ext M A B) : Ext M A C := f.trans e
theorem at_ext0 (e : Ext [] B C) (f : Ext M A B) : Ext M A C := f.trans e.any
theorem at_extN (h : B p = none) (f : Ext M A B) : Ext M A (upd B p o) := f.trans (.new h)
end
/-- lists of lists of numbers -/
abbrev natss (S : List (List Nat)) : PyData := .list (S.map nats)
/-- what is new in the heap H -/
def New (H H' : Hp) (v : V) (d : PyData) : Prop := ∀ M, Al M H → Is M H' v d
theorem New.of {M : List Addr} {A B H H' : Hp} {v : V} {d : PyData} (h : New H H' v d) (e : Ext M A H) : New A H' v d := fun _ s => h _ (s.ext e)
section
variable {M : List Addr} {H : Hp} {Q : VK} {K : PySem.W.Frag} {a b : Addr} {xs ys : List Nat} {ds es : List PyData} {vs : List V}
theorem rd_newL (s : Al M H) (h : IsAll M H vs ds) (hz : vs.length ≤ 1000) (q : ∀ p H', H p = none → Ext [] H H' → H' p = some (.lst vs) → Is M H' (.ref p) (.list ds) → Q (.ref p) H') : qNewL vs H Q :=
  ⟨szl hz, fun p hp => q p _ hp (.new hp) upd_same (new_lst s h hp)⟩
theorem rd_newT (s : Al M H) (h : IsAll M H vs ds) (hz : vs.length ≤ 1000) (q : ∀ p H', H p = none → Ext [] H H' → H' p = some (.tup vs) → Is M H' (.ref p) (.tuple ds) → Q (.ref p) H') : qNewT vs H Q :=
  ⟨szl hz, fun p hp => q p _ hp (.new hp) upd_same (new_tup s h hp)⟩
theorem rd_ncat (s : Al M H) (h : Is M H (.ref a) (nats xs)) (k : Is M H (.ref b) (nats ys)) (hz : xs.length + ys.length ≤ 100000) (q : ∀ p H', H p = none → Ext [] H H' → Is M H' (.ref p) (nats (xs ++ ys)) → Q (.ref p) H') : rCat (.ref a) (.ref b) H Q :=
  rd_dcat s h k (by rw [List.length_map, List.length_map]; exact hz) fun p H' hp e _ i => q p H' hp e (by rw [nats, List.map_append]; exact i)
theorem rd_ncut {lo hi : Int} {l h : Nat} (s : Al M H) (i : Is M H (.ref a) (nats xs)) (hl : lo = (l : Int)) (hh : hi = (h : Int)) (q : ∀ p H', H p = none → Ext [] H H' → Is M H' (.ref p) (nats ((xs.take h).drop l)) → Q (.ref p) H') : rSlL K (.ref a) (some lo) (some hi) H Q :=
  rd_cut s i hl hh fun p H' hp e _ j => q p H' hp e (by rw [nats, List.map_drop, List.map_take]; exact j)
theorem rd_ncut0 {hi : Int} {h : Nat} (s : Al M H) (i : Is M H (.ref a) (nats xs)) (hh : hi = (h : Int)) (q : ∀ p H', H p = none → Ext [] H H' → Is M H' (.ref p) (nats (xs.take h)) → Q (.ref p) H') : rSlL K (.ref a) none (some hi) H Q :=
  rd_cut0 s i hh fun p H' hp e _ j => q p H' hp e (by rw [nats, List.map_take]; exact j)
theorem rd_ncutN {lo : Int} {l : Nat} (s : Al M H) (i : Is M H (.ref a) (nats xs)) (hl : lo = (l : Int)) (q : ∀ p H', H p = none → Ext [] H H' → Is M H' (.ref p) (nats (xs.drop l)) → Q (.ref p) H') : rSlL K (.ref a) (some lo) none H Q :=
  rd_cutN s i hl fun p H' hp e _ j => q p H' hp e (by rw [nats, List.map_drop]; exact j)
theorem rd_ndlist (s : Al M H) (h : Is M H (.ref a) (nats xs)) (q : ∀ p H', H p = none → Ext [] H H' → Is M H' (.ref p) (nats xs) → Q (.ref p) H') : qListOf K [.ref a] H Q := rd_dlist s h fun p H' hp e _ i => q p H' hp e i
theorem rd_nix {i : Int} {j : Nat} (h : Is M H (.ref a) (nats xs)) (hj : i = (j : Int)) (hd : j < xs.length) (q : Q (.int ((xs.getD j 0 : Nat) : Int)) H) : rIxL K (.ref a) (.int i) H Q := by
  refine rd_dix h hj (by rw [List.getElem?_map, List.getElem?_eq_getElem hd]; rfl) fun v iv => ?_
  rw [List.getD_eq_getElem?_getD, List.getElem?_eq_getElem hd] at q
  cases iv
  exact q
theorem rd_nlen (h : Is M H (.ref a) (nats xs)) (q : Q (.int xs.length) H) : qLen K [.ref a] H Q := rd_dlen h fun _ => by rw [List.length_map]; exact q
theorem rd_rep {k : Int} {ws : List V} (h : H a = some (.lst ws)) (h0 : -(2 ^ 63) ≤ k) (h1 : k < 2 ^ 63) (hz : ws.length * k.toNat ≤ 100000) (q : ∀ p, H p = none → Q (.ref p) (upd H p (.lst (List.replicate k.toNat ws).flatten))) : rRep (.ref a) (.int k) H Q := ⟨a, k, ws, rfl, rfl, h, h0, h1, szL hz, q⟩
theorem IsAll.reps (h : IsAll M H vs ds) : ∀ k, IsAll M H (List.replicate k vs).flatten (List.replicate k ds).flatten
  | 0 => .nil
  | k + 1 => by
    rw [List.replicate_succ, List.replicate_succ, List.flatten_cons, List.flatten_cons]
    exact h.append (IsAll.reps h k)
theorem rd_drep {k : Int} (s : Al M H) (h : Is M H (.ref a) (.list ds)) (h0 : -(2 ^ 63) ≤ k) (h1 : k < 2 ^ 63) (hz : ds.length * k.toNat ≤ 100000) (q : ∀ p H', H p = none → Ext [] H H' → Is M H' (.ref p) (.list (List.replicate k.toNat ds).flatten) → Q (.ref p) H') : rRep (.ref a) (.int k) H Q := by
  obtain ⟨ws, _, hx, r⟩ := h.list
  exact rd_rep hx h0 h1 (by rw [r.length]; exact hz) fun p hp => q p _ hp (.new hp) (new_lst s (r.reps _) hp)
theorem rd_nrep1 {k : Int} {n j : Nat} (s : Al M H) (h : H a = some (.lst [.int n])) (hk : k.toNat = j) (h0 : -(2 ^ 62) ≤ k) (h1 : k ≤ 100000) (q : ∀ p H', H p = none → Ext [] H H' → Is M H' (.ref p) (nats (List.replicate j n)) → Q (.ref p) H') : rRep (.ref a) (.int k) H Q := by
  refine rd_rep h (by omega) (by omega) (by rw [List.length_singleton]; omega) fun p hp => q p _ hp (.new hp) (new_lst s ?_ hp)
  rw [hk]
  have e : (List.replicate j [V.int n]).flatten = (List.replicate j n).map fun n : Nat => V.int n := by rw [List.map_replicate]; induction j with
    | zero => rfl
    | succ j ih => rw [List.replicate_succ, List.replicate_succ, List.flatten_cons] ; exact congrArg (V.int n :: ·) (by clear hk; exact List.flatten_replicate_singleton)
  rw [e]
  exact nats_V _
end
section
variable {K : PySem.W.Frag} {H : Hp} {Q : VK} {p : Addr}
theorem rd_pick {P : Int → Prop} {ns : List Int} {v : Nat} (h : H p = some (.lst (ns.map V.int))) (hv : v < ns.length) (hP : ∀ n ∈ ns, P n) (q : ∀ n, P n → Q (.int n) H) : rIxL K (.ref p) (.int v) H Q :=
  rd_ixL (SqL.of h) (atI_nat (by rw [List.getElem?_map, List.getElem?_eq_getElem hv]; rfl)) (q _ (hP _ (List.getElem_mem hv)))
end
/-! ### lists of the module in sums -/
structure PlK (K : PySem.W.Frag) (a : Addr) (xs : List V) : Prop where
  ex : ∃ (its : Array Value) (n : Nat), K.lookup a = some { cls := .type "list", data := .seq its n } ∧ its.size ≤ sizeLine ∧ Vals xs its.toList
theorem PlK.sq {K : PySem.W.Frag} {a : Addr} {xs : List V} (h : PlK K a xs) (H : Hp) : SqL K H a xs := by
  obtain ⟨its, n, e, hz, r⟩ := h.ex
  exact .inr ⟨_, its, n, e, rfl, rfl, rfl, hz, r⟩
def plB (K : PySem.W.Frag) (x : Str) (vs : List He.Dv) : Bool := match K.lookup (He.ga K x) with
  | some ⟨.type c, none, .seq its _, sl⟩ => decide (c = "list") && (sl.toList.isEmpty && (decide (its.size ≤ sizeLine) && He.relAll (vs.map (He.Dv.v K)) its.toList))
  | _ => false
theorem plB_ok {K : PySem.W.Frag} {x : Str} {vs : List He.Dv} (h : plB K x vs = true) : PlK K (He.ga K x) (vs.map (He.Dv.v K)) := by
  unfold plB at h
  cases q : K.lookup (He.ga K x) with
  | none => rw [q] at h; cases h
  | some o =>
    obtain ⟨oc, od, dt, osl⟩ := o
    rw [q] at h
    cases oc with
    | type c =>
      cases od with
      | none =>
        cases dt with
        | seq its n =>
          simp only [Bool.and_eq_true, decide_eq_true_eq] at h
          obtain ⟨rfl, hs, hz, hr⟩ := h
          have e : osl = #[] := by
            obtain ⟨l⟩ := osl
            cases l with
            | nil => rfl
            | cons _ _ => cases hs
          subst e
          exact ⟨its, n, q, hz, He.relAll_ok hr⟩
        | _ => cases h
      | some _ => cases h
    | _ => cases h
def rCatK (K : PySem.W.Frag) : R2 := fun x y H Q => ∃ l b xs zs, x = .ref l ∧ y = .ref b ∧ (H l = some (.lst xs) ∨ PlK K l xs) ∧ (H b = some (.lst zs) ∨ PlK K b zs) ∧ xs.length + zs.length ≤ sizeLine ∧ ∀ p, H p = none → Q (.ref p) (upd H p (.lst (xs ++ zs)))
theorem lstK {X : Cx} {pins : List (Addr × Obj)} {σ : L2.St} {H : Hp} {s : Shared} {l : Addr} {xs : List V} (I : Inv X pins σ H s) (h : H l = some (.lst xs) ∨ PlK X.K l xs) : ∃ (its : List Value) (n : Nat), Vals xs its ∧ xs.length = its.length ∧ s.heap.get? l = some { cls := .type "list", data := .seq its.toArray n } := by
  rcases h with h | h
  · obtain ⟨z, its, n, r, hl, e⟩ := I.lstM h
    exact ⟨its, n, r, hl, e⟩
  · obtain ⟨its, n, e, hz, r⟩ := h.ex
    exact ⟨its.toList, n, r, r.length, by simpa using I.kIn l _ e⟩
theorem op_catK {X : Cx} (K : PySem.W.Frag) (hK : X.K = K := by rfl) : OpR X (binaryOp .Add) (rCatK K) := by
  subst hK
  intro pins s σ H x y v u Q I rx ry h
  obtain ⟨l, b, xs, zs, rfl, rfl, hH, hB, hz, q⟩ := h
  cases rx
  cases ry
  obtain ⟨its, n, r, hl, e⟩ := lstK I hH
  obtain ⟨its2, n2, r2, hl2, e2⟩ := lstK I hB
  refine PySem.P.add_list e e2 ?_ (by rw [List.size_toArray, List.size_toArray]; omega)
  rw [show its.toArray ++ its2.toArray = (its ++ its2).toArray by simp]
  exact ⟨.ref _, _, I.lnew (t' := s.toks) (r.append r2) (by rw [List.length_append]; omega), rfl, q _ I.fresh⟩
theorem rd_catK {K : PySem.W.Frag} {H : Hp} {Q : VK} {M : List Addr} {a b : Addr} {ms xs : List Nat} (s : Al M H) (h : PlK K a (ms.map fun n : Nat => V.int n)) (k : Is M H (.ref b) (nats xs)) (hz : ms.length + xs.length ≤ 100000)
    (q : ∀ p H', H p = none → Ext [] H H' → Is M H' (.ref p) (nats (ms ++ xs)) → Q (.ref p) H') : rCatK K (.ref a) (.ref b) H Q := by
  obtain ⟨ws, _, hx, r⟩ := k.list
  refine ⟨a, b, _, ws, rfl, rfl, .inr h, .inl hx, szL (by rw [r.length, List.length_map, List.length_map]; exact hz), fun p hp => q p _ hp (.new hp) (new_lst s ?_ hp)⟩
  rw [List.map_append]
  exact (nats_V ms).append r
/-! ### comprehensions and loops over lists of something, with a state beside -/
inductive All2 {α β : Type} (R : α → β → Prop) : List α → List β → Prop
  | nil : All2 R [] []
  | cons {a : α} {b : β} {as : List α} {bs : List β} : R a b → All2 R as bs → All2 R (a :: as) (b :: bs)
theorem All2.snoc {α β : Type} {R : α → β → Prop} {a : α} {b : β} : ∀ {as : List α} {bs : List β}, All2 R as bs → R a b → All2 R (as ++ [a]) (bs ++ [b])
  | _, _, .nil, h => .cons h .nil
  | _, _, .cons r t, h => .cons r (All2.snoc t h)
theorem All2.length {α β : Type} {R : α → β → Prop} : ∀ {as : List α} {bs : List β}, All2 R as bs → as.length = bs.length
  | _, _, .nil => rfl
  | _, _, .cons _ t => congrArg Nat.succ t.length
theorem All2.fn {α β : Type} {f : α → β} : ∀ {as : List α} {bs : List β}, All2 (fun a b => b = f a) as bs → bs = as.map f
  | _, _, .nil => rfl
  | _, _, .cons r t => by rw [r, t.fn]; rfl
theorem All2.mem {α β : Type} {R : α → β → Prop} {b : β} : ∀ {as : List α} {bs : List β}, All2 R as bs → b ∈ bs → ∃ a ∈ as, R a b
  | _, _, .nil, h => nomatch h
  | _, _, .cons r t, h => by
    rcases List.mem_cons.mp h with rfl | h
    · exact ⟨_, List.mem_cons_self .., r⟩
    · obtain ⟨a, ha, q⟩ := All2.mem t h
      exact ⟨a, List.mem_cons_of_mem _ ha, q⟩
/-- each of the second is a choice made by the first -/
theorem All2.pick {α β γ : Type} {R : α → γ → Prop} {g : γ → β} : ∀ {as : List α} {bs : List β}, All2 (fun a b => ∃ c, b = g c ∧ R a c) as bs → ∃ cs, bs = cs.map g ∧ All2 R as cs
  | _, _, .nil => ⟨[], rfl, .nil⟩
  | _, _, .cons ⟨c, e, r⟩ t => by
    obtain ⟨cs, e2, r2⟩ := All2.pick t
    exact ⟨c :: cs, by rw [e, e2]; rfl, .cons r r2⟩
structure MadeN (N M : List Addr) (H0 : Hp) (D : Addr) (es : List PyData) (H : Hp) : Prop where
  sub : ∀ b ∈ N, b ∈ M
  free : H0 D = none
  ext : Ext N H0 H
  off : D ∉ M
  ls : ∃ ys, H D = some (.lst ys) ∧ IsAll (D :: M) H ys es
section
variable {N M : List Addr} {H0 H H' : Hp} {a D : Addr} {es : List PyData} {K : PySem.W.Frag} {d : PyData} {y x v : V}
theorem MadeN.start (hN : ∀ b ∈ N, b ∈ M) (s : Al M H0) (hD : H0 D = none) : MadeN N M H0 D [] (upd H0 D (.lst [])) := ⟨hN, hD, .new hD, s.fresh hD, [], upd_same, .nil⟩
theorem MadeN.startE (hN : ∀ b ∈ N, b ∈ M) (s : Al M H0) (e : Ext N H0 H) (hD : H D = none) : MadeN N M H0 D [] (upd H D (.lst [])) := ⟨hN, e.free hD, e.trans (.new hD), (s.ext e).fresh hD, [], upd_same, .nil⟩
theorem MadeN.al (m : MadeN N M H0 D es H) (s : Al M H0) : Al (D :: M) H := by
  obtain ⟨ys, h1, h2⟩ := m.ls
  exact .cons (some_ne h1) (s.ext m.ext)
theorem MadeN.is (m : MadeN N M H0 D es H) : Is M H (.ref D) (.list es) := by
  obtain ⟨ys, h1, h2⟩ := m.ls
  exact .lst m.off h1 h2.on
theorem MadeN.ofs (m : MadeN N M H0 D es H) (i : Is M H0 v d) : Is (D :: M) H v d := (i.off m.free).mono (m.ext.more fun b hb => List.mem_cons_of_mem _ (m.sub b hb))
theorem MadeN.of0 (m : MadeN N M H0 D es H) (i : Is M H0 v d) : Is M H v d := (m.ofs i).on
theorem MadeN.nD (m : MadeN N M H0 D es H) : D ∉ N := fun q => m.off (m.sub _ q)
theorem MadeN.step (m : MadeN N M H0 D es H) (e : Ext N H H') (h : Is (D :: M) H' y d) (hl : es.length < 100000) :
    ∃ acc, H' D = some (.lst acc) ∧ acc.length < sizeLine ∧ MadeN N M H0 D (es ++ [d]) (upd H' D (.lst (acc ++ [y]))) := by
  obtain ⟨ys, h1, h2⟩ := m.ls
  refine ⟨ys, e.keep _ _ m.nD h1, szl' (by rw [h2.length]; omega), m.sub, m.free, (m.ext.trans e).mut m.free, m.off, _, upd_same, ?_⟩
  exact ((h2.mono (e.more fun b hb => List.mem_cons_of_mem _ (m.sub b hb))).append (.one h)).mono (.set (List.mem_cons_self ..))
theorem MadeN.go (m : MadeN N M H0 D es H) (e : Ext N H H') : MadeN N M H0 D es H' := by
  obtain ⟨ys, h1, h2⟩ := m.ls
  exact ⟨m.sub, m.free, m.ext.trans e, m.off, ys, e.keep _ _ m.nD h1, h2.mono (e.more fun b hb => List.mem_cons_of_mem _ (m.sub b hb))⟩
/-- D.append(e): rd_app first, then this -/
theorem MadeN.lst (m : MadeN N M H0 D es H) : ∃ ys, H D = some (.lst ys) := by
  obtain ⟨ys, h1, h2⟩ := m.ls
  exact ⟨ys, h1⟩
theorem rd_appE {G : List V → Prop} (m : MadeN N M H0 D es H) (e : Ext N H H') (i : Is (D :: M) H' y d) (hl : es.length < 100000) (k : ∀ acc, MadeN N M H0 D (es ++ [d]) (upd H' D (.lst (acc ++ [y]))) → G acc) :
    ∃ ys, H' D = some (.lst ys) ∧ ys.length < sizeLine ∧ G ys := by
  obtain ⟨acc, h3, h4, m'⟩ := m.step e i hl
  exact ⟨acc, h3, h4, k acc m'⟩
end
section
variable {N M : List Addr} {H0 H : Hp} {a D : Addr} {K : PySem.W.Frag} {j : Nat} {vs : List Nat} {te : TE} {σ : L2.St} {Q : VK} {α : Type} {L : List α} {g : α → PyData} {Rel : α → PyData → Prop} {RelI : Nat → PyData → Prop} {J : Hp → Prop}
/-- [e for x in a list], with what may change (N) and what goes along (J) -/
theorem q_lcA (J : Hp → Prop) (Rel : α → PyData → Prop) (hN : ∀ b ∈ N, b ∈ M) (s : Al M H0) (hD : H0 D = none) (h : Is M H0 (.ref a) (.list (L.map g))) (hn : L.length ≤ 100000) (hw : ∀ x, wipe ((wipe σ vs).set j (some x)) vs = wipe σ vs)
    (j0 : J H0) (hJ : ∀ A o, J A → J (upd A D o))
    (he : ∀ (i : Nat) (x : V) (y : α) H', L[i]? = some y → Al (D :: M) H' → Ext N H0 H' → J H' → Is (D :: M) H' x (g y) → ∀ R : VK, (∀ w H'' e, Ext N H' H'' → J H'' → Is (D :: M) H'' w e → Rel y e → R w H'') → te ((wipe σ vs).set j (some x)) H' R)
    (hd : ∀ H' es, Ext N H0 H' → J H' → All2 Rel L es → Is M H' (.ref D) (.list es) → Q (.ref D) H') : qLc (Itl K a) (gName j) tYes te vs σ D H0 Q := by
  obtain ⟨xs, na, hx, r⟩ := h.list
  have hlen : xs.length = L.length := by rw [r.length, List.length_map]
  refine lc_list (xs := xs) (fun i H' => J H' ∧ ∃ es, All2 Rel (L.take i) es ∧ MadeN N M H0 D es H') ⟨hJ _ _ j0, [], .nil, MadeN.start hN s hD⟩ (fun i H' _ m => ?_) (fun i x H' hi m => ?_) fun H' m => ?_
  · obtain ⟨_, es, _, m⟩ := m
    exact SqL.of (m.ext.keep _ _ (fun q => na (hN _ q)) hx)
  · obtain ⟨jh, es, r2, m⟩ := m
    obtain ⟨d, hd', iv⟩ := r.got hi
    rw [List.getElem?_map] at hd'
    cases hy : L[i]? with
    | none => rw [hy] at hd'; cases hd'
    | some y =>
      rw [hy] at hd'
      cases hd'
      refine ⟨hw _, rd_yes ?_⟩
      refine iteT ?_
      refine he i x y H' hy (m.al s) m.ext jh (m.ofs iv) _ fun w H'' e e1 j1 i1 r1 => ?_
      obtain ⟨acc, h1, h2, m'⟩ := m.step e1 i1 (by
        have z := r2.length
        rw [List.length_take] at z
        have : i < L.length := (List.getElem?_eq_some_iff.mp hy).1
        omega)
      refine ⟨acc, h1, h2, hJ _ _ j1, es ++ [e], ?_, m'⟩
      rw [List.take_add_one, hy]
      exact r2.snoc r1
  · obtain ⟨jh, es, r2, m⟩ := m
    rw [hlen, List.take_length] at r2
    exact hd H' es m.ext jh r2 m.is
/-- [e for i in range(n)] -/
theorem q_lcAR {lo : Int} {n : Nat} (J : Hp → Prop) (Rel : Nat → PyData → Prop) (hN : ∀ b ∈ N, b ∈ M) (s : Al M H0) (hD : H0 D = none) (hn : n ≤ 100000) (hw : ∀ x, wipe ((wipe σ vs).set j (some x)) vs = wipe σ vs)
    (j0 : J H0) (hJ : ∀ A o, J A → J (upd A D o))
    (he : ∀ (i : Nat) H', i < n → Al (D :: M) H' → Ext N H0 H' → J H' → (∀ v d, Is M H0 v d → Is (D :: M) H' v d) → ∀ R : VK, (∀ w H'' e, Ext N H' H'' → J H'' → Is (D :: M) H'' w e → Rel i e → R w H'') → te ((wipe σ vs).set j (some (.int (lo + i)))) H' R)
    (hd : ∀ H' es, Ext N H0 H' → J H' → All2 Rel (List.range n) es → Is M H' (.ref D) (.list es) → Q (.ref D) H') : qLc (Itr lo n) (gName j) tYes te vs σ D H0 Q := by
  refine lc_range (fun i H' => J H' ∧ ∃ es, All2 Rel (List.range i) es ∧ MadeN N M H0 D es H') ⟨hJ _ _ j0, [], .nil, MadeN.start hN s hD⟩ (fun i H' hi m => ?_) fun H' m => ?_
  · obtain ⟨jh, es, r2, m⟩ := m
    refine ⟨hw _, rd_yes ?_⟩
    refine iteT ?_
    refine he i H' hi (m.al s) m.ext jh (fun v d => m.ofs) _ fun w H'' e e1 j1 i1 r1 => ?_
    obtain ⟨acc, h1, h2, m'⟩ := m.step e1 i1 (by
      have z := r2.length
      rw [List.length_range] at z
      omega)
    refine ⟨acc, h1, h2, hJ _ _ j1, es ++ [e], ?_, m'⟩
    rw [List.range_succ]
    exact r2.snoc r1
  · obtain ⟨jh, es, r2, m⟩ := m
    exact hd H' es m.ext jh r2 m.is
/-- without a state: a function of the elements -/
theorem q_lcM (f : α → PyData) (s : Al M H0) (hD : H0 D = none) (h : Is M H0 (.ref a) (.list (L.map g))) (hn : L.length ≤ 100000) (hw : ∀ x, wipe ((wipe σ vs).set j (some x)) vs = wipe σ vs)
    (he : ∀ (x : V) (y : α) H', y ∈ L → Al (D :: M) H' → Ext [] H0 H' → Is (D :: M) H' x (g y) → ∀ R : VK, (∀ w H'', Ext [] H' H'' → Is (D :: M) H'' w (f y) → R w H'') → te ((wipe σ vs).set j (some x)) H' R)
    (hd : ∀ H', Ext [] H0 H' → Is M H' (.ref D) (.list (L.map f)) → Q (.ref D) H') : qLc (Itl K a) (gName j) tYes te vs σ D H0 Q :=
  q_lcA (N := []) (fun _ => True) (fun y e => e = f y) (fun b h => nomatch h) s hD h hn hw trivial (fun _ _ _ => trivial) (fun i x y H' hy s' e _ iv R k => he x y H' (List.mem_of_getElem? hy) s' e iv R fun w H'' e2 i2 => k w H'' _ e2 trivial i2 rfl)
    fun H' es e _ r i => hd H' e (by rw [r.fn] at i; exact i)
variable {tb : TS} {E : Ends} {gt : TG}
/-- a walk over a list of something -/
theorem q_dataM (h : Is M H0 (.ref a) (.list (L.map g))) (Pv : Nat → L2.St → Hp → Prop) (h0 : Pv 0 σ H) (hE : ∀ i σ H, Pv i σ H → Ext M H0 H)
    (hs : ∀ i y x σ H, L[i]? = some y → Is M H x (g y) → Pv i σ H → gt x σ H fun σ2 H2 => tb { E with nx := Pv (i + 1), ct := Pv (i + 1), bk := E.nx } σ2 H2) (hd : ∀ σ H, Pv L.length σ H → E.nx σ H) : qFor (Itl K a) gt tb E σ H := by
  refine q_data h Pv h0 hE (fun i d x σ H hi iv p => ?_) fun σ H p => hd σ H (by rw [List.length_map] at p; exact p)
  rw [List.getElem?_map] at hi
  cases hy : L[i]? with
  | none => rw [hy] at hi; cases hi
  | some y =>
    rw [hy] at hi
    cases hi
    exact hs i y x σ H hy iv p
end
theorem take_snoc {α : Type} {L : List α} {i : Nat} {y : α} (h : L[i]? = some y) : L.take (i + 1) = L.take i ++ [y] := by rw [List.take_add_one, h]; rfl
/-! ### lists of something: parts, sums, places -/
section
variable {M : List Addr} {H : Hp} {Q : VK} {K : PySem.W.Frag} {a b : Addr} {α : Type} {L L2 : List α} {g : α → PyData}
theorem rd_mcut {lo hi : Int} {l h : Nat} (s : Al M H) (i : Is M H (.ref a) (.list (L.map g))) (hl : lo = (l : Int)) (hh : hi = (h : Int)) (q : ∀ p H', H p = none → Ext [] H H' → Is M H' (.ref p) (.list (((L.take h).drop l).map g)) → Q (.ref p) H') : rSlL K (.ref a) (some lo) (some hi) H Q :=
  rd_cut s i hl hh fun p H' hp e _ j => q p H' hp e (by rw [List.map_drop, List.map_take]; exact j)
theorem rd_mcut0 {hi : Int} {h : Nat} (s : Al M H) (i : Is M H (.ref a) (.list (L.map g))) (hh : hi = (h : Int)) (q : ∀ p H', H p = none → Ext [] H H' → Is M H' (.ref p) (.list ((L.take h).map g)) → Q (.ref p) H') : rSlL K (.ref a) none (some hi) H Q :=
  rd_cut0 s i hh fun p H' hp e _ j => q p H' hp e (by rw [List.map_take]; exact j)
theorem rd_mcutN {lo : Int} {l : Nat} (s : Al M H) (i : Is M H (.ref a) (.list (L.map g))) (hl : lo = (l : Int)) (q : ∀ p H', H p = none → Ext [] H H' → Is M H' (.ref p) (.list ((L.drop l).map g)) → Q (.ref p) H') : rSlL K (.ref a) (some lo) none H Q :=
  rd_cutN s i hl fun p H' hp e _ j => q p H' hp e (by rw [List.map_drop]; exact j)
theorem rd_mcat (s : Al M H) (h : Is M H (.ref a) (.list (L.map g))) (k : Is M H (.ref b) (.list (L2.map g))) (hz : L.length + L2.length ≤ 100000) (q : ∀ p H', H p = none → Ext [] H H' → (∃ xs, H' p = some (.lst xs) ∧ IsAll (p :: M) H' xs ((L ++ L2).map g)) → Is M H' (.ref p) (.list ((L ++ L2).map g)) → Q (.ref p) H') : rCat (.ref a) (.ref b) H Q :=
  rd_dcat s h k (by rw [List.length_map, List.length_map]; exact hz) fun p H' hp e x i => q p H' hp e (by rw [List.map_append]; exact x) (by rw [List.map_append]; exact i)
theorem rd_mix {i : Int} {j : Nat} {y : α} (h : Is M H (.ref a) (.list (L.map g))) (hj : i = (j : Int)) (hd : L[j]? = some y) (q : ∀ v, Is M H v (g y) → Q v H) : rIxL K (.ref a) (.int i) H Q :=
  rd_dix h hj (by rw [List.getElem?_map, hd]; rfl) q
theorem rd_mrep {k : Int} {j : Nat} (s : Al M H) (h : Is M H (.ref a) (.list (L.map g))) (hk : k.toNat = j) (h0 : -(2 ^ 62) ≤ k) (h1 : k ≤ 100000) (hz : L.length * j ≤ 100000) (q : ∀ p H', H p = none → Ext [] H H' → Is M H' (.ref p) (.list ((List.replicate j L).flatten.map g)) → Q (.ref p) H') : rRep (.ref a) (.int k) H Q := by
  subst hk
  refine rd_drep s h (by omega) (by omega) (by rw [List.length_map]; exact hz) fun p H' hp e i => q p H' hp e ?_
  rw [List.map_flatten, List.map_replicate]
  exact i
theorem get_D {xs : List (List Nat)} {j : Nat} (h : j < xs.length) : xs[j]? = some (xs.getD j []) := by rw [List.getD_eq_getElem?_getD, List.getElem?_eq_getElem h]; rfl
end
/-! ### the state of the law's numbers: a list of the script's list and three numbers -/
structure StAt (H : Hp) (p l : Addr) : Prop where
  ex : ∃ (ns : List Int) (i m s : Int), H p = some (.lst [.ref l, .int i, .int m, .int s]) ∧ H l = some (.lst (ns.map V.int)) ∧ 0 ≤ i ∧ i ≤ ns.length ∧ 0 ≤ m
  ne : p ≠ l
theorem StAt.ext {M : List Addr} {H H' : Hp} {p l : Addr} (s : StAt H p l) (e : Ext M H H') (h1 : p ∉ M) (h2 : l ∉ M) : StAt H' p l := by
  obtain ⟨⟨ns, i, m, s0, a, b, c⟩, ne⟩ := s
  exact ⟨⟨ns, i, m, s0, e.keep _ _ h1 a, e.keep _ _ h2 b, c⟩, ne⟩
theorem StAt.ext0 {H H' : Hp} {p l : Addr} (s : StAt H p l) (e : Ext [] H H') : StAt H' p l := s.ext e (by simp) (by simp)
theorem at_st0 {H H' : Hp} {p l : Addr} (e : Ext [] H H') (s : StAt H p l) : StAt H' p l := s.ext0 e
theorem at_stN {H : Hp} {p l q : Addr} {o : HO} (h : H q = none) (s : StAt H p l) : StAt (upd H q o) p l := s.ext0 (.new h)
theorem StAt.al {H : Hp} {p l : Addr} (s : StAt H p l) : H p ≠ none := by
  obtain ⟨⟨ns, i, m, s0, a, b, c⟩, ne⟩ := s
  exact some_ne a
theorem StAt.ne_new {H : Hp} {p l r : Addr} (s : StAt H p l) (h : H r = none) : r ≠ p := fun e => s.al (by rw [← e]; exact h)
theorem StAt.als {H : Hp} {p l : Addr} (s : StAt H p l) : Al [p] H := .cons s.al .nil
theorem StAt.al2 {H : Hp} {p l : Addr} (s : StAt H p l) : H l ≠ none := by
  obtain ⟨⟨ns, i, m, s0, a, b, c⟩, ne⟩ := s
  exact some_ne b
/-! ### classes, own exceptions: defs that may raise -/
structure GMak (K : PySem.W.Frag) (mg : Str → Option Value) (x : Str) (C : Addr) (qual : Str) (st : Stmt) : Prop where
  ex : ∃ (f : Addr) (fd : FuncData), FunD K "__init__" qual (defArgs st) (defBody st) (defScope st) [] [] f fd ∧ Mk K C f ∧ mg x = some (.ref C)
abbrev CalE (P : Program) (w : World) := CalX (L2.CX P w) P w
abbrev MetE (P : Program) (w : World) := MetX (L2.CX P w) P w
abbrev MakE (P : Program) (w : World) := MakX (L2.CX P w) P w
section
variable {P : Program} {w : World} {K : PySem.W.Frag} {mg : Str → Option Value} {base : Heap} {x qual m : Str} {st : Stmt} {N ps : List Str} {k : Nat} {sp : Sp} {C : Addr}
theorem GMak.mak (g : GMak K mg x C qual st) (S : FnScope N ps (defScope st)) (b : BindAll "__init__" qual st ps) (len : ∀ vs H Q E, sp vs H Q E → vs.length = ps.length)
    (hbody : ∀ (f : Addr) (cdv : Value) (A : Around) (outer : List Env) (s : Shared) (H : Hp) (vs : List V) (Q : VK) (E : XK), Room k (A.deeper (envOfC qual (defScope st) s.heap.objs.size f cdv)) → sp vs H Q E →
      ∃ t, PSs (cxOf CX0 P w K mg base N qual (defScope st) f cdv A outer s H E).nox (defBody st) t ∧ t { nx := fun _ H' => Q .non H', rt := Q } (start N vs) H) : Mak P w K mg base (k + 1) x C sp [] := by
  obtain ⟨f, fd, F, M, hm⟩ := g.ex
  exact ⟨f, fd, ps, [], M, fnd_ok F S len (hbody f), hm, F.bindsN b, .nil⟩
theorem GFun.calE (g : GFun K mg x st) (S : FnScope N ps (defScope st)) (b : BindAll x x st ps) (len : ∀ vs H Q E, sp vs H Q E → vs.length = ps.length)
    (hbody : ∀ (f : Addr) (cdv : Value) (A : Around) (outer : List Env) (s : Shared) (H : Hp) (vs : List V) (Q : VK) (E : XK), Room k (A.deeper (envOfC x (defScope st) s.heap.objs.size f cdv)) → sp vs H Q E →
      ∃ t, PSs (cxOf (L2.CX P w) P w K mg base N x (defScope st) f cdv A outer s H E) (defBody st) t ∧ t { nx := fun _ H' => Q .non H', rt := Q } (start N vs) H) : CalE P w K mg base (k + 1) x sp [] := by
  obtain ⟨f, fd, F, hm⟩ := g.ex
  exact ⟨f, fd, ps, [], F.ok S len fun cdv A outer s H vs Q E hr h => hbody f cdv A outer s H vs Q E hr h, hm, F.kp, F.bindsN b, .nil⟩
theorem GMet.metE (g : GMet K C m qual st) (S : FnScope N ps (defScope st)) (b : BindAll m qual st ps) (len : ∀ vs H Q E, sp vs H Q E → vs.length = ps.length)
    (hbody : ∀ (f : Addr) (cdv : Value) (A : Around) (outer : List Env) (s : Shared) (H : Hp) (vs : List V) (Q : VK) (E : XK), Room k (A.deeper (envOfC qual (defScope st) s.heap.objs.size f cdv)) → sp vs H Q E →
      ∃ t, PSs (cxOf (L2.CX P w) P w K mg base N qual (defScope st) f cdv A outer s H E) (defBody st) t ∧ t { nx := fun _ H' => Q .non H', rt := Q } (start N vs) H) : MetE P w K mg base (k + 1) C m sp [] := by
  obtain ⟨f, fd, F, c, hm⟩ := g.ex
  exact ⟨f, fd, ps, [], c, hm, F.ok S len fun cdv A outer s H vs Q E hr h => hbody f cdv A outer s H vs Q E hr h, F.bindsN b, .nil⟩
theorem GMak.makE (g : GMak K mg x C qual st) (S : FnScope N ps (defScope st)) (b : BindAll "__init__" qual st ps) (len : ∀ vs H Q E, sp vs H Q E → vs.length = ps.length)
    (hbody : ∀ (f : Addr) (cdv : Value) (A : Around) (outer : List Env) (s : Shared) (H : Hp) (vs : List V) (Q : VK) (E : XK), Room k (A.deeper (envOfC qual (defScope st) s.heap.objs.size f cdv)) → sp vs H Q E →
      ∃ t, PSs (cxOf (L2.CX P w) P w K mg base N qual (defScope st) f cdv A outer s H E) (defBody st) t ∧ t { nx := fun _ H' => Q .non H', rt := Q } (start N vs) H) : MakE P w K mg base (k + 1) x C sp [] := by
  obtain ⟨f, fd, F, M, hm⟩ := g.ex
  exact ⟨f, fd, ps, [], M, F.ok S len fun cdv A outer s H vs Q E hr h => hbody f cdv A outer s H vs Q E hr h, hm, F.bindsN b, .nil⟩
end
section
variable {X : Cx} {k j : Nat} {C : Addr} {x m : Str} {sp : Sp} {dvs : List V} {p pos apos : Pos} {W : WX} {e o : Expr} {es : List Expr} {t : TA} {ta : TE}
/-- the own runs of a call that may raise, at the slots -/
theorem run_fnW {CX : CXT} {f : Addr} {fd : FuncData} {ps : List Str} {ds : List Value} {E : L2.St → XK} {pins : List (Addr × Obj)} {σ : L2.St} {H : Hp} {s : Shared} {Q : VK} {us : List Value} {vs : List V} (F : FnOk X.prog X.w X.K X.mg X.base CX k f fd ps sp) (hr : Room k X.A) (hb : Binds X.K fd ps ds) (hd : Vals dvs ds) (hx : PassesAt CX X σ (E σ))
    (I : Inv X pins σ H s) (r : Vals vs us) (h : sp (vs ++ dvs) H Q (E σ)) : wpAny (model X.prog X.w) X.A (call (.ref f) us) (EP X pins σ Q) X.xe s := by
  have r2 : Vals (vs ++ dvs) (us ++ ds) := r.append hd
  have hl : (us ++ ds).length = ps.length := by rw [← r2.length]; exact F.len _ _ _ _ h
  refine wpAny_call (codeAny_mono (F.run X.A X.stack s H ⟨us, []⟩ (us ++ ds) (vs ++ dvs) Q (E σ) hr I.env0 (hb s us I.kIn hl) r2 h) fun r s' hq => ?_)
  cases r with
  | error e => exact hx pins H s e s' I hq
  | ok fl =>
    cases fl with
    | ret u => exact I.after hq
    | next => exact False.elim hq
    | brk => exact False.elim hq
    | cont => exact False.elim hq
def qCallW (sp : Sp) (dvs : List V) (W : WX) (t : TA) : TE := fun σ H Q => t σ H fun vs H1 => sp (vs ++ dvs) H1 Q (WE W σ)
def qMethW (C : Addr) (m : Str) (sp : Sp) (dvs : List V) (W : WX) (ta : TE) (t : TA) : TE := fun σ H Q => ta σ H fun x H1 => ∃ a dx fs, x = .ref a ∧ H1 a = some (.ins C dx fs) ∧ fs.lookup m = none ∧ t σ H1 fun vs H2 => sp (x :: (vs ++ dvs)) H2 Q (WE W σ)
theorem pe_cW (c : CalE X.prog X.w X.K X.mg X.base k x sp dvs) (hr : Room j X.A) (hk : k ≤ j) (tk : Takes X W) (hg : Gl X x) (ha : PA X (e :: es) t)
    (hdb : (x == ("__debug__" : Str)) = false := by decide) (he : starEach (e :: es) X.env = (false, eval e X.env) :: starEach es X.env := by rfl) (hpl : (backTo pos (starEach es X.env)).any (·.1) = false := by rfl) :
    PE X (.Call (.Name x p) (e :: es) [] pos) (qCallW sp dvs W t) := by
  obtain ⟨f, fd, ps, ds, F, hm, kp, b, d⟩ := c.ex
  refine ⟨fun pins s σ H Q I h => ?_⟩
  refine wpAny_Call_Name_kw (ld_glob I hg hm ?_ hdb)
  refine PySem.W.callWith_K (h₀ := X.base) I.ok.mod.kin kp (thn (ha.run pos pins s σ H _ I h) fun us s1 ⟨vs, H1, I1, r, q⟩ => ⟨I1.kIn, ?_⟩) he hpl
  exact run_fnW F (hr.mono hk) b d (passAt tk σ) I1 r q
theorem pe_mtW {pl : Sem Bool} (c : MetE X.prog X.w X.K X.mg X.base k C m sp dvs) (hr : Room j X.A) (hk : k ≤ j) (tk : Takes X W) (he : PE X o ta) (ha : PA X (e :: es) t)
    (hst : starEach (e :: es) X.env = (false, eval e X.env) :: starEach es X.env := by rfl) (hpl : (backTo pos (starEach es X.env)).any (·.1) = false := by rfl)
    (ht : eval (.Call (.Attribute o m apos) (e :: es) [] pos) X.env = (do
      let ov ← eval o X.env
      standAt apos.atName
      let (f, first) ← holding [ov] (getMethod ov m pl)
      callWith pos f first (backTo pos (starEach (e :: es) X.env)) (backToKw pos (keywordEach [] X.env))) := by rfl) :
    PE X (.Call (.Attribute o m apos) (e :: es) [] pos) (qMethW C m sp dvs W ta t) := by
  obtain ⟨f, fd, ps, ds, hc, hm, F, b, d⟩ := c.ex
  refine ⟨fun pins s σ H Q I h => ?_⟩
  refine PySem.W.methodCall_KW (pl := pl) (thn (he.run pins s σ H _ I h) fun u s1 ⟨x, H1, I1, rx, a, dx, fs, ex, ea, l, q⟩ => ?_) ht
  subst ex
  obtain rfl : u = Value.ref a := rx
  refine getmeth_ok I1 ea hc hm l ?_
  refine PySem.W.callWith_K (first := [.ref a]) (h₀ := X.base) I.ok.mod.kin hm.kp (thn (ha.run pos pins s1 σ H1 _ I1 q) fun us s2 ⟨vs, H2, I2, r, q2⟩ => ⟨I2.kIn, ?_⟩) hst hpl
  exact run_fnW (us := .ref a :: us) (vs := .ref a :: vs) F (hr.mono hk) b d (passAt tk σ) I2 (.cons rfl r) q2
theorem pe_mtW0 {pl : Sem Bool} (c : MetE X.prog X.w X.K X.mg X.base k C m sp dvs) (hr : Room j X.A) (hk : k ≤ j) (tk : Takes X W) (he : PE X o ta)
    (ht : eval (.Call (.Attribute o m apos) [] [] pos) X.env = (do
      let ov ← eval o X.env
      standAt apos.atName
      let (f, first) ← holding [ov] (getMethod ov m pl)
      callWith pos f first (backTo pos (starEach [] X.env)) (backToKw pos (keywordEach [] X.env))) := by rfl) :
    PE X (.Call (.Attribute o m apos) [] [] pos) (qMethW C m sp dvs W ta tNil) := by
  obtain ⟨f, fd, ps, ds, hc, hm, F, b, d⟩ := c.ex
  refine ⟨fun pins s σ H Q I h => ?_⟩
  refine PySem.W.methodCall_KW (pl := pl) (thn (he.run pins s σ H _ I h) fun u s1 ⟨x, H1, I1, rx, a, dx, fs, ex, ea, l, q⟩ => ?_) ht
  subst ex
  obtain rfl : u = Value.ref a := rx
  refine getmeth_ok I1 ea hc hm l ?_
  exact PySem.W.callWith_K0 (first := [.ref a]) I1.kIn hm.kp (run_fnW (us := [.ref a]) (vs := [.ref a]) F (hr.mono hk) b d (passAt tk σ) I1 (.cons rfl .nil) q)
end
/-! ### what the written part says of own exceptions -/
def xcB (K : PySem.W.Frag) (x : Str) : Bool := He.eqO (PySem.W.findIn K (.ref (He.ga K x)) "__getattribute__") (some (some (.builtin "BaseException.__getattribute__"))) && (He.eqO (PySem.W.findIn K (.ref (He.ga K x)) "__getattr__") (some none) &&
  (decide (PySem.W.subIn K (.ref (He.ga K x)) (.type "BaseException") = some true) && (PySem.W.hasDictIn K (He.ga K x) && (He.eqO (PySem.W.findIn K (.ref (He.ga K x)) "__class__") (some (some (.builtin "object.__class__"))) &&
  (He.eqO (PySem.W.specialIn K (.builtin "object.__class__") "__get__") (some (some (.builtin "getset_descriptor.__get__"))) && (decide (PySem.W.takesIn K (.builtin "object.__class__") = some true) && decide (PySem.W.mroIn K (He.ga K x) (.type "object") = some true)))))))
theorem xcB_ok {K : PySem.W.Frag} {x : Str} (h : xcB K x = true) : ExcC K (He.ga K x) := by
  obtain ⟨h1, h⟩ := He.ba h
  obtain ⟨h2, h⟩ := He.ba h
  obtain ⟨h3, h⟩ := He.ba h
  obtain ⟨h4, h⟩ := He.ba h
  obtain ⟨h5, h⟩ := He.ba h
  obtain ⟨h6, h⟩ := He.ba h
  obtain ⟨h7, h8⟩ := He.ba h
  exact ⟨He.eqO_ok h1, He.eqO_ok h2, of_decide_eq_true h3, h4, He.eqO_ok h5, He.eqO_ok h6, of_decide_eq_true h7, of_decide_eq_true h8⟩
def kiB (K : PySem.W.Frag) (x y : Str) (b : Bool) : Bool := decide (PySem.W.kitOne K (.ref (He.ga K x)) (.ref (He.ga K y)) = some b)
theorem kiB_ok {K : PySem.W.Frag} {x y : Str} {b : Bool} (h : kiB K x y b = true) : PySem.W.kitOne K (.ref (He.ga K x)) (.ref (He.ga K y)) = some b := of_decide_eq_true h
def kiVB (K : PySem.W.Frag) (x : Str) : Bool := decide (PySem.W.kitOne K (.ref (He.ga K x)) (.type "ValueError") = some true)
theorem kiVB_ok {K : PySem.W.Frag} {x : Str} (h : kiVB K x = true) : PySem.W.kitOne K (.ref (He.ga K x)) (.type "ValueError") = some true := of_decide_eq_true h
theorem pss_given {X : Cx} {b : List Stmt} {t : TS} {p : Prop} (h : p → PSs X b t) : PSs X b (fun D σ H => p ∧ t D σ H) := ⟨fun pins s σ H D I q => (h q.1).run pins s σ H D I q.2⟩
theorem zc_of {cls : Value} {d : Option Addr} {D : Addr} {oe : Obj} (q : cls = .ref D ∧ d = none) (hz : Zc cls d oe) : Zc (.ref D) none oe := by
  obtain ⟨rfl, rfl⟩ := q
  exact hz
/-! ### fields, raises: readings under names -/
def qRaise (C : Addr) (W : WX) : TS := fun _ σ H => W (.ref C) none σ H
theorem ps_rz {X : Cx} {W : WX} {x m : Str} {j : Nat} {p p2 pos pos' : Pos} {C : Addr} (hc : X.calm = true) (tk : Takes X W) (g : X.mg x = some (.ref C))
    (h : PySem.W.excIn X.K C He.veBase "ValueError.__new__" = true ∧ PySem.W.keepIn X.K (.ref C) = true ∧ PySem.W.subIn X.K (.ref C) (.type "BaseException") = some true ∧ PySem.W.typeIn X.K (.ref C) = some (.type "type"))
    (hg : Gl X x) (hdb : (x == ("__debug__" : Str)) = false := by decide) : PS X (.Raise (some (.Call (.Name x p) [.Constant (.str m) j p2] [] pos')) none pos) (qRaise C W) :=
  ps_raise hc tk (pmk_own PySem.F.excBase_ValueError h.1 g h.2.1 (raises_own h.2.2.1 h.2.2.2) hg hdb)
def qFld (K : PySem.W.Frag) (x : V) (f : Str) (H : Hp) (Q : VK) : Prop := ∃ a C dx fs v, x = .ref a ∧ H a = some (.ins C dx fs) ∧ Cls K C ∧ NoAttr K C f ∧ fs.lookup f = some v ∧ Q v H
def qOb (C : Addr) (m : Str) (x : V) (H : Hp) (R : Prop) : Prop := ∃ a dx fs, x = .ref a ∧ H a = some (.ins C dx fs) ∧ fs.lookup m = none ∧ R
def qSet (K : PySem.W.Frag) (x y : V) (f : Str) (H : Hp) (R : Hp → Prop) : Prop := ∃ a C dx fs, x = .ref a ∧ H a = some (.ins C dx fs) ∧ Cls K C ∧ NoAttr K C f ∧ fs.length < 1000 ∧ R (upd H a (.ins C dx (putF f y fs)))
section
variable {K : PySem.W.Frag} {σ : L2.St} {H : Hp} {Q : VK} {ta tv : TE} {f : Str} {D : Ends} {a C dx : Addr} {fs : List (Str × V)} {v y : V}
theorem rd_raise {W : WX} (q : W (.ref C) none σ H) : qRaise C W D σ H := q
theorem rd_fld (q : ta σ H fun x H1 => qFld K x f H1 Q) : tFld K ta f σ H Q := q
theorem rd_fldA (h : H a = some (.ins C dx fs)) (c : Cls K C) (n : NoAttr K C f) (l : fs.lookup f = some v) (q : Q v H) : qFld K (.ref a) f H Q := ⟨a, C, dx, fs, v, rfl, h, c, n, l, q⟩
theorem rd_sfld (q : tv σ H fun y H1 => ta σ H1 fun x H2 => qSet K x y f H2 fun H3 => D.nx σ H3) : sFld K ta tv f D σ H := q
theorem rd_setA {R : Hp → Prop} (h : H a = some (.ins C dx fs)) (c : Cls K C) (n : NoAttr K C f) (l : fs.length < 1000) (q : R (upd H a (.ins C dx (putF f y fs)))) : qSet K (.ref a) y f H R := ⟨a, C, dx, fs, rfl, h, c, n, l, q⟩
theorem rd_methW {m : Str} {sp : Sp} {dvs : List V} {W : WX} {t : TA} (q : ta σ H fun x H1 => qOb C m x H1 (t σ H1 fun vs H2 => sp (x :: (vs ++ dvs)) H2 Q (WE W σ))) : qMethW C m sp dvs W ta t σ H Q := q
theorem rd_meth {m : Str} {sp : Sp} {dvs : List V} {E : XK} {t : TA} (q : ta σ H fun x H1 => qOb C m x H1 (t σ H1 fun vs H2 => sp (x :: (vs ++ dvs)) H2 Q E)) : tMeth C m sp dvs E ta t σ H Q := q
theorem rd_obA {m : Str} {R : Prop} (h : H a = some (.ins C dx fs)) (l : fs.lookup m = none) (q : R) : qOb C m (.ref a) H R := ⟨a, dx, fs, rfl, h, l, q⟩
theorem rd_callW {sp : Sp} {dvs : List V} {W : WX} {t : TA} (q : t σ H fun vs H1 => sp (vs ++ dvs) H1 Q (WE W σ)) : qCallW sp dvs W t σ H Q := q
end
def qFAug (K : PySem.W.Frag) (x : V) (tv : TE) (rd : V → V → Hp → VK → Prop) (f : Str) (σ : L2.St) (H1 : Hp) (R : Hp → Prop) : Prop := ∃ a C dx fs v, x = .ref a ∧ H1 a = some (.ins C dx fs) ∧ Cls K C ∧ NoAttr K C f ∧ fs.lookup f = some v ∧
  tv σ H1 fun y H2 => rd v y H2 fun z H3 => qSetB a z f C H3 R
where qSetB (a : Addr) (z : V) (f : Str) (C : Addr) (H3 : Hp) (R : Hp → Prop) : Prop := ∃ dx' fs', H3 a = some (.ins C dx' fs') ∧ fs'.length < 1000 ∧ R (upd H3 a (.ins C dx' (putF f z fs')))
section
variable {K : PySem.W.Frag} {σ : L2.St} {H : Hp} {ta tv : TE} {f : Str} {D : Ends} {a C dx : Addr} {fs : List (Str × V)} {v z : V} {rd : V → V → Hp → VK → Prop} {R : Hp → Prop}
theorem rd_sfaug (q : ta σ H fun x H1 => qFAug K x tv rd f σ H1 fun H2 => D.nx σ H2) : sFldAug K ta tv rd f D σ H := q
theorem rd_faugA (h : H a = some (.ins C dx fs)) (c : Cls K C) (n : NoAttr K C f) (l : fs.lookup f = some v) (q : tv σ H fun y H2 => rd v y H2 fun z H3 => qFAug.qSetB a z f C H3 R) : qFAug K (.ref a) tv rd f σ H R := ⟨a, C, dx, fs, v, rfl, h, c, n, l, q⟩
theorem rd_setB (h : H a = some (.ins C dx fs)) (l : fs.length < 1000) (q : R (upd H a (.ins C dx (putF f z fs)))) : qFAug.qSetB a z f C H R := ⟨dx, fs, h, l, q⟩
end
/-! ### a class called, whose __init__ may raise -/
def qMakeW (C : Addr) (sp : Sp) (dvs : List V) (W : WX) (t : TA) : TE := fun σ H Q => t σ H fun vs H1 => ∀ x dx, H1 x = none → H1 dx = none → dx ≠ x → sp (.ref x :: (vs ++ dvs)) (upd (upd H1 dx (.own x)) x (.ins C dx [])) (fun v H2 => v = .non ∧ Q (.ref x) H2) (WE W σ)
section
variable {X : Cx} {k j : Nat} {C : Addr} {x : Str} {sp : Sp} {dvs : List V} {p pos : Pos} {W : WX} {e : Expr} {es : List Expr} {t : TA}
theorem run_mkW {CX : CXT} {fn : Addr} {fd : FuncData} {ps : List Str} {ds : List Value} {EE : XK} {pins : List (Addr × Obj)} {σ : L2.St} {H : Hp} {s : Shared} {Q : VK} {us : List Value} {vs : List V} (mk : Mk X.K C fn) (F : FnOk X.prog X.w X.K X.mg X.base CX k fn fd ps sp)
    (room : Room (k + 1) X.A) (bi : Binds X.K fd ps ds) (dv : Vals dvs ds) (px : PassesAt CX X σ EE) (I : Inv X pins σ H s) (rel : Vals vs us)
    (h : ∀ x dx, H x = none → H dx = none → dx ≠ x → sp (.ref x :: (vs ++ dvs)) (upd (upd H dx (.own x)) x (.ins C dx [])) (fun v H2 => v = .non ∧ Q (.ref x) H2) EE) :
    wpAny (model X.prog X.w) X.A (call (.ref C) us) (EP X pins σ Q) X.xe s := by
  have made := Inv.made (C := C) I
  have q := h (s.heap.objs.size + 1) s.heap.objs.size (I.hok.fresh (Nat.le_succ _)) (I.hok.fresh (Nat.le_refl _)) (Nat.ne_of_lt (Nat.lt_succ_self _))
  have all : Vals (V.ref (s.heap.objs.size + 1) :: (vs ++ dvs)) (Value.ref (s.heap.objs.size + 1) :: (us ++ ds)) := .cons rfl (rel.append dv)
  have len : (Value.ref (s.heap.objs.size + 1) :: us ++ ds).length = ps.length := by
    have z := F.len _ _ _ _ q
    rw [all.length] at z
    exact z
  have body := F.run _ X.stack _ _ ⟨Value.ref (s.heap.objs.size + 1) :: us, []⟩ (Value.ref (s.heap.objs.size + 1) :: (us ++ ds)) _ _ EE (room.make C us []) (made.env0.make C us []) (bi _ (Value.ref (s.heap.objs.size + 1) :: us) made.kIn len) all q
  refine wpAny_call (make_map (f := fn) I.kIn mk.makes mk.init (beq_iff_eq.mp mk.fn) (codeAny_mono body fun r s' z => ?_))
  cases r with
  | ok fl =>
    cases fl with
    | ret u =>
      obtain ⟨v, H', I3, rv, rfl, q3⟩ := made.after z
      exact ⟨rv, ⟨V.ref (s.heap.objs.size + 1), H', I3, rfl, q3⟩⟩
    | next => cases z
    | brk => cases z
    | cont => cases z
  | error e => exact px pins _ _ e s' made z
theorem pe_mkW (c : MakE X.prog X.w X.K X.mg X.base k x C sp dvs) (hr : Room j X.A) (hk : k + 1 ≤ j) (tk : Takes X W) (hg : Gl X x) (ha : PA X (e :: es) t)
    (hdb : (x == ("__debug__" : Str)) = false := by decide) (he : starEach (e :: es) X.env = (false, eval e X.env) :: starEach es X.env := by rfl) (hpl : (backTo pos (starEach es X.env)).any (·.1) = false := by rfl) :
    PE X (.Call (.Name x p) (e :: es) [] pos) (qMakeW C sp dvs W t) := by
  obtain ⟨f, fd, ps, ds, mk, F, hm, b, d⟩ := c.ex
  refine ⟨fun pins s σ H Q I h => ?_⟩
  refine wpAny_Call_Name_kw (ld_glob I hg hm ?_ hdb)
  refine PySem.W.callWith_K (h₀ := X.base) I.ok.mod.kin mk.kp (thn (ha.run pos pins s σ H _ I h) fun us s1 ⟨vs, H1, I1, r, q⟩ => ⟨I1.kIn, ?_⟩) he hpl
  exact run_mkW mk F (hr.mono hk) b d (passAt tk σ) I1 r q
theorem rd_mkW {σ : L2.St} {H : Hp} {Q : VK} (q : t σ H fun vs H1 => ∀ x dx, H1 x = none → H1 dx = none → dx ≠ x → sp (.ref x :: (vs ++ dvs)) (upd (upd H1 dx (.own x)) x (.ins C dx [])) (fun v H2 => v = .non ∧ Q (.ref x) H2) (WE W σ)) : qMakeW C sp dvs W t σ H Q := q
end
/-! ### < and > of tuples of anything: the first pair that differs tells (own rule: nothing is asked of the pairs behind it) -/
inductive LexP (op : CmpOp) (A : Around) (s : Shared) (z : Bool) : List (Value × Value) → Bool → Prop
  | done : LexP op A s z [] z
  | same {x y : Value} {r : List (Value × Value)} {k : Bool} : SeqAt.EqAt A s x y true → LexP op A s z r k → LexP op A s z ((x, y) :: r) k
  | diff {x y : Value} {r : List (Value × Value)} {k : Bool} : SeqAt.EqAt A s x y false → Ob.RcOp op A s x y k → LexP op A s z ((x, y) :: r) k
section
open PySem.AutoSeq1 (wpAny_loadPart')
open PySem.SeqAt PySem.MeetsSeq PySem.MeetsSeq2 PySem.MeetsSeq3
theorem lexLt (p q : Addr) (us vs : Array Value) (n m : Nat) (d1 d2 : Option Addr) (l1 l2 : Array (Option Value)) (k : Bool) :
    Meets (Builtin.«tuple.__lt__» ⟨[.ref p, .ref q], []⟩) (fun A R s => s.heap.get? p = some ⟨.type "tuple", d1, .seq us n, l1⟩ ∧ s.heap.get? q = some ⟨.type "tuple", d2, .seq vs m, l2⟩ ∧
      LexP .Lt A.in1 s (decide (us.size < vs.size)) (us.toList.zip vs.toList) k ∧ R (.ok (.ret (.bool k))) s) :=
  .of_wp fun prog w A R s0 h => by
    obtain ⟨hh, gg, dd, tt, oo⟩ := s0
    obtain ⟨hp, hq, hx, fin⟩ := h
    have sub := AutoSeq1.sub_tuple_tuple
    wp_walk using wpAny_loadPart' hp, wpAny_loadPart' hq, wpAny_forIn_list _ (fun r b s1 => b.1 = none ∧ s1 = ⟨hh, gg, dd, tt, oo⟩ ∧ LexP .Lt A.in1 ⟨hh, gg, dd, tt, oo⟩ (decide (us.size < vs.size)) r k) _
    case turn =>
      rintro ⟨x, y⟩ r b s1 ⟨hb, rfl, c⟩
      cases c with
      | same e c =>
        refine wpAny_bind (e prog w _ _ ?_)
        wp_walk
        exact ⟨rfl, rfl, c⟩
      | diff e c =>
        refine wpAny_bind (e prog w _ _ ?_)
        have c' := c prog w
        wp_walk using c'
        exact ⟨_, rfl, fin⟩
    case fin =>
      rintro ⟨b1, b2⟩ s1 ⟨hb, rfl, c⟩
      simp only at hb
      subst hb
      cases c
      wp_walk
      exact ⟨_, rfl, fin⟩
    case h => exact ⟨rfl, rfl, hx⟩
end
section
open PySem.AutoSeq1 (wpAny_loadPart')
open PySem.SeqAt PySem.MeetsSeq PySem.MeetsSeq2 PySem.MeetsSeq3
theorem lexGt (p q : Addr) (us vs : Array Value) (n m : Nat) (d1 d2 : Option Addr) (l1 l2 : Array (Option Value)) (k : Bool) :
    Meets (Builtin.«tuple.__gt__» ⟨[.ref p, .ref q], []⟩) (fun A R s => s.heap.get? p = some ⟨.type "tuple", d1, .seq us n, l1⟩ ∧ s.heap.get? q = some ⟨.type "tuple", d2, .seq vs m, l2⟩ ∧
      LexP .Gt A.in1 s (decide (us.size > vs.size)) (us.toList.zip vs.toList) k ∧ R (.ok (.ret (.bool k))) s) :=
  .of_wp fun prog w A R s0 h => by
    obtain ⟨hh, gg, dd, tt, oo⟩ := s0
    obtain ⟨hp, hq, hx, fin⟩ := h
    have sub := AutoSeq1.sub_tuple_tuple
    wp_walk using wpAny_loadPart' hp, wpAny_loadPart' hq, wpAny_forIn_list _ (fun r b s1 => b.1 = none ∧ s1 = ⟨hh, gg, dd, tt, oo⟩ ∧ LexP .Gt A.in1 ⟨hh, gg, dd, tt, oo⟩ (decide (us.size > vs.size)) r k) _
    case turn =>
      rintro ⟨x, y⟩ r b s1 ⟨hb, rfl, c⟩
      cases c with
      | same e c =>
        refine wpAny_bind (e prog w _ _ ?_)
        wp_walk
        exact ⟨rfl, rfl, c⟩
      | diff e c =>
        refine wpAny_bind (e prog w _ _ ?_)
        have c' := c prog w
        wp_walk using c'
        exact ⟨_, rfl, fin⟩
    case fin =>
      rintro ⟨b1, b2⟩ s1 ⟨hb, rfl, c⟩
      simp only at hb
      subst hb
      cases c
      wp_walk
      exact ⟨_, rfl, fin⟩
    case h => exact ⟨rfl, rfl, hx⟩
end
theorem rc_ltT {A : Around} {s : Shared} {p q : Addr} {us vs : Array Value} {k : Bool} (hp : s.heap.IsTuple p us) (hq : s.heap.IsTuple q vs) (hu : A.units < cLine) (hx : LexP .Lt A.in1 s (decide (us.size < vs.size)) (us.toList.zip vs.toList) k) :
    Ob.RcOp .Lt A s (.ref p) (.ref q) k := fun prog w E Q h => by
  obtain ⟨⟨c1, d1, t1, l1⟩, o1, e1, n, f1⟩ := id hp
  obtain ⟨⟨c2, d2, t2, l2⟩, o2, e2, m, f2⟩ := id hq
  simp only at e1 f1 e2 f2
  subst e1 f1 e2 f2
  exact PySem.richCompare_meets_room (op := .Lt) ⟨_, o1, rfl⟩ ⟨_, o2, rfl⟩ F.slot_tuple_lt F.entry_tuple_lt (F.args_tuple_lt_2 _ _) (lexLt p q us vs n m d1 d2 l1 l2 k) ⟨o1, o2, hx, (fun z => nomatch z), h⟩ hu
theorem rc_gtT {A : Around} {s : Shared} {p q : Addr} {us vs : Array Value} {k : Bool} (hp : s.heap.IsTuple p us) (hq : s.heap.IsTuple q vs) (hu : A.units < cLine) (hx : LexP .Gt A.in1 s (decide (us.size > vs.size)) (us.toList.zip vs.toList) k) :
    Ob.RcOp .Gt A s (.ref p) (.ref q) k := fun prog w E Q h => by
  obtain ⟨⟨c1, d1, t1, l1⟩, o1, e1, n, f1⟩ := id hp
  obtain ⟨⟨c2, d2, t2, l2⟩, o2, e2, m, f2⟩ := id hq
  simp only at e1 f1 e2 f2
  subst e1 f1 e2 f2
  exact PySem.richCompare_meets_room (op := .Gt) ⟨_, o1, rfl⟩ ⟨_, o2, rfl⟩ F.slot_tuple_gt F.entry_tuple_gt (F.args_tuple_gt_2 _ _) (lexGt p q us vs n m d1 d2 l1 l2 k) ⟨o1, o2, hx, (fun z => nomatch z), h⟩ hu
/-! ### the order of data: numbers, texts, tuples of them -/
mutual
inductive Cm : PyData → PyData → Ordering → Prop
  | ilt {i j : Int} : i < j → Cm (.int i) (.int j) .lt
  | ieq {i : Int} : Cm (.int i) (.int i) .eq
  | igt {i j : Int} : j < i → Cm (.int i) (.int j) .gt
  | slt {x y : Str} : x.cps.toList < y.cps.toList → Cm (.str x) (.str y) .lt
  | seq {x : Str} : Cm (.str x) (.str x) .eq
  | sgt {x y : Str} : y.cps.toList < x.cps.toList → Cm (.str x) (.str y) .gt
  | tup {ds es : List PyData} {o : Ordering} : CmL ds es o → Cm (.tuple ds) (.tuple es) o
inductive CmL : List PyData → List PyData → Ordering → Prop
  | nn : CmL [] [] .eq
  | nc {e : PyData} {es : List PyData} : CmL [] (e :: es) .lt
  | cn {d : PyData} {ds : List PyData} : CmL (d :: ds) [] .gt
  | same {d e : PyData} {ds es : List PyData} {o : Ordering} : Cm d e .eq → CmL ds es o → CmL (d :: ds) (e :: es) o
  | diff {d e : PyData} {ds es : List PyData} {o : Ordering} : Cm d e o → o ≠ .eq → CmL (d :: ds) (e :: es) o
end
theorem cps_ne {x y : Str} (h : x.cps.toList < y.cps.toList) : x ≠ y := fun e => by
  subst e
  exact List.lt_irrefl _ h
theorem lt_not {x y : Str} (h : x.cps.toList < y.cps.toList) : ¬ y.cps.toList < x.cps.toList := List.lt_asymm h
mutual
theorem Cm.eqv : ∀ {d e : PyData} {o : Ordering}, Cm d e o → PyData.eqv d e = (o == .eq)
  | _, _, _, .ilt h => by simp only [PyData.eqv]; exact decide_eq_false (by omega)
  | _, _, _, .ieq => by simp only [PyData.eqv]; exact decide_eq_true rfl
  | _, _, _, .igt h => by simp only [PyData.eqv]; exact decide_eq_false (by omega)
  | _, _, _, .slt h => by simp only [PyData.eqv]; exact decide_eq_false (cps_ne h)
  | _, _, _, .seq => by simp only [PyData.eqv]; exact decide_eq_true rfl
  | _, _, _, .sgt h => by simp only [PyData.eqv]; exact decide_eq_false (cps_ne h).symm
  | _, _, _, .tup h => by simp only [PyData.eqv]; exact CmL.eqv h
theorem CmL.eqv : ∀ {ds es : List PyData} {o : Ordering}, CmL ds es o → PyData.eqvAll ds es = (o == .eq)
  | _, _, _, .nn => by simp [PyData.eqvAll]
  | _, _, _, .nc => by simp [PyData.eqvAll]
  | _, _, _, .cn => by simp [PyData.eqvAll]
  | _, _, _, .same h t => by
    simp only [PyData.eqvAll, Cm.eqv h, CmL.eqv t]
    rfl
  | _, _, o, .diff h n => by
    simp only [PyData.eqvAll, Cm.eqv h]
    cases o with
    | eq => exact absurd rfl n
    | lt => rfl
    | gt => rfl
end
theorem Reads.tup {h : Heap} {v : Value} {ds : List PyData} {as : List Addr} (r : Reads h v (.tuple ds) as) : ∃ (a : Addr) (us : Array Value), v = .ref a ∧ h.IsTuple a us ∧ ReadsAll h us.toList ds as := by
  cases r with
  | tuple h1 h2 h3 h4 => exact ⟨_, _, rfl, ⟨_, h1, h2, _, h3⟩, h4⟩
mutual
theorem Cm.rc : ∀ {d e : PyData} {o : Ordering}, Cm d e o → ∀ {A : Around} {s : Shared} {u v : Value} {as bs : List Addr}, Reads s.heap u d as → Reads s.heap v e bs → PyData.canLay0 d = true → PyData.canLay0 e = true → A.units + PyData.depth d + 1 < cLine →
    Ob.RcOp .Lt A s u v (o == .lt) ∧ Ob.RcOp .Gt A s u v (o == .gt)
  | _, _, _, .ilt (i := i) (j := j) h, A, s, _, _, _, _, .int _ t, .int _ t', _, _, _ => by
    have a := Ob.RcOp.lt_int (A := A) (s := s) i j t t'
    have b := Ob.RcOp.gt_int (A := A) (s := s) i j t t'
    rw [decide_eq_true h] at a
    rw [decide_eq_false (by omega)] at b
    exact ⟨a, b⟩
  | _, _, _, .ieq (i := i), A, s, _, _, _, _, .int _ t, .int _ t', _, _, _ => by
    have a := Ob.RcOp.lt_int (A := A) (s := s) i i t t'
    have b := Ob.RcOp.gt_int (A := A) (s := s) i i t t'
    rw [decide_eq_false (by omega)] at a b
    exact ⟨a, b⟩
  | _, _, _, .igt (i := i) (j := j) h, A, s, _, _, _, _, .int _ t, .int _ t', _, _, _ => by
    have a := Ob.RcOp.lt_int (A := A) (s := s) i j t t'
    have b := Ob.RcOp.gt_int (A := A) (s := s) i j t t'
    rw [decide_eq_false (by omega)] at a
    rw [decide_eq_true h] at b
    exact ⟨a, b⟩
  | _, _, _, .slt h, A, s, _, _, _, _, .str _ t, .str _ t', _, _, _ =>
    ⟨fun prog w E Q q => PyProof.Rows.lt_str (by rw [decide_eq_true h]; exact q), fun prog w E Q q => PySem.P.gt_str (by rw [decide_eq_false (lt_not h)]; exact q)⟩
  | _, _, _, .seq, A, s, _, _, _, _, .str _ t, .str _ t', _, _, _ =>
    ⟨fun prog w E Q q => PyProof.Rows.lt_str (by rw [decide_eq_false (List.lt_irrefl _)]; exact q), fun prog w E Q q => PySem.P.gt_str (by rw [decide_eq_false (List.lt_irrefl _)]; exact q)⟩
  | _, _, _, .sgt h, A, s, _, _, _, _, .str _ t, .str _ t', _, _, _ =>
    ⟨fun prog w E Q q => PyProof.Rows.lt_str (by rw [decide_eq_false (lt_not h)]; exact q), fun prog w E Q q => PySem.P.gt_str (by rw [decide_eq_true h]; exact q)⟩
  | _, _, _, .tup h, A, s, _, _, _, _, ru, rv, lu, lv, hu => by
    obtain ⟨a, us, rfl, ta, ra⟩ := Reads.tup ru
    obtain ⟨b, vs, rfl, tb, rb⟩ := Reads.tup rv
    simp only [PyData.canLay0] at lu lv
    simp only [PyData.depth] at hu
    obtain ⟨c1, c2⟩ := CmL.rc h ra rb lu lv (A := A.in1) (by show A.units + 1 + _ + 1 < cLine; omega)
    exact ⟨rc_ltT ta tb (by omega) (by simpa using c1), rc_gtT ta tb (by omega) (by simpa using c2)⟩
theorem CmL.rc : ∀ {ds es : List PyData} {o : Ordering}, CmL ds es o → ∀ {A : Around} {s : Shared} {us vs : List Value} {as bs : List Addr}, ReadsAll s.heap us ds as → ReadsAll s.heap vs es bs → PyData.canLayAll0 ds = true → PyData.canLayAll0 es = true → A.units + PyData.depthAll ds + 1 < cLine →
    LexP .Lt A s (decide (us.length < vs.length)) (us.zip vs) (o == .lt) ∧ LexP .Gt A s (decide (us.length > vs.length)) (us.zip vs) (o == .gt)
  | _, _, _, .nn, _, _, _, _, _, _, .nil, .nil, _, _, _ => ⟨.done, .done⟩
  | _, _, _, .nc, _, _, _, _, _, _, .nil, .cons _ _, _, _, _ => by
    refine ⟨?_, ?_⟩
    · rw [decide_eq_true (by simp)]; exact .done
    · rw [decide_eq_false (by simp)]; exact .done
  | _, _, _, .cn, _, _, _, _, _, _, .cons _ _, .nil, _, _, _ => by
    refine ⟨?_, ?_⟩
    · rw [decide_eq_false (by simp)]; exact .done
    · rw [decide_eq_true (by simp)]; exact .done
  | _, _, _, .same h t, A, s, _, _, _, _, .cons r1 q1, .cons r2 q2, l1, l2, hu => by
    simp only [PyData.canLayAll0, Bool.and_eq_true] at l1 l2
    simp only [PyData.depthAll] at hu
    have e := SeqAt.eqAt_reads _ _ A s _ _ _ _ r1 r2 l1.1 l2.1 (by omega)
    rw [Cm.eqv h] at e
    obtain ⟨c1, c2⟩ := CmL.rc t q1 q2 l1.2 l2.2 (A := A) (by omega)
    refine ⟨?_, ?_⟩
    · rw [List.zip_cons_cons, List.length_cons, List.length_cons, show decide (_ + 1 < _ + 1) = decide (_ < _) from decide_eq_decide.mpr Nat.add_lt_add_iff_right]
      exact .same e c1
    · rw [List.zip_cons_cons, List.length_cons, List.length_cons, show decide (_ + 1 > _ + 1) = decide (_ > _) from decide_eq_decide.mpr Nat.add_lt_add_iff_right]
      exact .same e c2
  | _, _, o, .diff h n, A, s, _, _, _, _, .cons r1 q1, .cons r2 q2, l1, l2, hu => by
    simp only [PyData.canLayAll0, Bool.and_eq_true] at l1 l2
    simp only [PyData.depthAll] at hu
    have e := SeqAt.eqAt_reads _ _ A s _ _ _ _ r1 r2 l1.1 l2.1 (by omega)
    rw [Cm.eqv h, show (o == Ordering.eq) = false by cases o <;> first | rfl | exact absurd rfl n] at e
    obtain ⟨c1, c2⟩ := Cm.rc h r1 r2 l1.1 l2.1 (A := A) (by omega)
    exact ⟨.diff e c1, .diff e c2⟩
end
def rLtC (K : PySem.W.Frag) : R2 := fun x y H Q => ∃ d e o, Dp K H x d ∧ Dp K H y e ∧ Cm d e o ∧ SeqAt.shaped d = true ∧ SeqAt.shaped e = true ∧ Q (.bl (o == .lt)) H
def rGtC (K : PySem.W.Frag) : R2 := fun x y H Q => ∃ d e o, Dp K H x d ∧ Dp K H y e ∧ Cm d e o ∧ SeqAt.shaped d = true ∧ SeqAt.shaped e = true ∧ Q (.bl (o == .gt)) H
theorem op_ltC {X : Cx} (hu : X.A.units + 70 < cLine) (K : PySem.W.Frag) (hK : X.K = K := by rfl) : OpR X (compareOp .Lt) (rLtC K) := by
  subst hK
  intro pins s σ H x y v u Q I rx ry h
  obtain ⟨d, e, o, hd, he, c, sd, se, q⟩ := h
  obtain ⟨as, r1⟩ := Dp.reads I d x v hd rx
  obtain ⟨bs, r2⟩ := Dp.reads I e y u he ry
  have z := (Cm.rc c r1 r2 (SeqAt.canLay_of_shaped sd) (SeqAt.canLay_of_shaped se) (A := X.A) (by have := SeqAt.depth_of_shaped sd; omega)).1
  exact z X.prog X.w X.xe (EP X pins σ Q) ⟨.bl _, H, I, rfl, q⟩
theorem op_gtC {X : Cx} (hu : X.A.units + 70 < cLine) (K : PySem.W.Frag) (hK : X.K = K := by rfl) : OpR X (compareOp .Gt) (rGtC K) := by
  subst hK
  intro pins s σ H x y v u Q I rx ry h
  obtain ⟨d, e, o, hd, he, c, sd, se, q⟩ := h
  obtain ⟨as, r1⟩ := Dp.reads I d x v hd rx
  obtain ⟨bs, r2⟩ := Dp.reads I e y u he ry
  have z := (Cm.rc c r1 r2 (SeqAt.canLay_of_shaped sd) (SeqAt.canLay_of_shaped se) (A := X.A) (by have := SeqAt.depth_of_shaped sd; omega)).2
  exact z X.prog X.w X.xe (EP X pins σ Q) ⟨.bl _, H, I, rfl, q⟩
section
variable {M M' : List Addr} {H : Hp} {x v : V} {d e : PyData} {o : Ordering} {K : PySem.W.Frag} {Q : VK} {n m : Nat}
theorem rd_ltC (h : Is M H x d) (k : Is M' H v e) (c : Cm d e o) (s1 : Sh n d) (s2 : Sh m e) (q : Q (.bl (o == .lt)) H) (h1 : n ≤ 64 := by decide) (h2 : m ≤ 64 := by decide) : rLtC K x v H Q := ⟨d, e, o, h.dp, k.dp, c, s1.ok h1, s2.ok h2, q⟩
theorem rd_gtC (h : Is M H x d) (k : Is M' H v e) (c : Cm d e o) (s1 : Sh n d) (s2 : Sh m e) (q : Q (.bl (o == .gt)) H) (h1 : n ≤ 64 := by decide) (h2 : m ≤ 64 := by decide) : rGtC K x v H Q := ⟨d, e, o, h.dp, k.dp, c, s1.ok h1, s2.ok h2, q⟩
theorem rd_eqC (h : Is M H x d) (k : Is M' H v e) (c : Cm d e o) (s1 : Sh n d) (s2 : Sh m e) (q : Q (.bl (o == .eq)) H) (h1 : n ≤ 64 := by decide) (h2 : m ≤ 64 := by decide) : rEqD K x v H Q := rd_eqD h k (s1.ok h1) (s2.ok h2) (by rw [c.eqv]; exact q)
end
theorem Sh.str {n : Nat} {x : Str} (h : PyData.strOk x = true) : Sh n (.str x) := ⟨by simp [PyData.canLay0, h], by simp [PyData.depth]⟩
/-- two numbers, two texts -/
def rLtV : R2 := fun x y H Q => (∃ i j, x = .int i ∧ y = .int j ∧ Q (.bl (decide (i < j))) H) ∨ ∃ i j, x = .str i ∧ y = .str j ∧ Q (.bl (decide (i.cps.toList < j.cps.toList))) H
theorem op_ltV {X : Cx} : OpR X (compareOp .Lt) rLtV := by
  intro pins s σ H x y v u Q I rx ry h
  rcases h with h | h
  · exact op_lt pins s σ H x y v u Q I rx ry h
  · exact op_lt_str pins s σ H x y v u Q I rx ry h
def rMulS : R2 := fun x y H Q => ∃ z n, x = .str z ∧ y = .int n ∧ MulOk z n ∧ Q (.str (Txt.mul z n)) H
theorem op_mulS {X : Cx} : OpR X (binaryOp .Mult) rMulS := by
  intro pins s σ H x y v u Q I rx ry h
  obtain ⟨z, n, rfl, rfl, ok, q⟩ := h
  obtain ⟨t, rfl⟩ := (show ∃ t, v = Value.str z t from rx)
  obtain ⟨t', rfl⟩ := (show ∃ t, u = Value.int n t from ry)
  exact PySem.SB.mul ok fun t' k => ⟨.str _, H, I.tok _, ⟨_, rfl⟩, q⟩
def qTupleOf (K : PySem.W.Frag) : List V → Hp → VK → Prop := fun xs H Q => ∃ p ys, xs = [.ref p] ∧ ((SqL K H p ys ∧ ∀ l, H l = none → Q (.ref l) (upd H l (.tup ys))) ∨ (SqT K H p ys ∧ Q (.ref p) H))
theorem call_tupK {X : Cx} (K : PySem.W.Frag) (hK : X.K = K := by rfl) : CallR X (.type "tuple") (qTupleOf K) := hK ▸ call_tuple_of
section
variable {M : List Addr} {H : Hp} {Q : VK} {K : PySem.W.Frag} {a : Addr} {ds : List PyData} {xs : List V} {σ : L2.St} {to te : TE}
theorem rd_dtuple (s : Al M H) (h : Is M H (.ref a) (.list ds)) (q : ∀ p H', H p = none → Ext [] H H' → Is M H' (.ref p) (.tuple ds) → Q (.ref p) H') : qTupleOf K [.ref a] H Q := by
  obtain ⟨xs, _, hx, r⟩ := h.list
  exact ⟨a, xs, rfl, .inl ⟨SqL.of hx, fun l hl => q l _ hl (.new hl) (new_tup s r hl)⟩⟩
theorem rd_m1 {r : V → List V → Hp → VK → Prop} (q : to σ H fun x H1 => (∃ a, x = .str a) ∧ te σ H1 fun y H2 => r x [y] H2 Q) : tM1 r to te σ H Q := q
theorem rd_ixS {z : Str} {i : Int} {j : Nat} {c : Nat} (hz : z.length ≤ 100000) (hj : i = (j : Int)) (h : z.cps.toList[j]? = some c) (q : Q (.str ⟨#[c]⟩) H) : rIxS (.str z) (.int i) H Q := by
  subst hj
  exact ⟨z, _, c, rfl, rfl, szL hz, atI_nat h, q⟩
/-- one of a written list of anything -/
theorem rd_pickV {P : V → Prop} {i : Int} {j : Nat} (h : H a = some (.lst xs)) (hi : i = (j : Int)) (hv : j < xs.length) (hP : ∀ x ∈ xs, P x) (q : ∀ x, P x → Q x H) : rIxL K (.ref a) (.int i) H Q := by
  subst hi
  exact rd_ixL (SqL.of h) (atI_nat (List.getElem?_eq_getElem hv)) (q _ (hP _ (List.getElem_mem hv)))
end
theorem IsAll.ofStrs {M : List Addr} {H : Hp} : ∀ {vs : List V} {xs : List Str}, IsAll M H vs (xs.map PyData.str) → vs = xs.map V.str
  | _, [], h => by cases h; rfl
  | _, n :: ns, h => by
    cases h with
    | cons h r => cases h; rw [IsAll.ofStrs r]; rfl
theorem u70 {k : Nat} {A : Around} (r : Room k A) : A.units + 70 < cLine := by have := r.un; omega
section
variable {N M : List Addr} {H0 H : Hp} {a D : Addr} {K : PySem.W.Frag} {j : Nat} {vs : List Nat} {te : TE} {tt : TT} {σ : L2.St} {Q : VK} {α : Type} {L : List α} {g : α → PyData}
/-- [e for x in a tuple] -/
theorem q_lcTM (f : α → PyData) (s : Al M H0) (hD : H0 D = none) (h : Is M H0 (.ref a) (.tuple (L.map g))) (hn : L.length ≤ 100000) (hw : ∀ x, wipe ((wipe σ vs).set j (some x)) vs = wipe σ vs)
    (he : ∀ (x : V) (y : α) H', y ∈ L → Al (D :: M) H' → Ext [] H0 H' → Is (D :: M) H' x (g y) → ∀ R : VK, (∀ w H'', Ext [] H' H'' → Is (D :: M) H'' w (f y) → R w H'') → te ((wipe σ vs).set j (some x)) H' R)
    (hd : ∀ H', Ext [] H0 H' → Is M H' (.ref D) (.list (L.map f)) → Q (.ref D) H') : qLc (Itt K a) (gName j) tYes te vs σ D H0 Q := by
  obtain ⟨xs, na, hx, r⟩ := h.tuple
  have hlen : xs.length = L.length := by rw [r.length, List.length_map]
  refine lc_tup (xs := xs) (fun i H' => MadeN [] M H0 D ((L.take i).map f) H') (MadeN.start (by simp) s hD) (fun i H' _ m => ?_) (fun i x H' hi m => ?_) fun H' m => ?_
  · exact SqT.of (m.ext.keep _ _ (by simp) hx)
  · obtain ⟨d, hd', iv⟩ := r.got hi
    rw [List.getElem?_map] at hd'
    cases hy : L[i]? with
    | none => rw [hy] at hd'; cases hd'
    | some y =>
      rw [hy] at hd'
      cases hd'
      refine ⟨hw _, rd_yes ?_⟩
      refine iteT ?_
      refine he x y H' (List.mem_of_getElem? hy) (m.al s) m.ext (m.ofs iv) _ fun w H'' e1 i1 => ?_
      obtain ⟨acc, h1, h2, m'⟩ := m.step e1 i1 (by
        have : i < L.length := (List.getElem?_eq_some_iff.mp hy).1
        rw [List.length_map, List.length_take]
        omega)
      refine ⟨acc, h1, h2, ?_⟩
      rw [take_snoc hy, List.map_append]
      exact m'
  · rw [hlen, List.take_length] at m
    exact hd H' m.ext m.is
end
def tnB (K : PySem.W.Frag) (x : Str) : Bool := match K.lookup (He.ga K x) with
  | some ⟨.type c, none, _, _⟩ => decide (c = "tuple")
  | _ => false
theorem tnB_ok {K : PySem.W.Frag} {x : Str} (h : tnB K x = true) : ∃ o, K.lookup (He.ga K x) = some o ∧ o.cls = .type "tuple" ∧ o.dict = none := by
  unfold tnB at h
  cases q : K.lookup (He.ga K x) with
  | none => rw [q] at h; cases h
  | some o =>
    obtain ⟨oc, od, dt, osl⟩ := o
    rw [q] at h
    cases oc with
    | type c =>
      cases od with
      | none => exact ⟨_, rfl, congrArg Value.type (of_decide_eq_true h), rfl⟩
      | some _ => cases h
    | _ => cases od <;> cases h
section
variable {K : PySem.W.Frag} {H : Hp} {σ : L2.St} {R : L2.St → Hp → Prop} {a : Addr} {xs r : List V} {v : V} {g : TG} {gs : TGs} {n : Nat}
theorem rd_gnil (q : R σ H) : gNil [] σ H R := ⟨rfl, q⟩
theorem rd_gcons (q : g v σ H fun σ' H' => gs r σ' H' R) : gCons g gs (v :: r) σ H R := ⟨v, r, rfl, q⟩
theorem rd_gtup (h : SqT K H a xs) (hn : xs.length = n) (q : gs xs σ H R) : gTup K n gs (.ref a) σ H R := ⟨a, xs, rfl, h, hn, q⟩
end
/-- f is a text's method call, index of a text -/
theorem rd_mulS {H : Hp} {Q : VK} {z : Str} {n : Int} (h : MulOk z n) (q : Q (.str (Txt.mul z n)) H) : rMulS (.str z) (.int n) H Q := ⟨z, n, rfl, rfl, h, q⟩
section
variable {K : PySem.W.Frag} {H : Hp} {Q : VK} {p : Addr} {u v w : V} {r : List V}
theorem rd_ixT0 (h : SqT K H p (v :: r)) (q : Q v H) : rIxT K (.ref p) (.int 0) H Q := rd_ixT h (atI_nat (j := 0) rfl) q
theorem rd_ixT1 (h : SqT K H p (u :: v :: r)) (q : Q v H) : rIxT K (.ref p) (.int 1) H Q := rd_ixT h (atI_nat (j := 1) rfl) q
theorem rd_ixT2 (h : SqT K H p (u :: w :: v :: r)) (q : Q v H) : rIxT K (.ref p) (.int 2) H Q := rd_ixT h (atI_nat (j := 2) rfl) q
end
theorem iteB {b : Bool} {A B : Prop} (h : b = true) (q : A) : if b = true then A else B := by rw [if_pos h]; exact q
theorem iteBn {b : Bool} {A B : Prop} (h : b = false) (q : B) : if b = true then A else B := by rw [if_neg (by rw [h]; exact Bool.false_ne_true)]; exact q
theorem rd_tcut0 {M : List Addr} {H : Hp} {Q : VK} {K : PySem.W.Frag} {a : Addr} {ds : List PyData} {hi : Int} {h : Nat} (s : Al M H) (i : Is M H (.ref a) (.tuple ds)) (hh : hi = (h : Int)) (hlt : h < ds.length) (q : ∀ p H', H p = none → Ext [] H H' → Is M H' (.ref p) (.tuple (ds.take h)) → Q (.ref p) H') : rSlT K (.ref a) none (some hi) H Q := by
  subst hh
  obtain ⟨xs, _, hx, r⟩ := i.tuple
  have hl := r.length
  refine ⟨a, xs, rfl, SqT.of hx, fun z => ?_, fun p hp => q p _ hp (.new hp) (new_tup s r.cut0 hp)⟩
  have z2 := z.2
  rw [HT.sIx_nat] at z2
  omega
theorem StAt.updN {H A : Hp} {p l D : Addr} {o : HO} (h : StAt H p l) (hD : H D = none) (s : StAt A p l) : StAt (upd A D o) p l :=
  s.ext (M := [D]) (.set (List.mem_cons_self ..)) (fun z => h.al (by rw [List.mem_singleton.mp z]; exact hD)) (fun z => h.al2 (by rw [List.mem_singleton.mp z]; exact hD))
/-- t + u, whatever is empty -/
def rCatT0 (K : PySem.W.Frag) : R2 := fun x y H Q => ∃ a b xs ys, x = .ref a ∧ y = .ref b ∧ SqT K H a xs ∧ SqT K H b ys ∧ xs.length + ys.length ≤ sizeLine ∧ (xs = [] → Q (.ref b) H) ∧ (xs ≠ [] → ys = [] → Q (.ref a) H) ∧
  (xs ≠ [] → ys ≠ [] → ∀ p, H p = none → Q (.ref p) (upd H p (.tup (xs ++ ys))))
theorem op_catT0 {X : Cx} (K : PySem.W.Frag) (hK : X.K = K := by rfl) : OpR X (binaryOp .Add) (rCatT0 K) := by
  subst hK
  intro pins s σ H x y v u Q I rx ry h
  obtain ⟨a, b, xs, ys, rfl, rfl, ha, hb, hz, q1, q2, q3⟩ := h
  by_cases hx : xs = []
  · subst hx
    cases rx
    cases ry
    obtain ⟨its, r1, p1, _⟩ := I.tuple ha
    obtain ⟨its2, r2, p2, _⟩ := I.tuple hb
    cases r1
    obtain ⟨⟨c1, d1, t1, l1⟩, o1, f1, n, g1⟩ := id p1
    obtain ⟨⟨c2, d2, t2, l2⟩, o2, f2, m, g2⟩ := id p2
    simp only at f1 g1 f2 g2
    subst f1 g1 f2 g2
    exact concat_meets ⟨_, o1, rfl⟩ ⟨_, o2, rfl⟩ noFill_tuple_add seq_tuple_add F.slot_tuple_add F.entry_tuple_add (F.args_tuple_add_2 _ _) (tuple_addW0 a b _ _ n m d1 d2 l1 l2 (by simp)) ⟨o1, o2, ⟨.ref b, H, I, rfl, q1 rfl⟩⟩
  · exact op_catT pins s σ H _ _ v u Q I rx ry ⟨a, b, xs, ys, rfl, rfl, ha, hb, hx, hz, q2 hx, q3 hx⟩
theorem rd_dcatT0 {K : PySem.W.Frag} {H : Hp} {Q : VK} {M : List Addr} {a b : Addr} {ds es : List PyData} (s : Al M H) (h : Is M H (.ref a) (.tuple ds)) (k : Is M H (.ref b) (.tuple es)) (hz : ds.length + es.length ≤ 100000)
    (q : ∀ p H', Ext [] H H' → Is M H' (.ref p) (.tuple (ds ++ es)) → Q (.ref p) H') : rCatT0 K (.ref a) (.ref b) H Q := by
  obtain ⟨xs, _, hx, r⟩ := h.tuple
  obtain ⟨ys, _, hy, r'⟩ := k.tuple
  refine ⟨a, b, xs, ys, rfl, rfl, SqT.of hx, SqT.of hy, szL (by rw [r.length, r'.length]; exact hz), fun e => ?_, fun _ e => ?_, fun _ _ p hp => q p _ (.new hp) (new_tup s (r.append r') hp)⟩
  · subst e
    cases r
    exact q b H .refl k
  · subst e
    cases r'
    rw [List.append_nil] at q
    exact q a H .refl h
def rAddSt : R2 := fun x y H Q => ∃ i j, x = .str i ∧ y = .str j ∧ i.length + j.length ≤ sizeLine ∧ Q (.str (i ++ j)) H
theorem op_addSt {X : Cx} : OpR X (binaryOp .Add) rAddSt := op_add_str
/-! ### abs of a truth value; membership in tuples of anything; whole slices of tuples; while; texts walked -/
theorem slot_bool_abs : Slot "bool" "__abs__" "int.__abs__" :=
  .of (owner := "int") (n := "__abs__") (by rw [typeLookup_type, builtinLookup_eq_fast]; kernel_rfl) (by decide +kernel) (by decide +kernel)
    (by decide +kernel) (by first | exact .inl (by decide +kernel) | exact .inr (by decide +kernel)) (by rw [isSubtype_type]; kernel_rfl)
section
open PySem.Calls
theorem abs_bool {prog : Program} {w : World} {A : Around} {E : Value → Shared → Prop} {s : Shared} {b : Bool} {Q : Value → Shared → Prop} (h : ∀ u tk, Q (.int (if b then 1 else 0) u) { s with toks := tk }) : wpAny (model prog w) A (call (.builtin "abs") [.bool b]) Q E s := by
  refine call_function_entry PyProof.Rows.kind_abs PyProof.Rows.plain_abs PyProof.Rows.entry_abs (PyProof.Rows.args_abs _) ?_
  unfold Builtin.«abs»
  refine wpAny_bind (m := oneArg "abs" _) (wpAny_pure ?_)
  refine wpAny_bind (m := callSpecial? (.bool b) (Str.ofString "__abs__")) (wpAny_callSpecial?_slot (name := Str.ofString "__abs__") (show s.TypeIs (.bool b) "bool" from rfl) slot_bool_abs (wpAny_call_entry slot_bool_abs (show s.TypeIs (.bool b) "bool" from rfl) PyProof.Rows.entry_int_abs ?_ (PyProof.Rows.args_int_abs _)))
  have h' := h s.toks (s.toks + 1)
  cases b <;> exact wpAny_ret_mkInt (wpAny_pure ⟨_, rfl, h'⟩)
end
def qAbs : List V → Hp → VK → Prop := fun xs H Q => (∃ i, xs = [.int i] ∧ Q (.int (if i < 0 then -i else i)) H) ∨ ∃ b, xs = [.bl b] ∧ Q (.int (if b then 1 else 0)) H
theorem call_absq {X : Cx} : CallR X (.builtin "abs") qAbs := by
  intro pins s σ H xs us Q I r h
  rcases h with h | ⟨b, rfl, q⟩
  · exact call_abs pins s σ H xs us Q I r h
  · obtain ⟨u, rfl, ru⟩ := vals1 r
    cases (show u = Value.bool b from ru)
    exact abs_bool fun u tk => ⟨.int (if b then 1 else 0), H, I.tok _, ⟨_, rfl⟩, q⟩
def rNotInDT (K : PySem.W.Frag) : R2 := fun x y H Q => ∃ d ds, Dp K H x d ∧ Dp K H y (.tuple ds) ∧ SeqAt.shaped d = true ∧ SeqAt.shaped (.tuple ds) = true ∧ Q (.bl (!ds.any fun z => PyData.eqv z d)) H
theorem op_notInDT {X : Cx} (hu : X.A.units + 70 < cLine) (K : PySem.W.Frag) (hK : X.K = K := by rfl) : OpR X (compareOp .NotIn) (rNotInDT K) := by
  subst hK
  intro pins s σ H x y v u Q I rx ry h
  obtain ⟨d, ds, hd, he, sd, se, q⟩ := h
  obtain ⟨as, r1⟩ := Dp.reads I d x v hd rx
  obtain ⟨bs, r2⟩ := Dp.reads I (.tuple ds) y u he ry
  have h1 := SeqAt.depth_of_shaped sd
  have h2 := SeqAt.canLay_of_shaped se
  simp only [PyData.canLay0] at h2
  exact SeqAt.notIn_tuple_reads r2 r1 h2 (SeqAt.canLay_of_shaped sd) (by omega) ⟨.bl _, H, I, rfl, q⟩
def qOrd : List V → Hp → VK → Prop := fun xs H Q => ∃ x, xs = [.str x] ∧ x.length = 1 ∧ Q (.int (x.cps.getD 0 0 : Nat)) H
theorem call_ordq {X : Cx} : CallR X (.builtin "ord") qOrd := call_ord
def rLeSt : R2 := fun x y H Q => ∃ i j, x = .str i ∧ y = .str j ∧ Q (.bl (!decide (j.cps.toList < i.cps.toList))) H
theorem op_leSt {X : Cx} : OpR X (compareOp .LtE) rLeSt := op_le_str
section
variable {M : List Addr} {H : Hp} {Q : VK} {K : PySem.W.Frag} {a : Addr} {ds : List PyData} {σ : L2.St} {c : TT} {tb : TS} {D : Ends}
theorem rd_absI {i : Int} (q : Q (.int (if i < 0 then -i else i)) H) : qAbs [.int i] H Q := .inl ⟨i, rfl, q⟩
theorem rd_absB {b : Bool} (q : Q (.int (if b then 1 else 0)) H) : qAbs [.bl b] H Q := .inr ⟨b, rfl, q⟩
theorem rd_ord {c : Nat} (q : Q (.int (c : Nat)) H) : qOrd [.str ⟨#[c]⟩] H Q := ⟨_, rfl, rfl, q⟩
theorem rd_leSt {i j : Str} (q : Q (.bl (!decide (j.cps.toList < i.cps.toList))) H) : rLeSt (.str i) (.str j) H Q := ⟨i, j, rfl, rfl, q⟩
theorem rd_notInDT {x y : V} {d : PyData} (h : Is M H x d) (k : Dp K H y (.tuple ds)) (s1 : SeqAt.shaped d = true) (s2 : SeqAt.shaped (.tuple ds) = true) (q : Q (.bl (!ds.any fun z => PyData.eqv z d)) H) : rNotInDT K x y H Q := ⟨d, ds, h.dp, k, s1, s2, q⟩
/-- slices of data -/
def cutD (ds : List PyData) (lo hi : Option Int) : List PyData := (ds.drop (HT.sIx ds.length 0 lo)).take (HT.sIx ds.length ds.length hi - HT.sIx ds.length 0 lo)
theorem cutD_take (ds : List PyData) (h : Nat) : cutD ds none (some (h : Int)) = ds.take h := by
  unfold cutD
  rw [HT.sIx_none, HT.sIx_nat, List.drop_zero, Nat.sub_zero]
  by_cases z : h ≤ ds.length
  · rw [Nat.min_eq_left z]
  · rw [Nat.min_eq_right (by omega), List.take_length, List.take_of_length_le (by omega)]
theorem cutD_drop (ds : List PyData) (l : Nat) : cutD ds (some (l : Int)) none = ds.drop l := by
  unfold cutD
  rw [HT.sIx_nat, HT.sIx_none]
  by_cases z : l ≤ ds.length
  · rw [Nat.min_eq_left z, List.take_of_length_le (by rw [List.length_drop]; omega)]
  · rw [Nat.min_eq_right (by omega), Nat.sub_self, List.take_zero, List.drop_of_length_le (by omega)]
theorem IsAll.cutA {M : List Addr} {H : Hp} {xs : List V} {ds : List PyData} (lo hi : Option Int) (r : IsAll M H xs ds) : IsAll M H (cutV xs lo hi) (cutD ds lo hi) := by
  unfold cutV cutD
  rw [r.length]
  exact (r.drop _).take _
theorem rd_tcutA {lo hi : Option Int} (s : Al M H) (i : Is M H (.ref a) (.tuple ds)) (q : ∀ p H', Ext [] H H' → Is M H' (.ref p) (.tuple (cutD ds lo hi)) → Q (.ref p) H') : rSlA K (.ref a) lo hi H Q := by
  obtain ⟨xs, _, hx, r⟩ := i.tuple
  refine ⟨a, xs, rfl, SqT.of hx, fun w => ?_, fun _ p hp => q p _ (.new hp) (new_tup s (r.cutA lo hi) hp)⟩
  have e : cutD ds lo hi = ds := by
    unfold cutD
    rw [← r.length, w.1, w.2, List.drop_zero, Nat.sub_zero, List.take_of_length_le (by rw [r.length]; exact Nat.le_refl _)]
  rw [e] at q
  exact q a H .refl i
end
theorem sl_tupAK {X : Cx} (K : PySem.W.Frag) (hK : X.K = K := by rfl) : SlR X (rSlA K) := hK ▸ sl_tupA
section
variable {M : List Addr} {H0 H : Hp} {a D : Addr} {K : PySem.W.Frag} {j : Nat} {vs : List Nat} {te : TE} {tt : TT} {σ : L2.St} {Q : VK} {ds : List PyData}
/-- [sign for sign in a text if test] -/
theorem q_lcS (p : Nat → Bool) {x : Str} (s : Al M H0) (hD : H0 D = none) (hn : x.length ≤ 100000) (hw : ∀ v, wipe ((wipe σ vs).set j (some v)) vs = wipe σ vs)
    (ht : ∀ c H', c ∈ x.cps.toList → Al (D :: M) H' → Ext [] H0 H' → ∀ R : Bool → Hp → Prop, (∀ H'', Ext [] H' H'' → R (p c) H'') → tt ((wipe σ vs).set j (some (.str ⟨#[c]⟩))) H' R)
    (he : ∀ c H' (R : VK), R (.str ⟨#[c]⟩) H' → te ((wipe σ vs).set j (some (.str ⟨#[c]⟩))) H' R)
    (hd : ∀ H', Ext [] H0 H' → Is M H' (.ref D) (.list ((x.cps.toList.filter p).map fun c => .str ⟨#[c]⟩)) → Q (.ref D) H') : qLc (Its x) (gName j) tt te vs σ D H0 Q := by
  have hsz : x.cps.toList.length = x.cps.size := by simp
  have hn' : x.cps.size ≤ 100000 := hn
  refine ⟨fun i m H' => m = x.cps.size - i ∧ i ≤ x.cps.size ∧ MadeN [] M H0 D (((x.cps.toList.take i).filter p).map fun c => .str ⟨#[c]⟩) H', ⟨_, rfl, Nat.zero_le _, by rw [List.take_zero]; exact MadeN.start (by simp) s hD⟩, ?_⟩
  rintro i m H' ⟨rfl, hi, mk⟩
  by_cases hlt : i < x.cps.size
  · refine .inr ⟨hlt, fun H'' => MadeN [] M H0 D (((x.cps.toList.take (i + 1)).filter p).map fun c => .str ⟨#[c]⟩) H'', fun H'' mm => ⟨x.cps.size - (i + 1), by omega, rfl, hlt, mm⟩, ?_⟩
    rintro v H'' ⟨rfl, c, hc, rfl⟩
    have hc' : x.cps.toList[i]? = some c := by rw [Array.getElem?_toList]; exact hc
    refine ⟨hw _, ht c _ (List.mem_of_getElem? hc') (mk.al s) mk.ext _ fun H2 e2 => ?_⟩
    rw [take_snoc hc', List.filter_append, List.map_append]
    have hlen : (((x.cps.toList.take i).filter p).map fun c => PyData.str ⟨#[c]⟩).length < 100000 := by
      have z := List.length_filter_le p (x.cps.toList.take i)
      rw [List.length_take] at z
      rw [List.length_map]
      omega
    cases hp : p c with
    | true =>
      refine iteT (he c H2 _ ?_)
      obtain ⟨acc, h1, h2, m'⟩ := mk.step (d := .str ⟨#[c]⟩) e2 (.str _) hlen
      refine ⟨acc, h1, h2, ?_⟩
      rw [List.filter_cons, if_pos hp]
      exact m'
    | false =>
      refine iteF ?_
      rw [List.filter_cons, if_neg (by rw [hp]; exact Bool.false_ne_true)]
      show MadeN [] M H0 D (_ ++ []) H2
      rw [List.append_nil]
      exact mk.go e2
  · have e : i = x.cps.size := by omega
    subst e
    rw [← hsz, List.take_length] at mk
    exact .inl ⟨Nat.le_refl _, hd H' mk.ext mk.is⟩
/-- [x for x in a tuple if test] -/
theorem q_lcFT (p : PyData → Bool) (s : Al M H0) (hD : H0 D = none) (h : Is M H0 (.ref a) (.tuple ds)) (hn : ds.length ≤ 100000) (hw : ∀ x, wipe ((wipe σ vs).set j (some x)) vs = wipe σ vs)
    (ht : ∀ (x : V) (d : PyData) H', d ∈ ds → Al (D :: M) H' → Ext [] H0 H' → Is (D :: M) H' x d → ∀ R : Bool → Hp → Prop, (∀ H'', Ext [] H' H'' → R (p d) H'') → tt ((wipe σ vs).set j (some x)) H' R)
    (he : ∀ (x : V) H' (R : VK), R x H' → te ((wipe σ vs).set j (some x)) H' R)
    (hd : ∀ H', Ext [] H0 H' → Is M H' (.ref D) (.list (ds.filter p)) → Q (.ref D) H') : qLc (Itt K a) (gName j) tt te vs σ D H0 Q := by
  obtain ⟨xs, na, hx, r⟩ := h.tuple
  refine lc_tup (xs := xs) (fun i H' => MadeN [] M H0 D ((ds.take i).filter p) H') (MadeN.start (by simp) s hD) (fun i H' _ m => SqT.of (m.ext.keep _ _ (by simp) hx)) (fun i x H' hi m => ?_) fun H' m => hd H' m.ext (by have z := m.is; rw [r.length, List.take_length] at z; exact z)
  obtain ⟨d, hd', iv⟩ := r.got hi
  have hlt : i < ds.length := (List.getElem?_eq_some_iff.mp hd').1
  refine ⟨hw _, ?_⟩
  refine ht x d H' (List.mem_of_getElem? hd') (m.al s) m.ext (m.ofs iv) _ fun H2 e2 => ?_
  rw [take_snoc hd', List.filter_append]
  cases hp : p d with
  | true =>
    refine iteT (he x H2 _ ?_)
    obtain ⟨acc, h1, h2, m'⟩ := m.step (d := d) e2 ((m.ofs iv).mono e2.any) (by
      have z := List.length_filter_le p (ds.take i)
      rw [List.length_take] at z
      omega)
    refine ⟨acc, h1, h2, ?_⟩
    rw [List.filter_cons, if_pos hp]
    exact m'
  | false =>
    refine iteF ?_
    rw [List.filter_cons, if_neg (by rw [hp]; exact Bool.false_ne_true)]
    show MadeN [] M H0 D (_ ++ []) H2
    rw [List.append_nil]
    exact m.go e2
end
theorem sign_lt (c k : Nat) : decide ((⟨#[c]⟩ : Str).cps.toList < (⟨#[k]⟩ : Str).cps.toList) = decide (c < k) := by
  show decide ([c] < [k]) = _
  refine decide_eq_decide.mpr ?_
  rw [List.cons_lt_cons_iff]
  simp
theorem rd_lenS {H : Hp} {Q : VK} {z : Str} (hz : z.length ≤ 100000) (q : Q (.int z.length) H) : qLenS [.str z] H Q := ⟨z, rfl, szL hz, q⟩
theorem rd_leA {H : Hp} {Q : VK} {c : Nat} (q : Q (.bl (decide (97 ≤ c))) H) : rLeSt (.str "a") (.str ⟨#[c]⟩) H Q := by
  refine rd_leSt ?_
  have e : decide ((⟨#[c]⟩ : Str).cps.toList < ("a" : Str).cps.toList) = decide (c < 97) := sign_lt c 97
  rw [e]
  have e2 : (!decide (c < 97)) = decide (97 ≤ c) := by
    by_cases h : c < 97
    · rw [decide_eq_true h, decide_eq_false (by omega)]; rfl
    · rw [decide_eq_false h, decide_eq_true (by omega)]; rfl
  rw [e2]
  exact q
theorem rd_leZ {H : Hp} {Q : VK} {c : Nat} (q : Q (.bl (decide (c ≤ 122))) H) : rLeSt (.str ⟨#[c]⟩) (.str "z") H Q := by
  refine rd_leSt ?_
  have e : decide (("z" : Str).cps.toList < (⟨#[c]⟩ : Str).cps.toList) = decide (122 < c) := sign_lt 122 c
  rw [e]
  have e2 : (!decide (122 < c)) = decide (c ≤ 122) := by
    by_cases h : 122 < c
    · rw [decide_eq_true h, decide_eq_false (by omega)]; rfl
    · rw [decide_eq_false h, decide_eq_true (by omega)]; rfl
  rw [e2]
  exact q
theorem rd_istr {σ : L2.St} {H : Hp} {te : TE} {R : It → Hp → Prop} (q : te σ H fun v H1 => ∃ x, v = .str x ∧ R (Its x) H1) : iStr te σ H R := q
theorem IsAll.snocI {M : List Addr} {H : Hp} {d : PyData} : ∀ {xs : List V} {ds : List PyData}, IsAll M H xs (ds ++ [d]) → ∃ xs' v, xs = xs' ++ [v] ∧ IsAll M H xs' ds ∧ Is M H v d
  | _, [], .cons h .nil => ⟨[], _, rfl, .nil, h⟩
  | _, _ :: _, .cons h r => by
    obtain ⟨xs', v, rfl, r', i⟩ := IsAll.snocI r
    exact ⟨_ :: xs', v, rfl, .cons h r', i⟩
theorem rd_dlistT {M : List Addr} {H : Hp} {Q : VK} {K : PySem.W.Frag} {a : Addr} {ds : List PyData} (s : Al M H) (h : Is M H (.ref a) (.tuple ds)) (q : ∀ p H', H p = none → Ext [] H H' → Is M H' (.ref p) (.list ds) → Q (.ref p) H') : qListOf K [.ref a] H Q := by
  obtain ⟨xs, _, hx, r⟩ := h.tuple
  exact rd_listT (SqT.of hx) fun p hp => q p _ hp (.new hp) (new_lst s r hp)
theorem cutD_last (ds : List PyData) : cutD ds none (some (-1)) = ds.dropLast := by
  show (ds.drop 0).take (((-1) + (ds.length : Int)).toNat - 0) = _
  rw [List.drop_zero, List.dropLast_eq_take]
  congr 1
  omega
theorem sql_e {K : PySem.W.Frag} {H H' : Hp} {a : Addr} {xs : List V} (h : SqL K H a xs) (e : Ext [] H H') : SqL K H' a xs := by
  rcases h with (h | ⟨o, h⟩) | h
  · exact .inl (.inl (e.keep _ _ (by simp) h))
  · exact .inl (.inr ⟨o, e.keep _ _ (by simp) h⟩)
  · exact .inr h
theorem rd_trep {K : PySem.W.Frag} {H : Hp} {Q : VK} {M : List Addr} {a : Addr} {ds : List PyData} {k : Int} (s : Al M H) (h : Is M H (.ref a) (.tuple ds)) (hne : ds ≠ []) (h1 : 2 ≤ k) (h2 : k ≤ 1000) (hl : ds.length ≤ 1000) (q : ∀ p H', Ext [] H H' → Is M H' (.ref p) (.tuple (List.replicate k.toNat ds).flatten) → Q (.ref p) H') : rRepT K (.ref a) (.int k) H Q := by
  obtain ⟨xs, _, hx, r⟩ := h.tuple
  refine ⟨a, k, xs, rfl, rfl, SqT.of hx, fun e => ?_, h1, h2, by rw [r.length]; exact hl, fun p hp => q p _ (.new hp) (new_tup s (r.reps _) hp)⟩
  subst e
  cases r
  exact hne rfl
theorem rd_ite2 {b : Bool} {A B : Prop} (h2 : b = false → B) (h1 : b = true → A) : if b = true then A else B := rd_ite h1 h2
/-! ### dicts with keys of numbers and texts: readings; d.update(e) -/
def rUpd : V → List V → Hp → VK → Prop := fun x vs H Q => ∃ a b kvs more, x = .ref a ∧ vs = [.ref b] ∧ H a = some (.dK kvs) ∧ H b = some (.dK more) ∧ a ≠ b ∧ kvs.length + more.length ≤ 1000 ∧ Q .non (upd H a (.dK (mergeK kvs more)))
theorem mt_update {X : Cx} : MtR X "dict.update" rUpd := by
  intro pins s σ H x xs v us Q I rx rv h
  obtain ⟨a, b, kvs, more, rfl, rfl, ha, hb, hne, hz, q⟩ := h
  cases rx
  obtain ⟨u, rfl, ru⟩ := vals1 rv
  cases ru
  obtain ⟨z1, n1, vs1, k1, d1⟩ := dk_of I.hok ha
  obtain ⟨z2, n2, vs2, k2, d2⟩ := dk_of I.hok hb
  have hl : vs1.length + vs2.length ≤ sizeLine := by
    rw [← k1.length, ← k2.length]
    exact Nat.le_trans hz (by decide)
  refine call_meetsIn F.slot_dict_update d1.typeIs F.entry_dict_update (F.args_dict_update_2 _ _) (meets_dict_update (mixKind X.prog X.w) a b hne n2) ⟨vs1, vs2, d1, d2, hl, fun h' e1 e2 sb => ?_⟩
  have he : ∃ q, h'.get? a = some q := let ⟨q, _, _, hq, _⟩ := e1; ⟨q, hq⟩
  have hm : (mergeK kvs more).length ≤ sizeLine := Nat.le_trans (length_mergeK more kvs) (Nat.le_trans (by omega) (by decide : 1000 ≤ sizeLine))
  exact ⟨.non, _, d_write I (by rw [ha]; exact True.intro) sb he (dk_new hm n1 (k2.merge k1) e1), rfl, q⟩
def qDGet (x y : V) (H : Hp) (Q : VK) : Prop := ∃ a v, x = .ref a ∧ DGet H a y (some v) ∧ Q v H
def qDPut (x y v : V) (H : Hp) (R : Hp → Prop) : Prop := ∃ a H4, x = .ref a ∧ DPut H a y v H4 ∧ R H4
def qDPutA (a : Addr) (y z : V) (H : Hp) (R : Hp → Prop) : Prop := ∃ H5, DPut H a y z H5 ∧ R H5
def qDAug (x y : V) (tv : TE) (rd : V → V → Hp → VK → Prop) (σ : L2.St) (H : Hp) (R : Hp → Prop) : Prop := ∃ a v, x = .ref a ∧ DGet H a y (some v) ∧ tv σ H fun y2 H3 => rd v y2 H3 fun z H4 => qDPutA a y z H4 R
def qDGet2 (td ty tx : TE) : TE := tDGet2 td ty tx
section
variable {σ : L2.St} {H : Hp} {Q : VK} {td ty tv tx : TE} {D : Ends} {a : Addr} {kvs : List (Key × V)} {v y z : V} {t : Str} {i : Int} {R : Hp → Prop} {rd : V → V → Hp → VK → Prop} {tk : TE} {r : List (TE × TE)} {QP : List (V × V) → Hp → Prop} {trs : List (TE × TE)}
theorem rd_dget (q : td σ H fun x H1 => ty σ H1 fun y H2 => qDGet x y H2 Q) : tDGet td ty σ H Q := q
theorem rd_dgetS (h : H a = some (.dK kvs)) (l : valV kvs (.inr t) = some v) (q : Q v H) : qDGet (.ref a) (.str t) H Q := ⟨a, v, rfl, by rw [← l]; exact DGet.k (k := .inr t) h, q⟩
theorem rd_dgetI (h : H a = some (.dK kvs)) (l : valV kvs (.inl i) = some v) (q : Q v H) : qDGet (.ref a) (.int i) H Q := ⟨a, v, rfl, by rw [← l]; exact DGet.k (k := .inl i) h, q⟩
theorem rd_dput (q : tv σ H fun v H1 => td σ H1 fun x H2 => ty σ H2 fun y H3 => qDPut x y v H3 fun H4 => D.nx σ H4) : sDPut td ty tv D σ H := q
theorem rd_dputS (h : H a = some (.dK kvs)) (hl : kvs.length ≤ 100000) (q : R (upd H a (.dK (putK kvs (.inr t) v)))) : qDPut (.ref a) (.str t) v H R := ⟨a, _, rfl, DPut.k (k := .inr t) h (szl' hl), q⟩
theorem rd_dputI (h : H a = some (.dK kvs)) (hl : kvs.length ≤ 100000) (q : R (upd H a (.dK (putK kvs (.inl i) v)))) : qDPut (.ref a) (.int i) v H R := ⟨a, _, rfl, DPut.k (k := .inl i) h (szl' hl), q⟩
theorem rd_daug (q : td σ H fun x H1 => ty σ H1 fun y H2 => qDAug x y tv rd σ H2 fun H5 => D.nx σ H5) : sDAug td ty tv rd D σ H := q
theorem rd_daugS (h : H a = some (.dK kvs)) (l : valV kvs (.inr t) = some v) (q : tv σ H fun y2 H3 => rd v y2 H3 fun z H4 => qDPutA a (.str t) z H4 R) : qDAug (.ref a) (.str t) tv rd σ H R := ⟨a, v, rfl, by rw [← l]; exact DGet.k (k := .inr t) h, q⟩
theorem rd_dputB (h : H a = some (.dK kvs)) (hl : kvs.length ≤ 100000) (q : R (upd H a (.dK (putK kvs (.inr t) z)))) : qDPutA a (.str t) z H R := ⟨_, DPut.k (k := .inr t) h (szl' hl), q⟩
theorem rd_disp (q : ∀ p, H p = none → tPairs trs σ (upd H p (.dK [])) fun ps H2 => H2 p = some (.dK []) ∧ ∃ kvs : List (Key × V), ps = kvs.map (fun kv => (kV kv.1, kv.2)) ∧ kvs.length ≤ 15 ∧ Q (.ref p) (upd H2 p (.dK (mergeK [] kvs)))) : tDisp trs σ H Q := q
theorem rd_pairs0 (q : QP [] H) : tPairs [] σ H QP := q
theorem rd_pairs1 (q : tk σ H fun x H1 => tv σ H1 fun y H2 => tPairs r σ H2 fun ps H3 => QP ((x, y) :: ps) H3) : tPairs ((tk, tv) :: r) σ H QP := q
theorem rd_dget2 (q : td σ H fun x H1 => ∃ a, x = .ref a ∧ IsD H1 a ∧ ty σ H1 fun y H2 => tx σ H2 fun z H3 => ∃ o, DGet H3 a y o ∧ Q (o.getD z) H3) : tDGet2 td ty tx σ H Q := q
theorem rd_rAdd {i j : Int} (q : Q (.int (i + j)) H) : rAdd (.int i) (.int j) H Q := ⟨i, j, rfl, rfl, q⟩
theorem rd_rSub {i j : Int} (q : Q (.int (i - j)) H) : rSub (.int i) (.int j) H Q := ⟨i, j, rfl, rfl, q⟩
end
/-! ### defs that want to know that nothing is being shown: what repr of lists and tuples asks -/
structure FnG (P : Program) (w : World) (K : PySem.W.Frag) (mg : Str → Option Value) (base : Heap) (k : Nat) (f : Addr) (fd : FuncData) (ps : List Str) (sp : Sp) : Prop where
  many : ∀ vs H Q E, sp vs H Q E → vs.length = ps.length
  goes : ∀ (A : Around) (outer : List Env) (s : Shared) (H : Hp) (args : Args) (us : List Value) (vs : List V) (Q : VK) (E : XK), A.guards = some [] → Room k A → Env0 P w K mg base A outer s H → BindsTo s fd args (ps.zip us) → Vals vs us →
    sp vs H Q E → codeAny (model P w) A (.call (.ref f) args) (CR CX0 outer P w H s Q E) s
structure CalG (P : Program) (w : World) (K : PySem.W.Frag) (mg : Str → Option Value) (base : Heap) (k : Nat) (x : Str) (sp : Sp) : Prop where
  ex : ∃ (f : Addr) (fd : FuncData) (ps : List Str), FnG P w K mg base k f fd ps sp ∧ mg x = some (.ref f) ∧ PySem.W.keepIn K (.ref f) = true ∧ Binds K fd ps []
structure MetG (P : Program) (w : World) (K : PySem.W.Frag) (mg : Str → Option Value) (base : Heap) (k : Nat) (C : Addr) (m : Str) (sp : Sp) : Prop where
  ex : ∃ (f : Addr) (fd : FuncData) (ps : List Str), Cls K C ∧ Meth K C m f ∧ FnG P w K mg base k f fd ps sp ∧ Binds K fd ps []
section
variable {P : Program} {w : World} {K : PySem.W.Frag} {mg : Str → Option Value} {base : Heap} {x qual m : Str} {st : Stmt} {N ps : List Str} {k : Nat} {sp : Sp} {C : Addr}
theorem fng_ok {f : Addr} {fd : FuncData} (F : FunD K x qual (defArgs st) (defBody st) (defScope st) [] [] f fd) (S : FnScope N ps (defScope st)) (many : ∀ vs H Q E, sp vs H Q E → vs.length = ps.length)
    (walk : ∀ (cdv : Value) (A : Around) (outer : List Env) (s : Shared) (H : Hp) (vs : List V) (Q : VK) (E : XK), A.guards = some [] → Room k (A.deeper (envOfC qual (defScope st) s.heap.objs.size f cdv)) → sp vs H Q E →
      ∃ t, PSs (cxOf CX0 P w K mg base N qual (defScope st) f cdv A outer s H E).nox (defBody st) t ∧ t { nx := fun _ H' => Q .non H', rt := Q } (start N vs) H) : FnG P w K mg base (k + 1) f fd ps sp := by
  obtain ⟨_, _, _, _, _, _, _, cdv, _, _, rfl, look, code, _, _⟩ := F.ex
  refine ⟨many, fun A outer s H args us vs Q E gd room env bound rel hsp => ?_⟩
  have kin : K.In s.heap := env.mod.kin.keeps fun b o e => (env.bs b o e).1
  have lim : s.heap.NoLimit := env.mod.nolimit.keeps fun b o e => (env.bs b o e).1
  refine codeAny_call_function room.depth (kin _ _ look) rfl S.co S.gen rfl (PySem.W.codeRec_of kin code) (bound _ _ _ _ ?_)
  refine wpAny_newFunctionEnv_cells S.kind (fun y hy => ?_) fun e he s1 made => ?_
  · rcases S.par y.1 (List.of_mem_zip (a := y.1) (b := y.2) hy).1 with z | z
    · exact .inl z
    · exact .inr ⟨z, PySem.W.cellsFrom_some _ _ _ (.inl z)⟩
  subst he
  obtain ⟨t, ht, q⟩ := walk cdv A outer s H vs Q E gd (room.deeper _) hsp
  refine ⟨lim.keeps made.toInCall.keep, codeAny_func (wpAny_mono (ht.nox.run [] s1 (start N vs) H _ (inv_start S room.hd env (many _ _ _ _ hsp) rel made) q) (fun fl s' z => ?_) fun _ _ z => z)⟩
  cases fl with
  | ret u => exact let ⟨v, _, H', J, rv, q⟩ := z; ⟨v, H', J.os, J.bare, J.base, J.hok, rv, q⟩
  | next => exact let ⟨_, H', J, q⟩ := z; ⟨.non, H', J.os, J.bare, J.base, J.hok, rfl, q⟩
  | brk => exact let ⟨_, _, _, q⟩ := z; q.elim
  | cont => exact let ⟨_, _, _, q⟩ := z; q.elim
theorem GFun.calG (g : GFun K mg x st) (S : FnScope N ps (defScope st)) (b : BindAll x x st ps) (many : ∀ vs H Q E, sp vs H Q E → vs.length = ps.length)
    (walk : ∀ (f : Addr) (cdv : Value) (A : Around) (outer : List Env) (s : Shared) (H : Hp) (vs : List V) (Q : VK) (E : XK), A.guards = some [] → Room k (A.deeper (envOfC x (defScope st) s.heap.objs.size f cdv)) → sp vs H Q E →
      ∃ t, PSs (cxOf CX0 P w K mg base N x (defScope st) f cdv A outer s H E).nox (defBody st) t ∧ t { nx := fun _ H' => Q .non H', rt := Q } (start N vs) H) : CalG P w K mg base (k + 1) x sp := by
  obtain ⟨f, fd, F, hm⟩ := g.ex
  exact ⟨f, fd, ps, fng_ok F S many (walk f), hm, F.kp, F.bindsN b⟩
theorem GMet.metG (g : GMet K C m qual st) (S : FnScope N ps (defScope st)) (b : BindAll m qual st ps) (many : ∀ vs H Q E, sp vs H Q E → vs.length = ps.length)
    (walk : ∀ (f : Addr) (cdv : Value) (A : Around) (outer : List Env) (s : Shared) (H : Hp) (vs : List V) (Q : VK) (E : XK), A.guards = some [] → Room k (A.deeper (envOfC qual (defScope st) s.heap.objs.size f cdv)) → sp vs H Q E →
      ∃ t, PSs (cxOf CX0 P w K mg base N qual (defScope st) f cdv A outer s H E).nox (defBody st) t ∧ t { nx := fun _ H' => Q .non H', rt := Q } (start N vs) H) : MetG P w K mg base (k + 1) C m sp := by
  obtain ⟨f, fd, F, c, hm⟩ := g.ex
  exact ⟨f, fd, ps, c, hm, fng_ok F S many (walk f), F.bindsN b⟩
end
section
variable {X : Cx} {k j : Nat} {C : Addr} {x m : Str} {sp : Sp} {p pos apos : Pos} {e o : Expr} {es : List Expr} {t : TA} {ta : TE}
theorem run_fnG {f : Addr} {fd : FuncData} {ps : List Str} {pins : List (Addr × Obj)} {σ : L2.St} {H : Hp} {s : Shared} {Q : VK} {us : List Value} {vs : List V} (F : FnG X.prog X.w X.K X.mg X.base k f fd ps sp) (gd : X.A.guards = some []) (hr : Room k X.A) (hb : Binds X.K fd ps [])
    (I : Inv X pins σ H s) (rel : Vals vs us) (h : sp vs H Q E0) : wpAny (model X.prog X.w) X.A (call (.ref f) us) (EP X pins σ Q) X.xe s := by
  have bound := hb s us I.kIn (by rw [List.append_nil, ← rel.length]; exact F.many _ _ _ _ h)
  rw [List.append_nil] at bound
  refine wpAny_call (codeAny_mono (F.goes X.A X.stack s H ⟨us, []⟩ us vs Q E0 gd hr I.env0 bound rel h) fun r s' z => ?_)
  match r, z with
  | .error _, z => exact z.elim
  | .ok (.ret _), z => exact I.after z
  | .ok .next, z => exact False.elim z
  | .ok .brk, z => exact False.elim z
  | .ok .cont, z => exact False.elim z
theorem pe_cG (c : CalG X.prog X.w X.K X.mg X.base k x sp) (gd : X.A.guards = some []) (hr : Room j X.A) (hk : k ≤ j) (hg : Gl X x) (ha : PA X (e :: es) t)
    (hdb : (x == ("__debug__" : Str)) = false := by decide) (he : starEach (e :: es) X.env = (false, eval e X.env) :: starEach es X.env := by rfl) (hpl : (backTo pos (starEach es X.env)).any (·.1) = false := by rfl) :
    PE X (.Call (.Name x p) (e :: es) [] pos) (tCall sp [] E0 t) := by
  obtain ⟨f, fd, ps, F, hm, kp, b⟩ := c.ex
  refine ⟨fun pins s σ H Q I h => wpAny_Call_Name_kw (ld_glob I hg hm ?_ hdb)⟩
  refine PySem.W.callWith_K (h₀ := X.base) I.ok.mod.kin kp (thn (ha.run pos pins s σ H _ I h) fun us s1 ⟨vs, H1, I1, r, q⟩ => ⟨I1.kIn, run_fnG F gd (hr.mono hk) b I1 r ?_⟩) he hpl
  dsimp only at q
  rw [List.append_nil] at q
  exact q
theorem pe_mtG {pl : Sem Bool} (c : MetG X.prog X.w X.K X.mg X.base k C m sp) (gd : X.A.guards = some []) (hr : Room j X.A) (hk : k ≤ j) (he : PE X o ta) (ha : PA X (e :: es) t)
    (hst : starEach (e :: es) X.env = (false, eval e X.env) :: starEach es X.env := by rfl) (hpl : (backTo pos (starEach es X.env)).any (·.1) = false := by rfl)
    (ht : eval (.Call (.Attribute o m apos) (e :: es) [] pos) X.env = (do
      let ov ← eval o X.env
      standAt apos.atName
      let (f, first) ← holding [ov] (getMethod ov m pl)
      callWith pos f first (backTo pos (starEach (e :: es) X.env)) (backToKw pos (keywordEach [] X.env))) := by rfl) :
    PE X (.Call (.Attribute o m apos) (e :: es) [] pos) (tMeth C m sp [] E0 ta t) := by
  obtain ⟨f, fd, ps, hc, hm, F, b⟩ := c.ex
  refine ⟨fun pins s σ H Q I h => ?_⟩
  refine PySem.W.methodCall_KW (pl := pl) (thn (he.run pins s σ H _ I h) fun u s1 ⟨x, H1, I1, rx, a, dx, fs, ex, ea, l, q⟩ => ?_) ht
  subst ex
  obtain rfl : u = Value.ref a := rx
  refine getmeth_ok I1 ea hc hm l ?_
  refine PySem.W.callWith_K (first := [.ref a]) (h₀ := X.base) I.ok.mod.kin hm.kp (thn (ha.run pos pins s1 σ H1 _ I1 q) fun us s2 ⟨vs, H2, I2, r, q2⟩ => ⟨I2.kIn, ?_⟩) hst hpl
  dsimp only at q2
  rw [List.append_nil] at q2
  exact run_fnG (us := .ref a :: us) (vs := .ref a :: vs) F gd (hr.mono hk) b I2 (.cons rfl r) q2
end
/-! ### repr -/
def qRepr (K : PySem.W.Frag) : List V → Hp → VK → Prop := fun vs H Q => ∃ a d, vs = [.ref a] ∧ Dp K H (.ref a) d ∧ d.showable = true ∧ d.hasDict = false ∧ d.depth ≤ 40 ∧ d.shown.length ≤ 100000 ∧ Q (.str d.shown) H
theorem call_reprG {X : Cx} (K : PySem.W.Frag) (gd : X.A.guards = some []) (hu : X.A.units + 64 < cLine) (hK : X.K = K := by rfl) : CallR X (.builtin "repr") (qRepr K) := by
  subst hK
  intro pins s σ H vs us Q I rel h
  obtain ⟨a, d, rfl, hd, h1, h2, h3, h4, q⟩ := h
  cases rel with
  | cons ra rn =>
    cases rn
    obtain rfl := ra
    obtain ⟨as, r⟩ := Dp.reads I d (.ref a) (.ref a) hd rfl
    refine repr_of_reads' r h1 (fun z => by rw [h2] at z; cases z) gd (by omega) (fun b o e => e) (fun h' u tk kept => ?_) (szL h4)
    exact ⟨.str d.shown, H, I.kept kept, ⟨_, rfl⟩, q⟩
/-! ### the law's own call, where nothing is being shown -/
section
variable {P : Program} {w : World} {K : PySem.W.Frag} {mg mb : Str → Option Value} {k : Nat} {fa a : Addr} {fd : FuncData} {x : Str} {sp : Sp} {s : Shared} {vs : List Value} {ns : List Int}
/-- the heap of values at a law's beginning: the script, unless it is one of the module's own lists -/
def Scr (K : PySem.W.Frag) (a : Addr) (vs : List Value) (ns : List Int) : Hp := fun b => if b = a ∧ (K.lookup a).isNone = true then some (.frz { cls := .type "list", data := .seq vs.toArray } (.lst (ns.map V.int))) else none
theorem scr_in {b : Addr} {u : HO} (h : Scr K a vs ns b = some u) : b = a ∧ K.lookup a = none ∧ u = .frz { cls := .type "list", data := .seq vs.toArray } (.lst (ns.map V.int)) := by
  unfold Scr at h
  by_cases c : b = a ∧ (K.lookup a).isNone = true
  · rw [if_pos c] at h
    exact ⟨c.1, Option.isNone_iff_eq_none.mp c.2, (Option.some.inj h).symm⟩
  · rw [if_neg c] at h
    cases h
theorem scr_none {b : Addr} (h : b = a → ∃ o, K.lookup a = some o) : Scr K a vs ns b = none := by
  unfold Scr
  refine if_neg fun c => ?_
  obtain ⟨o, e⟩ := h c.1
  rw [e] at c
  exact absurd c.2 (by simp)
theorem law_callG (kin : K.In s.heap) (glob : s.heap.Ns mainGlobals mg) (blt : s.heap.Ns builtinsNs mb) (boot : ∀ x : Str, x ≠ "__name__" → mb x = bootBuiltins x) (lim : s.heap.NoLimit) (gens : s.gens = #[])
    (ha : s.heap.get? a = some { cls := .type "list", data := .seq vs.toArray }) (hi : IntsAre vs ns) (hl : ns.length ≤ sizeLine) (room : Room k callerA)
    (F : ∀ base : Heap, FnG P w K mg base k fa fd [x] sp) (bound : ∀ (s : Shared) (u : Value), BindsTo s fd ⟨[u], []⟩ [(x, u)])
    (spec : ∀ H : Hp, Only H → SqL K H a (ns.map V.int) → sp [.ref a] H (fun v _ => v = .bl true) E0) :
    codeAny (model P w) callerA (.call (.ref fa) ⟨[.ref a], []⟩) (fun r s' => r = .ok (.ret (.bool true)) ∧ OldK s.heap s'.heap ∧ s'.os = s.os ∧ AllBare s'.gens) s := by
  have rel := vals_ints hi
  -- what the hidden heap shows
  have shows : ∀ {b : Addr} {o : Obj}, s.heap.get? b = some o → Scr K a vs ns b = none → (hidT s.heap (Scr K a vs ns)).get? b = some o := fun e z => hidT_get e z
  have spaces : ∀ {b : Addr} {m : Str → Option Value}, s.heap.Ns b m → (hidT s.heap (Scr K a vs ns)).Ns b m := fun {b m} ⟨o, es, ep, e, d, r⟩ => by
    refine ⟨o, es, ep, shows e ?_, d, r⟩
    cases z : Scr K a vs ns b with
    | none => rfl
    | some u =>
      obtain ⟨rfl, _, _⟩ := scr_in z
      rw [ha] at e
      cases e
      cases d
  have kin2 : K.In (hidT s.heap (Scr K a vs ns)) := fun b o e => shows (kin b o e) (scr_none fun z => ⟨o, z ▸ e⟩)
  have mod : Mod K mg (hidT s.heap (Scr K a vs ns)) := ⟨kin2, spaces glob, ⟨mb, spaces blt, boot⟩, let ⟨m, h1, h2⟩ := lim; ⟨m, spaces h1, h2⟩⟩
  have held : HOk P w (Scr K a vs ns) s.heap := fun b u z => by
    obtain ⟨rfl, _, rfl⟩ := scr_in z
    exact ⟨ha, by rw [List.length_map]; exact hl, vs, _, rel, ha⟩
  have env : Env0 P w K mg (hidT s.heap (Scr K a vs ns)) callerA [] s (Scr K a vs ns) := ⟨rfl, mod, fun b o e => of_hidT e, Nat.le_of_eq (hidT_size _ _), trivial, fun b hb => (nomatch hb), held, .of_eq gens⟩
  have script : SqL K (Scr K a vs ns) a (ns.map V.int) := by
    cases z : K.lookup a with
    | none => exact .inl (.inr ⟨_, if_pos ⟨rfl, by rw [z]; rfl⟩⟩)
    | some o =>
      have e := kin a o z
      rw [ha] at e
      cases e
      exact .inr ⟨_, vs.toArray, _, z, rfl, rfl, rfl, by rw [List.size_toArray, ← rel.length, List.length_map]; exact hl, by simpa using rel⟩
  have only : Only (Scr K a vs ns) := fun b => by
    cases z : Scr K a vs ns b with
    | none => exact .inl rfl
    | some u => exact .inr ⟨_, _, by rw [(scr_in z).2.2]⟩
  refine codeAny_mono ((F _).goes callerA [] s _ ⟨[.ref a], []⟩ [.ref a] [.ref a] _ _ rfl room env (bound s _) (.cons rfl .nil) (spec _ only script)) fun r s' z => ?_
  match r, z with
  | .error _, z => exact z.elim
  | .ok .next, z => exact z.elim
  | .ok .brk, z => exact z.elim
  | .ok .cont, z => exact z.elim
  | .ok (.ret u), z =>
    obtain ⟨v, H', os, bare, un, held', rv, rfl⟩ := z
    obtain rfl : u = Value.bool true := rv
    refine ⟨rfl, OldK.of_keep fun b o e => ?_, os, bare⟩
    cases z : Scr K a vs ns b with
    | none => exact un.keep b o e z (by simp [frs]) (by simp)
    | some u =>
      obtain ⟨rfl, _, rfl⟩ := scr_in z
      rw [ha] at e
      cases e
      exact (held' _ _ (un.frzs _ _ _ z)).1
end
theorem walk_ofG {l : PySem.W.OpenLaw} {n k : Nat} {q : Program} {loose : List Str} {XP : (Str → Option Value) → Heap → Prop} {YP : World → Heap → Prop} {d : DefRec} {x : Str}
    (hn : l.most = some n) (hn2 : n ≤ sizeLine) (hdf : d.params.defaults = []) (room : Room k callerA)
    (F : ∀ (w : World) (mg : Str → Option Value) (fa : Addr) (h : Heap), YP w h → h.Ns mainGlobals mg → mg d.name = some (.ref fa) →
      ∃ (K : PySem.W.Frag) (fd : FuncData) (sp : Sp), K.In h ∧ (∀ (s : Shared) (u : Value), BindsTo s fd ⟨[u], []⟩ [(x, u)]) ∧
        (∀ (H : Hp) (a : Addr) (ns : List Int), ns.length ≤ n → Only H → SqL K H a (ns.map V.int) → sp [.ref a] H (fun v _ => v = .bl true) E0) ∧ ∀ base : Heap, FnG l.prog w K mg base k fa fd [x] sp) :
    PySem.W.WalkO q loose XP YP l.row.toRowW d [] (fun f vs => PySem.call f vs) :=
  Att.attach_call hn hdf fun w s₀ s₁ mg mb fa o pm cd doc a vs ns G Y _ _ _ hmg hobj hints hlen hg => by
    obtain ⟨K, fd, sp, kin, bound, spec, hF⟩ := F w mg fa _ Y G.T.g hmg
    exact law_callG kin G.T.g G.T.b G.T.builtins G.T.nolimit hg hobj hints (Nat.le_trans hlen hn2) room hF bound fun H hO hS => spec H a ns hlen hO hS
theorem GFun.lawG {P : Program} {w : World} {K : PySem.W.Frag} {mg : Str → Option Value} {st : Stmt} {N : List Str} {k : Nat} {sp : Sp} {fa : Addr} (g : GFun K mg "law" st) (hmg : mg "law" = some (.ref fa)) (S : FnScope N ["script"] (defScope st)) (b : BindAll "law" "law" st ["script"]) (many : ∀ vs H Q E, sp vs H Q E → vs.length = 1)
    (walk : ∀ (base : Heap) (f : Addr) (cdv : Value) (A : Around) (outer : List Env) (s : Shared) (H : Hp) (vs : List V) (Q : VK) (E : XK), A.guards = some [] → Room k (A.deeper (envOfC "law" (defScope st) s.heap.objs.size f cdv)) → sp vs H Q E →
      ∃ t, PSs (cxOf CX0 P w K mg base N "law" (defScope st) f cdv A outer s H E).nox (defBody st) t ∧ t { nx := fun _ H' => Q .non H', rt := Q } (start N vs) H) :
    ∃ fd : FuncData, (∀ (s : Shared) (v : Value), BindsTo s fd ⟨[v], []⟩ [("script", v)]) ∧ ∀ base : Heap, FnG P w K mg base (k + 1) fa fd ["script"] sp := by
  obtain ⟨f, fd, F, hm⟩ := g.ex
  have e := hmg.symm.trans hm
  cases e
  exact ⟨fd, fun s v => F.bindsA (ps := ["script"]) b s [v] rfl, fun base => fng_ok F S many (walk base fa)⟩
/-! ### the data layer: values as trees, and the objects that change beside -/
inductive Dv where
  | non | bl (b : Bool) | int (i : Int) | str (x : Str) | byt (b : Array UInt8) | ty (n : String)
  | lst (xs : List Dv) | tup (xs : List Dv) | kl (xs : List Dv) | kt (xs : List Dv) | tq (xs : List Dv) | fz (xs : List Dv) | dct (kvs : List (Key × Dv)) | dcT (kvs : List (List Key × Dv)) | ref (a : Addr)
/-- an object that may change -/
inductive Mo where
  | lst (xs : List Dv) | dct (kvs : List (Key × Dv)) | dcT (kvs : List (List Key × Dv)) | ins (C : Addr) (fs : List (Str × Dv)) | lck (o : Obj) (vs : List (Key × V)) (kvs : List (Key × Dv)) | lckT (o : Obj) (vs : List (List Key × V)) (kvs : List (List Key × Dv))
abbrev Ah := Addr → Option Mo
abbrev Ev := List (Option Dv)
def ups (g : Ah) (a : Addr) (m : Mo) : Ah := fun b => if b = a then some m else g b
def del (g : Ah) (a : Addr) : Ah := fun b => if b = a then none else g b
section
variable {g : Ah} {a b : Addr} {m m' : Mo}
theorem ups_same : ups g a m a = some m := by unfold ups; rw [if_pos rfl]
theorem ups_ne (h : b ≠ a) : ups g a m b = g b := by unfold ups; rw [if_neg h]
theorem ups_ups : ups (ups g a m) a m' = ups g a m' := by funext b; unfold ups; split <;> rfl
theorem del_same : del g a a = none := by unfold del; rw [if_pos rfl]
theorem del_ne (h : b ≠ a) : del g a b = g b := by unfold del; rw [if_neg h]
theorem del_ups (h : g a = none) : del (ups g a m) a = g := by
  funext b
  unfold del ups
  by_cases e : b = a
  · rw [if_pos e, e, h]
  · rw [if_neg e, if_neg e]
theorem ups_get (h : g a = some m) : ups g a m = g := by
  funext b
  unfold ups
  by_cases e : b = a
  · rw [if_pos e, e, h]
  · rw [if_neg e]
theorem ups_comm (h : a ≠ b) : ups (ups g a m) b m' = ups (ups g b m') a m := by
  funext c
  unfold ups
  by_cases e : c = b
  · rw [if_pos e, if_neg (fun z => h (z.symm.trans e)), if_pos e]
  · rw [if_neg e, if_neg e]
end
/-- the written part, and what is hidden -/
structure KM where
  K : PySem.W.Frag
  M : List Addr
def KL (K : PySem.W.Frag) (a : Addr) (xs : List V) : Prop := ∃ (o : Obj) (its : Array Value) (n : Nat), K.lookup a = some o ∧ o.cls = .type "list" ∧ o.dict = none ∧ o.data = .seq its n ∧ its.size ≤ sizeLine ∧ Vals xs its.toList
def KT (K : PySem.W.Frag) (a : Addr) (xs : List V) : Prop := ∃ (o : Obj) (its : Array Value) (n : Nat), K.lookup a = some o ∧ o.cls = .type "tuple" ∧ o.data = .seq its n ∧ its.size ≤ sizeLine ∧ Vals xs its.toList
mutual
inductive Rp (K : KM) (g : Ah) (H : Hp) : V → Dv → Prop
  | non : Rp K g H .non .non
  | bl (b : Bool) : Rp K g H (.bl b) (.bl b)
  | int (i : Int) : Rp K g H (.int i) (.int i)
  | str (x : Str) : Rp K g H (.str x) (.str x)
  | byt (b : Array UInt8) : Rp K g H (.byt b) (.byt b)
  | ty (n : String) : Rp K g H (.ty n) (.ty n)
  | ref (a : Addr) : Rp K g H (.ref a) (.ref a)
  | lst {a : Addr} {vs : List V} {ds : List Dv} : g a = none → a ∉ K.M → H a = some (.lst vs) → RpAll K g H vs ds → Rp K g H (.ref a) (.lst ds)
  | tup {a : Addr} {vs : List V} {ds : List Dv} : g a = none → a ∉ K.M → H a = some (.tup vs) → RpAll K g H vs ds → Rp K g H (.ref a) (.tup ds)
  | kl {a : Addr} {vs : List V} {ds : List Dv} : PlK K.K a vs → RpAll K g H vs ds → Rp K g H (.ref a) (.kl ds)
  | fz {a : Addr} {vs : List V} {ds : List Dv} {o : Obj} : g a = none → a ∉ K.M → H a = some (.frz o (.lst vs)) → RpAll K g H vs ds → Rp K g H (.ref a) (.fz ds)
  | fk {a : Addr} {vs : List V} {ds : List Dv} : KL K.K a vs → RpAll K g H vs ds → Rp K g H (.ref a) (.fz ds)
  | kt {a : Addr} {vs : List V} {ds : List Dv} : KT K.K a vs → RpAll K g H vs ds → Rp K g H (.ref a) (.kt ds)
  | tq {a : Addr} {vs : List V} {ds : List Dv} {o : Obj} : g a = none → a ∉ K.M → H a = some (.frz o (.tup vs)) → o.dict = none → RpAll K g H vs ds → Rp K g H (.ref a) (.tq ds)
  | dct {a : Addr} {vs : List (Key × V)} {ds : List (Key × Dv)} : g a = none → a ∉ K.M → H a = some (.dK vs) → RpP K g H vs ds → Rp K g H (.ref a) (.dct ds)
  | dcT {a : Addr} {vs : List (List Key × V)} {ds : List (List Key × Dv)} : g a = none → a ∉ K.M → H a = some (.dT vs) → RpP K g H vs ds → Rp K g H (.ref a) (.dcT ds)
inductive RpAll (K : KM) (g : Ah) (H : Hp) : List V → List Dv → Prop
  | nil : RpAll K g H [] []
  | cons {v : V} {d : Dv} {vs : List V} {ds : List Dv} : Rp K g H v d → RpAll K g H vs ds → RpAll K g H (v :: vs) (d :: ds)
inductive RpP (K : KM) (g : Ah) (H : Hp) : {κ : Type} → List (κ × V) → List (κ × Dv) → Prop
  | nil {κ : Type} : RpP K g H (κ := κ) [] []
  | cons {κ : Type} {k : κ} {v : V} {d : Dv} {vs : List (κ × V)} {ds : List (κ × Dv)} : Rp K g H v d → RpP K g H vs ds → RpP K g H ((k, v) :: vs) ((k, d) :: ds)
end
/-- what stands (o) for an object that may change (m) -/
def OkO (K : KM) (g : Ah) (H : Hp) : HO → Mo → Prop
  | .lst vs, .lst ds => RpAll K g H vs ds
  | .dK vs, .dct ds => RpP K g H vs ds
  | .dT vs, .dcT ds => RpP K g H vs ds
  | .ins C _ vs, .ins C' ds => C = C' ∧ RpP K g H vs ds
  | .frz o u, .lck o' vs ds => (o = o' ∧ u = .dK vs) ∧ RpP K g H vs ds
  | .frz o u, .lckT o' vs ds => (o = o' ∧ u = .dT vs) ∧ RpP K g H vs ds
  | _, _ => False
/-- what may be hidden -/
def Hid : Option HO → Prop
  | some (.lst _) => True
  | some (.dK _) => True
  | some (.dT _) => True
  | _ => False
theorem Hid.ne {o : Option HO} (h : Hid o) : o ≠ none := fun e => by subst e; exact h
theorem Hid.upd {H : Hp} {p b : Addr} {o : HO} (h : Hid (H b)) (k : Hid (H p) → Hid (some o)) : Hid (L2.upd H p o b) := by
  unfold L2.upd
  split
  next e => rw [e] at h; exact k h
  next => exact h
def HR (K : KM) (g : Ah) (H : Hp) : Prop := (∀ a m, g a = some m → ∃ o, H a = some o ∧ OkO K g H o m) ∧ ∀ a ∈ K.M, g a = none ∧ Hid (H a)
/-- a step: what stays, stays -/
structure Stp (g : Ah) (H : Hp) (g' : Ah) (H' : Hp) : Prop where
  keep : ∀ b o, g b = none → H b = some o → H' b = some o ∧ g' b = none
  there : ∀ b, H b ≠ none → H' b ≠ none
section
variable {K : KM} {g g' g'' : Ah} {H H' H'' : Hp} {v : V} {d : Dv} {vs ws : List V} {ds es : List Dv} {a b p : Addr} {m : Mo} {o : HO}
theorem Stp.refl : Stp g H g H := ⟨fun _ _ h k => ⟨k, h⟩, fun _ h => h⟩
theorem Stp.trans (s : Stp g H g' H') (t : Stp g' H' g'' H'') : Stp g H g'' H'' := ⟨fun b o h k => by
  obtain ⟨h1, h2⟩ := s.keep b o h k
  exact t.keep b o h2 h1, fun b h => t.there b (s.there b h)⟩
theorem Stp.rd {u : HO} (s : Stp g H g' H') (h : g a = none) (r : Rd H a u) : Rd H' a u ∧ g' a = none := by
  rcases r with r | ⟨o, r⟩
  · obtain ⟨h1, h2⟩ := s.keep a _ h r
    exact ⟨.inl h1, h2⟩
  · obtain ⟨h1, h2⟩ := s.keep a _ h r
    exact ⟨.inr ⟨o, h1⟩, h2⟩
mutual
theorem Rp.go (s : Stp g H g' H') : ∀ {v : V} {d : Dv}, Rp K g H v d → Rp K g' H' v d
  | _, _, .non => .non
  | _, _, .bl b => .bl b
  | _, _, .int i => .int i
  | _, _, .str x => .str x
  | _, _, .byt x => .byt x
  | _, _, .ty x => .ty x
  | _, _, .ref a => .ref a
  | _, _, .lst h n k r => .lst (s.keep _ _ h k).2 n (s.keep _ _ h k).1 (RpAll.go s r)
  | _, _, .tup h n k r => .tup (s.keep _ _ h k).2 n (s.keep _ _ h k).1 (RpAll.go s r)
  | _, _, .kl h r => .kl h (RpAll.go s r)
  | _, _, .fz h n k r => .fz (s.keep _ _ h k).2 n (s.keep _ _ h k).1 (RpAll.go s r)
  | _, _, .kt h r => .kt h (RpAll.go s r)
  | _, _, .tq h n k q r => .tq (s.keep _ _ h k).2 n (s.keep _ _ h k).1 q (RpAll.go s r)
  | _, _, .fk h r => .fk h (RpAll.go s r)
  | _, _, .dct h n k r => .dct (s.keep _ _ h k).2 n (s.keep _ _ h k).1 (RpP.go s r)
  | _, _, .dcT h n k r => .dcT (s.keep _ _ h k).2 n (s.keep _ _ h k).1 (RpP.go s r)
theorem RpAll.go (s : Stp g H g' H') : ∀ {vs : List V} {ds : List Dv}, RpAll K g H vs ds → RpAll K g' H' vs ds
  | _, _, .nil => .nil
  | _, _, .cons h r => .cons (Rp.go s h) (RpAll.go s r)
theorem RpP.go (s : Stp g H g' H') : ∀ {κ : Type} {vs : List (κ × V)} {ds : List (κ × Dv)}, RpP K g H vs ds → RpP K g' H' vs ds
  | _, _, _, .nil => .nil
  | _, _, _, .cons h r => .cons (Rp.go s h) (RpP.go s r)
end
theorem OkO.go (s : Stp g H g' H') (h : OkO K g H o m) : OkO K g' H' o m := by
  cases o <;> cases m <;> first | exact h.elim | exact RpAll.go s h | exact RpP.go s h | exact ⟨h.1, RpP.go s h.2⟩
theorem hr_off (r : HR K g H) (h : H p = none) : g p = none := by
  cases q : g p with
  | none => rfl
  | some m =>
    obtain ⟨o, e, _⟩ := r.1 p m q
    rw [h] at e; cases e
theorem hr_there (r : HR K g H) (h : g p = some m) : H p ≠ none := by
  obtain ⟨o, e, _⟩ := r.1 p m h
  rw [e]; exact fun z => nomatch z
/-- a new object that stays -/
theorem stp_new (r : HR K g H) (h : H p = none) : Stp g H g (upd H p o) := ⟨fun b u k q => ⟨by rw [upd_ne (ne_of_none q h)]; exact q, k⟩, there_upd⟩
theorem hr_new (r : HR K g H) (h : H p = none) : HR K g (upd H p o) := ⟨fun a m q => by
  obtain ⟨u, e, k⟩ := r.1 a m q
  exact ⟨u, by rw [upd_ne (ne_of_none e h)]; exact e, k.go (stp_new r h)⟩, fun a ha => ⟨(r.2 a ha).1, (r.2 a ha).2.upd fun z => absurd h z.ne⟩⟩
/-- an object that may change is new, or is changed -/
theorem stp_put (r : HR K g H) (h : H p = none ∨ g p ≠ none) : Stp g H (ups g p m) (upd H p o) := ⟨fun b u k q => by
  have hb : b ≠ p := by
    rintro rfl
    rcases h with h | h
    · rw [h] at q; cases q
    · exact h k
  exact ⟨by rw [upd_ne hb]; exact q, by rw [ups_ne hb]; exact k⟩, there_upd⟩
theorem hr_put (r : HR K g H) (h : H p = none ∨ g p ≠ none) (k : OkO K g H o m) : HR K (ups g p m) (upd H p o) := ⟨fun a u q => by
  by_cases e : a = p
  · subst e
    rw [ups_same] at q
    cases q
    exact ⟨o, upd_same, k.go (stp_put r h)⟩
  · rw [ups_ne e] at q
    obtain ⟨w, e1, k1⟩ := r.1 a u q
    exact ⟨w, by rw [upd_ne e]; exact e1, k1.go (stp_put r h)⟩, fun a ha => by
  have e : a ≠ p := by
    rintro rfl
    rcases h with h | h
    · exact (r.2 _ ha).2.ne h
    · exact h (r.2 _ ha).1
  exact ⟨by rw [ups_ne e]; exact (r.2 a ha).1, by rw [upd_ne e]; exact (r.2 a ha).2⟩⟩
/-- it will not change any more -/
theorem stp_del : Stp g H (del g p) H := ⟨fun b u k q => ⟨q, by
  unfold del
  split
  · rfl
  · exact k⟩, fun _ h => h⟩
theorem hr_del (r : HR K g H) : HR K (del g p) H := ⟨fun a u q => by
  have e : a ≠ p := by
    rintro rfl
    rw [del_same] at q; cases q
  rw [del_ne e] at q
  obtain ⟨w, e1, k1⟩ := r.1 a u q
  exact ⟨w, e1, k1.go stp_del⟩, fun a ha => ⟨by
  unfold del
  split
  · rfl
  · exact (r.2 a ha).1, (r.2 a ha).2⟩⟩
theorem hr_free (r : HR K g H) (h : H p = none) : p ∉ K.M := fun q => (r.2 p q).2.ne h
theorem RpAll.length : ∀ {vs : List V} {ds : List Dv}, RpAll K g H vs ds → vs.length = ds.length
  | _, _, .nil => rfl
  | _, _, .cons _ r => congrArg Nat.succ r.length
theorem RpP.length : ∀ {κ : Type} {vs : List (κ × V)} {ds : List (κ × Dv)}, RpP K g H vs ds → vs.length = ds.length
  | _, _, _, .nil => rfl
  | _, _, _, .cons _ r => congrArg Nat.succ r.length
theorem RpAll.get : ∀ {vs : List V} {ds : List Dv} {i : Nat}, RpAll K g H vs ds → ds[i]? = some d → ∃ v, vs[i]? = some v ∧ Rp K g H v d
  | _, _, _, .nil, e => by simp at e
  | _, _, 0, .cons h _, e => by simp at e; subst e; exact ⟨_, rfl, h⟩
  | _, _, i + 1, .cons _ r, e => by
    obtain ⟨u, h1, h2⟩ := RpAll.get (i := i) r (by simpa using e)
    exact ⟨u, by simpa using h1, h2⟩
theorem RpAll.got : ∀ {vs : List V} {ds : List Dv} {i : Nat}, RpAll K g H vs ds → vs[i]? = some v → ∃ d, ds[i]? = some d ∧ Rp K g H v d
  | _, _, _, .nil, e => by simp at e
  | _, _, 0, .cons h _, e => by simp at e; subst e; exact ⟨_, rfl, h⟩
  | _, _, i + 1, .cons _ r, e => by
    obtain ⟨u, h1, h2⟩ := RpAll.got (i := i) r (by simpa using e)
    exact ⟨u, by simpa using h1, h2⟩
theorem RpAll.append : ∀ {vs ws : List V} {ds es : List Dv}, RpAll K g H vs ds → RpAll K g H ws es → RpAll K g H (vs ++ ws) (ds ++ es)
  | _, _, _, _, .nil, s => s
  | _, _, _, _, .cons r t, s => .cons r (RpAll.append t s)
theorem RpAll.one (h : Rp K g H v d) : RpAll K g H [v] [d] := .cons h .nil
theorem RpAll.take : ∀ {vs : List V} {ds : List Dv} (n : Nat), RpAll K g H vs ds → RpAll K g H (vs.take n) (ds.take n)
  | _, _, 0, _ => by simp only [List.take_zero]; exact .nil
  | _, _, _ + 1, .nil => .nil
  | _, _, n + 1, .cons r t => .cons r (RpAll.take n t)
theorem RpAll.drop : ∀ {vs : List V} {ds : List Dv} (n : Nat), RpAll K g H vs ds → RpAll K g H (vs.drop n) (ds.drop n)
  | _, _, 0, r => r
  | _, _, _ + 1, .nil => .nil
  | _, _, n + 1, .cons _ t => RpAll.drop n t
theorem RpAll.rev : ∀ {vs : List V} {ds : List Dv}, RpAll K g H vs ds → RpAll K g H vs.reverse ds.reverse
  | _, _, .nil => .nil
  | _, _, .cons r t => by
    rw [List.reverse_cons, List.reverse_cons]
    exact (RpAll.rev t).append (.one r)
theorem RpAll.set : ∀ {vs : List V} {ds : List Dv} (i : Nat), RpAll K g H vs ds → Rp K g H v d → RpAll K g H (vs.set i v) (ds.set i d)
  | _, _, _, .nil, _ => .nil
  | _, _, 0, .cons _ t, h => .cons h t
  | _, _, i + 1, .cons r t, h => .cons r (RpAll.set i t h)
theorem RpAll.eraseIdx : ∀ {vs : List V} {ds : List Dv} (i : Nat), RpAll K g H vs ds → RpAll K g H (vs.eraseIdx i) (ds.eraseIdx i)
  | _, _, _, .nil => .nil
  | _, _, 0, .cons _ t => t
  | _, _, i + 1, .cons r t => .cons r (RpAll.eraseIdx i t)
theorem RpAll.reps (h : RpAll K g H vs ds) : ∀ k, RpAll K g H (List.replicate k vs).flatten (List.replicate k ds).flatten
  | 0 => .nil
  | k + 1 => by
    rw [List.replicate_succ, List.replicate_succ, List.flatten_cons, List.flatten_cons]
    exact h.append (RpAll.reps h k)
end
/-! ### slots -/
structure Cn (K : KM) (σ : L2.St) (H : Hp) (ev : Ev) (g : Ah) : Prop where
  len : ev.length = σ.length
  vars : ∀ (i : Nat) (d : Dv), ev[i]? = some (some d) → ∃ v, σ[i]? = some (some v) ∧ Rp K g H v d
  hr : HR K g H
section
variable {K : KM} {g g' : Ah} {H H' : Hp} {v : V} {d : Dv} {σ : L2.St} {ev : Ev} {i : Nat}
theorem Cn.go (c : Cn K σ H ev g) (r : HR K g' H') (s : Stp g H g' H') : Cn K σ H' ev g' := ⟨c.len, fun i d e => by
  obtain ⟨v, h1, h2⟩ := c.vars i d e
  exact ⟨v, h1, h2.go s⟩, r⟩
theorem Cn.set (c : Cn K σ H ev g) (r : Rp K g H v d) (i : Nat) : Cn K (σ.set i (some v)) H (ev.set i (some d)) g := ⟨by rw [List.length_set, List.length_set]; exact c.len, fun j e h => by
  by_cases hj : i = j
  · subst hj
    by_cases hi : i < ev.length
    · rw [List.getElem?_set_self hi] at h
      cases h
      exact ⟨v, List.getElem?_set_self (by rw [← c.len]; exact hi), r⟩
    · rw [List.getElem?_eq_none (by rw [List.length_set]; omega)] at h; cases h
  · rw [List.getElem?_set_ne hj] at h ⊢
    exact c.vars j e h, c.hr⟩
theorem Cn.unset (c : Cn K σ H ev g) (i : Nat) (x : Option V) : Cn K (σ.set i x) H (ev.set i none) g := ⟨by rw [List.length_set, List.length_set]; exact c.len, fun j e h => by
  by_cases hj : i = j
  · subst hj
    by_cases hi : i < ev.length
    · rw [List.getElem?_set_self hi] at h; cases h
    · rw [List.getElem?_eq_none (by rw [List.length_set]; omega)] at h; cases h
  · rw [List.getElem?_set_ne hj] at h ⊢
    exact c.vars j e h, c.hr⟩
end
def wipeE (ev : Ev) : List Nat → Ev
  | [] => ev
  | v :: vs => (wipeE ev vs).set v none
theorem Cn.wipe {K : KM} {σ : L2.St} {H : Hp} {ev : Ev} {g : Ah} (c : Cn K σ H ev g) : ∀ vs : List Nat, Cn K (wipe σ vs) H (wipeE ev vs) g
  | [] => c
  | v :: vs => (Cn.wipe c vs).unset v none
/-! ### readings -/
structure Xd where
  cls : Addr
  fs : List (Str × Dv) := []
def XRel (K : KM) (g : Ah) (H : Hp) (x : Xd) (cls : Value) (d : Option Addr) : Prop :=
  cls = .ref x.cls ∧ ((x.fs = [] ∧ d = none) ∨ ∃ dx fs, x.fs ≠ [] ∧ d = some dx ∧ H dx = some (.xd fs) ∧ g dx = none ∧ RpP K g H fs x.fs)
abbrev Xc := Xd → Ah → Prop
abbrev DQ := Dv → Ah → Prop
abbrev DE := Xc → Ev → Ah → DQ → Prop
abbrev DTs := Xc → Ev → Ah → (Bool → Ah → Prop) → Prop
abbrev DA := Xc → Ev → Ah → (List Dv → Ah → Prop) → Prop
structure De where
  nx : Ev → Ah → Prop
  rt : DQ
  bk : Ev → Ah → Prop
  ct : Ev → Ah → Prop
  ex : Xd → Ev → Ah → Prop
abbrev DS := De → Ev → Ah → Prop
abbrev DG := Xc → Dv → Ev → Ah → (Ev → Ah → Prop) → Prop
abbrev DI := Xc → Ev → Ah → (List Dv → (Ah → Prop) → Ah → Prop) → Prop
/-- the wish about a value, about exceptions -/
def QL (K : KM) (g : Ah) (H : Hp) (R : DQ) (Q : VK) : Prop := ∀ v d g' H', HR K g' H' → Stp g H g' H' → Rp K g' H' v d → R d g' → Q v H'
def XL (K : KM) (W : WX) (σ : L2.St) (g : Ah) (H : Hp) (X : Xc) : Prop := ∀ x cls d g' H', HR K g' H' → Stp g H g' H' → XRel K g' H' x cls d → X x g' → W cls d σ H'
section
variable {K : KM} {W : WX} {σ : L2.St} {g g' : Ah} {H H' : Hp} {R : DQ} {Q : VK} {X : Xc}
theorem QL.go (q : QL K g H R Q) (s : Stp g H g' H') : QL K g' H' R Q := fun v d g2 H2 r t p k => q v d g2 H2 r (s.trans t) p k
theorem XL.go (q : XL K W σ g H X) (s : Stp g H g' H') : XL K W σ g' H' X := fun x c d g2 H2 r t p k => q x c d g2 H2 r (s.trans t) p k
end
def lE (K : PySem.W.Frag) (W : WX) (D : DE) : TE := fun σ H Q => ∃ M ev g R X, Cn ⟨K, M⟩ σ H ev g ∧ D X ev g R ∧ QL ⟨K, M⟩ g H R Q ∧ XL ⟨K, M⟩ W σ g H X
def lT (K : PySem.W.Frag) (W : WX) (D : DTs) : TT := fun σ H Q => ∃ M ev g R X, Cn ⟨K, M⟩ σ H ev g ∧ D X ev g R ∧ (∀ b g' H', HR ⟨K, M⟩ g' H' → Stp g H g' H' → R b g' → Q b H') ∧ XL ⟨K, M⟩ W σ g H X
def lA (K : PySem.W.Frag) (W : WX) (D : DA) : TA := fun σ H Q => ∃ M ev g R X, Cn ⟨K, M⟩ σ H ev g ∧ D X ev g R ∧ (∀ vs ds g' H', HR ⟨K, M⟩ g' H' → Stp g H g' H' → RpAll ⟨K, M⟩ g' H' vs ds → R ds g' → Q vs H') ∧ XL ⟨K, M⟩ W σ g H X
structure EL (K : KM) (W : WX) (g : Ah) (H : Hp) (P : De) (E : Ends) : Prop where
  nx : ∀ σ' ev' g' H', Cn K σ' H' ev' g' → Stp g H g' H' → P.nx ev' g' → E.nx σ' H'
  rt : QL K g H P.rt E.rt
  bk : ∀ σ' ev' g' H', Cn K σ' H' ev' g' → Stp g H g' H' → P.bk ev' g' → E.bk σ' H'
  ct : ∀ σ' ev' g' H', Cn K σ' H' ev' g' → Stp g H g' H' → P.ct ev' g' → E.ct σ' H'
  ex : ∀ x cls d σ' ev' g' H', Cn K σ' H' ev' g' → Stp g H g' H' → XRel K g' H' x cls d → P.ex x ev' g' → W cls d σ' H'
def lS (K : PySem.W.Frag) (W : WX) (D : DS) : TS := fun E σ H => ∃ M ev g P, Cn ⟨K, M⟩ σ H ev g ∧ D P ev g ∧ EL ⟨K, M⟩ W g H P E
theorem EL.go {K : KM} {W : WX} {g g' : Ah} {H H' : Hp} {P : De} {E : Ends} (e : EL K W g H P E) (s : Stp g H g' H') : EL K W g' H' P E :=
  ⟨fun σ ev g2 H2 c t => e.nx σ ev g2 H2 c (s.trans t), e.rt.go s, fun σ ev g2 H2 c t => e.bk σ ev g2 H2 c (s.trans t), fun σ ev g2 H2 c t => e.ct σ ev g2 H2 c (s.trans t), fun x c d σ ev g2 H2 cn t => e.ex x c d σ ev g2 H2 cn (s.trans t)⟩
/-- the wish about exceptions, within a statement -/
theorem EL.xl {K : KM} {W : WX} {σ : L2.St} {ev : Ev} {g : Ah} {H : Hp} {P : De} {E : Ends} (e : EL K W g H P E) (c : Cn K σ H ev g) : XL K W σ g H (fun x g => P.ex x ev g) :=
  fun x cls d g' H' r s p k => e.ex x cls d σ ev g' H' (c.go r s) s p k
/-! ### what a value shows -/
def moV (a : Addr) : Option Mo → Dv
  | some (.lst xs) => .lst xs
  | some (.dct kvs) => .dct kvs
  | some (.dcT kvs) => .dcT kvs
  | _ => .ref a
def moL (a : Addr) : Option Mo → Dv
  | some (.lst xs) => .lst xs
  | _ => .ref a
def vw (g : Ah) : Dv → Dv
  | .ref a => moV a (g a)
  | .kl xs => .lst xs
  | .fz xs => .lst xs
  | .kt xs => .tup xs
  | .tq xs => .tup xs
  | d => d
/-- the same, of lists that are tracked or the module's -/
def vm (g : Ah) : Dv → Dv
  | .ref a => moL a (g a)
  | .kl xs => .lst xs
  | .tq xs => .kt xs
  | d => d
theorem vw_refE (g : Ah) (a : Addr) : vw g (.ref a) = moV a (g a) := rfl
theorem vm_refE (g : Ah) (a : Addr) : vm g (.ref a) = moL a (g a) := rfl
section
variable {K : KM} {g : Ah} {H : Hp} {v : V} {d : Dv} {xs : List Dv}
theorem vw_at (g : Ah) (a : Addr) : (∃ xs, g a = some (.lst xs) ∧ vw g (.ref a) = .lst xs) ∨ (∃ kvs, g a = some (.dct kvs) ∧ vw g (.ref a) = .dct kvs) ∨ (∃ kvs, g a = some (.dcT kvs) ∧ vw g (.ref a) = .dcT kvs) ∨ vw g (.ref a) = .ref a := by
  rw [vw_refE]
  cases q : g a with
  | none => exact .inr (.inr (.inr rfl))
  | some m =>
    cases m with
    | lst xs => exact .inl ⟨_, rfl, rfl⟩
    | dct xs => exact .inr (.inl ⟨_, rfl, rfl⟩)
    | dcT xs => exact .inr (.inr (.inl ⟨_, rfl, rfl⟩))
    | ins _ _ => exact .inr (.inr (.inr rfl))
    | lck _ _ _ => exact .inr (.inr (.inr rfl))
    | lckT _ _ _ => exact .inr (.inr (.inr rfl))
theorem vw_non (r : Rp K g H v d) (e : vw g d = .non) : v = .non := by
  cases r with
  | ref a => rcases vw_at g a with ⟨_, _, q⟩ | ⟨_, _, q⟩ | ⟨_, _, q⟩ | q <;> (rw [q] at e; cases e)
  | _ => cases e <;> rfl
theorem vw_bl {b : Bool} (r : Rp K g H v d) (e : vw g d = .bl b) : v = .bl b := by
  cases r with
  | ref a => rcases vw_at g a with ⟨_, _, q⟩ | ⟨_, _, q⟩ | ⟨_, _, q⟩ | q <;> (rw [q] at e; cases e)
  | _ => cases e <;> rfl
theorem vw_int {i : Int} (r : Rp K g H v d) (e : vw g d = .int i) : v = .int i := by
  cases r with
  | ref a => rcases vw_at g a with ⟨_, _, q⟩ | ⟨_, _, q⟩ | ⟨_, _, q⟩ | q <;> (rw [q] at e; cases e)
  | _ => cases e <;> rfl
theorem vw_str {x : Str} (r : Rp K g H v d) (e : vw g d = .str x) : v = .str x := by
  cases r with
  | ref a => rcases vw_at g a with ⟨_, _, q⟩ | ⟨_, _, q⟩ | ⟨_, _, q⟩ | q <;> (rw [q] at e; cases e)
  | _ => cases e <;> rfl
theorem vw_byt {x : Array UInt8} (r : Rp K g H v d) (e : vw g d = .byt x) : v = .byt x := by
  cases r with
  | ref a => rcases vw_at g a with ⟨_, _, q⟩ | ⟨_, _, q⟩ | ⟨_, _, q⟩ | q <;> (rw [q] at e; cases e)
  | _ => cases e <;> rfl
theorem vw_ty {x : String} (r : Rp K g H v d) (e : vw g d = .ty x) : v = .ty x := by
  cases r with
  | ref a => rcases vw_at g a with ⟨_, _, q⟩ | ⟨_, _, q⟩ | ⟨_, _, q⟩ | q <;> (rw [q] at e; cases e)
  | _ => cases e <;> rfl
theorem vw_ref {a : Addr} (r : Rp K g H v d) (e : vw g d = .ref a) : v = .ref a ∧ d = .ref a := by
  cases r with
  | ref b =>
    rcases vw_at g b with ⟨_, _, q⟩ | ⟨_, _, q⟩ | ⟨_, _, q⟩ | q
    · rw [q] at e; cases e
    · rw [q] at e; cases e
    · rw [q] at e; cases e
    · rw [q] at e; cases e; exact ⟨rfl, rfl⟩
  | _ => cases e
theorem vw_lst (r : Rp K g H v d) (hr : HR K g H) (e : vw g d = .lst xs) : ∃ a vs, v = .ref a ∧ SqL K.K H a vs ∧ RpAll K g H vs xs := by
  cases r with
  | ref a =>
    rw [vw_refE] at e
    cases q : g a with
    | none => rw [q] at e; cases e
    | some m =>
      rw [q] at e
      obtain ⟨o, h1, h2⟩ := hr.1 a m q
      cases m with
      | lst ys =>
        cases e
        cases o with
        | lst vs => exact ⟨a, vs, rfl, SqL.of h1, h2⟩
        | _ => exact h2.elim
      | _ => cases e
  | lst h1 h2 h3 r => cases e; exact ⟨_, _, rfl, SqL.of h3, r⟩
  | kl h r => cases e; exact ⟨_, _, rfl, h.sq H, r⟩
  | fz h1 h2 h3 r => cases e; exact ⟨_, _, rfl, .inl (.inr ⟨_, h3⟩), r⟩
  | fk h r => cases e; exact ⟨_, _, rfl, .inr h, r⟩
  | _ => cases e
theorem vw_tup (r : Rp K g H v d) (e : vw g d = .tup xs) : ∃ a vs, v = .ref a ∧ SqT K.K H a vs ∧ RpAll K g H vs xs := by
  cases r with
  | ref a => rcases vw_at g a with ⟨_, _, q⟩ | ⟨_, _, q⟩ | ⟨_, _, q⟩ | q <;> (rw [q] at e; cases e)
  | tup h1 h2 h3 r => cases e; exact ⟨_, _, rfl, SqT.of h3, r⟩
  | kt h r => cases e; exact ⟨_, _, rfl, .inr h, r⟩
  | tq h1 h2 h3 _ r => cases e; exact ⟨_, _, rfl, .inl (.inr ⟨_, h3⟩), r⟩
  | _ => cases e
theorem vw_dct {kvs : List (Key × Dv)} (r : Rp K g H v d) (hr : HR K g H) (e : vw g d = .dct kvs) : ∃ a vs, v = .ref a ∧ H a = some (.dK vs) ∧ RpP K g H vs kvs := by
  cases r with
  | ref a =>
    rw [vw_refE] at e
    cases q : g a with
    | none => rw [q] at e; cases e
    | some m =>
      rw [q] at e
      obtain ⟨o, h1, h2⟩ := hr.1 a m q
      cases m with
      | dct ys =>
        cases e
        cases o with
        | dK vs => exact ⟨a, vs, rfl, h1, h2⟩
        | _ => exact h2.elim
      | _ => cases e
  | dct h1 h2 h3 r => cases e; exact ⟨_, _, rfl, h3, r⟩
  | _ => cases e
theorem vw_dcT {kvs : List (List Key × Dv)} (r : Rp K g H v d) (hr : HR K g H) (e : vw g d = .dcT kvs) : ∃ a vs, v = .ref a ∧ H a = some (.dT vs) ∧ RpP K g H vs kvs := by
  cases r with
  | ref a =>
    rw [vw_refE] at e
    cases q : g a with
    | none => rw [q] at e; cases e
    | some m =>
      rw [q] at e
      obtain ⟨o, h1, h2⟩ := hr.1 a m q
      cases m with
      | dcT ys =>
        cases e
        cases o with
        | dT vs => exact ⟨a, vs, rfl, h1, h2⟩
        | _ => exact h2.elim
      | _ => cases e
  | dcT h1 h2 h3 r => cases e; exact ⟨_, _, rfl, h3, r⟩
  | _ => cases e
theorem vm_lst (r : Rp K g H v d) (hr : HR K g H) (e : vm g d = .lst xs) : ∃ a vs, v = .ref a ∧ (H a = some (.lst vs) ∨ PlK K.K a vs) ∧ RpAll K g H vs xs := by
  cases r with
  | ref a =>
    rw [vm_refE] at e
    cases q : g a with
    | none => rw [q] at e; cases e
    | some m =>
      rw [q] at e
      obtain ⟨o, h1, h2⟩ := hr.1 a m q
      cases m with
      | lst ys =>
        cases e
        cases o with
        | lst vs => exact ⟨a, vs, rfl, .inl h1, h2⟩
        | _ => exact h2.elim
      | _ => cases e
  | lst h1 h2 h3 r => cases e; exact ⟨_, _, rfl, .inl h3, r⟩
  | kl h r => cases e; exact ⟨_, _, rfl, .inr h, r⟩
  | _ => cases e
/-- a changing list, by its address -/
theorem mo_lst {a : Addr} (hr : HR K g H) (e : g a = some (.lst xs)) : ∃ vs, H a = some (.lst vs) ∧ RpAll K g H vs xs := by
  obtain ⟨o, h1, h2⟩ := hr.1 a _ e
  cases o with
  | lst vs => exact ⟨vs, h1, h2⟩
  | _ => exact h2.elim
theorem mo_dct {a : Addr} {kvs : List (Key × Dv)} (hr : HR K g H) (e : g a = some (.dct kvs)) : ∃ vs, H a = some (.dK vs) ∧ RpP K g H vs kvs := by
  obtain ⟨o, h1, h2⟩ := hr.1 a _ e
  cases o with
  | dK vs => exact ⟨vs, h1, h2⟩
  | _ => exact h2.elim
theorem mo_lck {a : Addr} {o : Obj} {us : List (Key × V)} {kvs : List (Key × Dv)} (hr : HR K g H) (e : g a = some (.lck o us kvs)) : H a = some (.frz o (.dK us)) ∧ RpP K g H us kvs := by
  obtain ⟨u, h1, h2⟩ := hr.1 a _ e
  cases u with
  | frz o' u =>
    obtain ⟨⟨rfl, rfl⟩, h2⟩ := h2
    exact ⟨h1, h2⟩
  | _ => exact h2.elim
theorem mo_lckT {a : Addr} {o : Obj} {us : List (List Key × V)} {kvs : List (List Key × Dv)} (hr : HR K g H) (e : g a = some (.lckT o us kvs)) : H a = some (.frz o (.dT us)) ∧ RpP K g H us kvs := by
  obtain ⟨u, h1, h2⟩ := hr.1 a _ e
  cases u with
  | frz o' u =>
    obtain ⟨⟨rfl, rfl⟩, h2⟩ := h2
    exact ⟨h1, h2⟩
  | _ => exact h2.elim
theorem mo_dcT {a : Addr} {kvs : List (List Key × Dv)} (hr : HR K g H) (e : g a = some (.dcT kvs)) : ∃ vs, H a = some (.dT vs) ∧ RpP K g H vs kvs := by
  obtain ⟨o, h1, h2⟩ := hr.1 a _ e
  cases o with
  | dT vs => exact ⟨vs, h1, h2⟩
  | _ => exact h2.elim
theorem mo_ins {a C : Addr} {fs : List (Str × Dv)} (hr : HR K g H) (e : g a = some (.ins C fs)) : ∃ dx vs, H a = some (.ins C dx vs) ∧ RpP K g H vs fs := by
  obtain ⟨o, h1, h2⟩ := hr.1 a _ e
  cases o with
  | ins C' dx vs =>
    obtain ⟨rfl, h2⟩ := h2
    exact ⟨dx, vs, h1, h2⟩
  | _ => exact h2.elim
end
/-! ### new lists, tuples: they stay, or they may change -/
abbrev Nw := List Dv → Ah → DQ → Prop
def NwOk (f : Nw) : Prop := ∀ (K : KM) (g : Ah) (H : Hp) (R : DQ) (Q : VK) (p : Addr) (vs : List V) (xs : List Dv), HR K g H → H p = none → RpAll K g H vs xs → f xs g R → QL K g H R Q → Q (.ref p) (upd H p (.lst vs))
def nF : Nw := fun xs g R => R (.lst xs) g
def nM : Nw := fun xs g R => ∀ a, g a = none → R (.ref a) (ups g a (.lst xs))
theorem nF_ok : NwOk nF := fun K g H R Q p vs xs hr hp r h q => q _ _ _ _ (hr_new hr hp) (stp_new hr hp) (.lst (hr_off hr hp) (hr_free hr hp) upd_same (r.go (stp_new hr hp))) h
theorem nM_ok : NwOk nM := fun K g H R Q p vs xs hr hp r h q => q _ _ _ _ (hr_put hr (.inl hp) (by exact r)) (stp_put hr (.inl hp)) (.ref p) (h p (hr_off hr hp))
theorem nT_ok {K : KM} {g : Ah} {H : Hp} {R : DQ} {Q : VK} {p : Addr} {vs : List V} {xs : List Dv} (hr : HR K g H) (hp : H p = none) (r : RpAll K g H vs xs) (h : R (.tup xs) g) (q : QL K g H R Q) : Q (.ref p) (upd H p (.tup vs)) :=
  q _ _ _ _ (hr_new hr hp) (stp_new hr hp) (.tup (hr_off hr hp) (hr_free hr hp) upd_same (r.go (stp_new hr hp))) h
/-! ### operators by data -/
abbrev DR2 := Dv → Dv → Ah → DQ → Prop
/-- an operator's reading by data, as a reading by values -/
def lR (K : PySem.W.Frag) (q : DR2) : R2 := fun x y H Q => ∃ M d e g R, HR ⟨K, M⟩ g H ∧ Rp ⟨K, M⟩ g H x d ∧ Rp ⟨K, M⟩ g H y e ∧ q d e g R ∧ QL ⟨K, M⟩ g H R Q
theorem ql_now {K : KM} {g : Ah} {H : Hp} {R : DQ} {Q : VK} {v : V} {d : Dv} (hr : HR K g H) (q : QL K g H R Q) (r : Rp K g H v d) (h : R d g) : Q v H := q v d g H hr .refl r h
theorem opm {X : Cx} {f : Value → Value → Sem Value} {r r' : R2} (h : OpR X f r) (k : ∀ x y H Q, r' x y H Q → r x y H Q) : OpR X f r' := fun pins s σ H x y v u Q I rx ry q => h pins s σ H x y v u Q I rx ry (k _ _ _ _ q)
def qAdd (n : Nw) : DR2 := fun d e g R => match vm g d, vm g e with
  | .int i, .int j => R (.int (i + j)) g
  | .str x, .str y => x.length + y.length ≤ sizeLine ∧ R (.str (x ++ y)) g
  | .byt x, .byt y => x.size + y.size ≤ 16777216 ∧ R (.byt (x ++ y)) g
  | .lst xs, .lst ys => xs.length + ys.length ≤ sizeLine ∧ n (xs ++ ys) g R
  | .tup xs, .tup ys => xs.length + ys.length ≤ sizeLine ∧ R (.tup (xs ++ ys)) g
  | _, _ => False
theorem vm_of {g : Ah} {d e : Dv} (h : vm g d = e) (h2 : ∀ a, e ≠ .ref a) (h3 : ∀ xs, e ≠ .fz xs) (h4 : ∀ xs, e ≠ .kt xs) : vw g d = e := by
  cases d with
  | ref a =>
    rw [vm_refE] at h
    rw [vw_refE]
    cases q : g a with
    | none => rw [q] at h; exact absurd h.symm (h2 a)
    | some m =>
      rw [q] at h
      cases m with
      | lst xs => exact h
      | _ => exact absurd h.symm (h2 a)
  | fz xs => exact absurd h.symm (h3 xs)
  | kt xs => exact absurd h.symm (h4 xs)
  | tq xs => exact absurd h.symm (h4 xs)
  | _ => exact h
theorem vm_tup {K : KM} {g : Ah} {H : Hp} {v : V} {d : Dv} {xs : List Dv} (r : Rp K g H v d) (e : vm g d = .tup xs) : d = .tup xs := by
  cases d with
  | ref a =>
    rw [vm_refE] at e
    cases q : g a with
    | none => rw [q] at e; cases e
    | some m =>
      rw [q] at e
      cases m <;> cases e
  | kl _ => cases e
  | tq _ => cases e
  | _ => exact e
theorem rp_tup {K : KM} {g : Ah} {H : Hp} {v : V} {xs : List Dv} (r : Rp K g H v (.tup xs)) : ∃ a vs, v = .ref a ∧ H a = some (.tup vs) ∧ RpAll K g H vs xs := by
  cases r with
  | tup h1 h2 h3 r => exact ⟨_, _, rfl, h3, r⟩
/-- the tuple is the same one where the other is empty -/
theorem oj_add {X : Cx} (K : PySem.W.Frag) {n : Nw} (hn : NwOk n) (hK : X.K = K := by rfl) : OpR X (binaryOp .Add) (lR K (qAdd n)) := by
  refine opm (op_add.or (op_addSt.or (op_add_byt.or ((op_catK K hK).or (op_catT0 K hK))))) fun x y H Q h => ?_
  obtain ⟨M, d, e, g, R, hr, rx, ry, q, k⟩ := h
  unfold qAdd at q
  split at q
  next i j e1 e2 =>
    obtain rfl := vw_int rx (vm_of e1 (fun _ z => nomatch z) (fun _ z => nomatch z) fun _ z => nomatch z)
    obtain rfl := vw_int ry (vm_of e2 (fun _ z => nomatch z) (fun _ z => nomatch z) fun _ z => nomatch z)
    exact .inl ⟨i, j, rfl, rfl, ql_now hr k (.int _) q⟩
  next i j e1 e2 =>
    obtain rfl := vw_str rx (vm_of e1 (fun _ z => nomatch z) (fun _ z => nomatch z) fun _ z => nomatch z)
    obtain rfl := vw_str ry (vm_of e2 (fun _ z => nomatch z) (fun _ z => nomatch z) fun _ z => nomatch z)
    exact .inr (.inl ⟨i, j, rfl, rfl, q.1, ql_now hr k (.str _) q.2⟩)
  next i j e1 e2 =>
    obtain rfl := vw_byt rx (vm_of e1 (fun _ z => nomatch z) (fun _ z => nomatch z) fun _ z => nomatch z)
    obtain rfl := vw_byt ry (vm_of e2 (fun _ z => nomatch z) (fun _ z => nomatch z) fun _ z => nomatch z)
    exact .inr (.inr (.inl ⟨i, j, rfl, rfl, q.1, ql_now hr k (.byt _) q.2⟩))
  next xs ys e1 e2 =>
    obtain ⟨a, vs, rfl, h1, r1⟩ := vm_lst rx hr e1
    obtain ⟨b, ws, rfl, h2, r2⟩ := vm_lst ry hr e2
    exact .inr (.inr (.inr (.inl ⟨a, b, vs, ws, rfl, rfl, h1, h2, by rw [r1.length, r2.length]; exact q.1, fun p hp => hn _ g H R Q p _ _ hr hp (r1.append r2) q.2 k⟩)))
  next xs ys e1 e2 =>
    obtain rfl := vm_tup rx e1
    obtain rfl := vm_tup ry e2
    obtain ⟨a, vs, rfl, h1, r1⟩ := rp_tup rx
    obtain ⟨b, ws, rfl, h2, r2⟩ := rp_tup ry
    refine .inr (.inr (.inr (.inr ⟨a, b, vs, ws, rfl, rfl, SqT.of h1, SqT.of h2, by rw [r1.length, r2.length]; exact q.1, fun z => ?_, fun _ z => ?_, fun _ _ p hp => nT_ok hr hp (r1.append r2) q.2 k⟩)))
    · subst z
      cases r1
      exact ql_now hr k ry q.2
    · subst z
      cases r2
      rw [List.append_nil] at q
      exact ql_now hr k rx q.2
  next => exact q.elim
/-! ### more operators by data -/
def qI (C : Int → Int → Prop) (f : Int → Int → Dv) : DR2 := fun d e g R => match vw g d, vw g e with
  | .int i, .int j => C i j ∧ R (f i j) g
  | _, _ => False
def qI0 (f : Int → Int → Dv) : DR2 := fun d e g R => match vw g d, vw g e with
  | .int i, .int j => R (f i j) g
  | _, _ => False
section
variable {X : Cx} (K : PySem.W.Frag) {f : Value → Value → Sem Value}
theorem oj_i {C : Int → Int → Prop} {g : Int → Int → Int} (h : OpR X f (rI C fun i j => .int (g i j))) : OpR X f (lR K (qI C fun i j => .int (g i j))) :=
  opm h fun x y H Q ⟨M, d, e, G, R, hr, rx, ry, q, k⟩ => by
    unfold qI at q
    split at q
    next i j e1 e2 =>
      obtain rfl := vw_int rx e1
      obtain rfl := vw_int ry e2
      exact ⟨i, j, rfl, rfl, q.1, ql_now hr k (.int _) q.2⟩
    next => exact q.elim
theorem oj_i0 {g : Int → Int → Int} (h : OpR X f (rI0 fun i j => .int (g i j))) : OpR X f (lR K (qI0 fun i j => .int (g i j))) :=
  opm h fun x y H Q ⟨M, d, e, G, R, hr, rx, ry, q, k⟩ => by
    unfold qI0 at q
    split at q
    next i j e1 e2 =>
      obtain rfl := vw_int rx e1
      obtain rfl := vw_int ry e2
      exact ⟨i, j, rfl, rfl, ql_now hr k (.int _) q⟩
    next => exact q.elim
theorem oj_b0 {g : Int → Int → Bool} (h : OpR X f (rI0 fun i j => .bl (g i j))) : OpR X f (lR K (qI0 fun i j => .bl (g i j))) :=
  opm h fun x y H Q ⟨M, d, e, G, R, hr, rx, ry, q, k⟩ => by
    unfold qI0 at q
    split at q
    next i j e1 e2 =>
      obtain rfl := vw_int rx e1
      obtain rfl := vw_int ry e2
      exact ⟨i, j, rfl, rfl, ql_now hr k (.bl _) q⟩
    next => exact q.elim
theorem oj_sub : OpR X (binaryOp .Sub) (lR K (qI0 fun i j => .int (i - j))) := oj_i0 K op_sub
theorem oj_mod : OpR X (binaryOp .Mod) (lR K (qI (fun _ j => 0 < j) fun i j => .int (i % j))) := oj_i K op_mod
theorem oj_fdiv : OpR X (binaryOp .FloorDiv) (lR K (qI CDivW fun i j => .int (i / j))) := oj_i K op_fdivW
theorem oj_pow : OpR X (binaryOp .Pow) (lR K (qI CPow fun i j => .int (i ^ j.toNat))) := oj_i K op_pow
theorem oj_xor : OpR X (binaryOp .BitXor) (lR K (qI0 fun i j => .int (Builtin.bitXor i j))) := oj_i0 K op_xor
theorem oj_band : OpR X (binaryOp .BitAnd) (lR K (qI0 fun i j => .int (Builtin.bitAnd i j))) := oj_i0 K op_and
theorem oj_bor : OpR X (binaryOp .BitOr) (lR K (qI0 fun i j => .int (Builtin.bitOr i j))) := oj_i0 K op_or
theorem oj_lshift : OpR X (binaryOp .LShift) (lR K (qI CPow fun i j => .int (i * 2 ^ j.toNat))) := oj_i K op_shl
theorem oj_rshift : OpR X (binaryOp .RShift) (lR K (qI (fun _ j => 0 ≤ j) fun i j => .int (i / 2 ^ j.toNat))) := oj_i K op_shr
end
theorem vm_lstM {K : KM} {g : Ah} {H : Hp} {v : V} {d : Dv} {xs : List Dv} (r : Rp K g H v d) (hr : HR K g H) (h : ∀ xs, d ≠ .kl xs) (e : vm g d = .lst xs) : ∃ a vs, v = .ref a ∧ H a = some (.lst vs) ∧ RpAll K g H vs xs := by
  cases r with
  | ref a =>
    rw [vm_refE] at e
    cases q : g a with
    | none => rw [q] at e; cases e
    | some m =>
      rw [q] at e
      cases m with
      | lst ys =>
        cases e
        obtain ⟨vs, h1, h2⟩ := mo_lst hr q
        exact ⟨a, vs, rfl, h1, h2⟩
      | _ => cases e
  | lst h1 h2 h3 r => cases e; exact ⟨_, _, rfl, h3, r⟩
  | kl h1 r => exact absurd rfl (h _)
  | _ => cases e
def vl (g : Ah) : Dv → Dv
  | .ref a => moL a (g a)
  | .tq xs => .kt xs
  | d => d
theorem vl_vm {g : Ah} {d e : Dv} (h : vl g d = e) (h2 : ∀ xs, e ≠ .kl xs) : vm g d = e ∧ ∀ xs, d ≠ .kl xs := by
  cases d with
  | kl xs => exact absurd h.symm (h2 xs)
  | ref a => exact ⟨h, fun _ z => nomatch z⟩
  | _ => exact ⟨h, fun _ z => nomatch z⟩
theorem vl_lst {K : KM} {g : Ah} {H : Hp} {v : V} {d : Dv} {xs : List Dv} (r : Rp K g H v d) (hr : HR K g H) (e : vl g d = .lst xs) : ∃ a vs, v = .ref a ∧ H a = some (.lst vs) ∧ RpAll K g H vs xs := by
  obtain ⟨h1, h2⟩ := vl_vm e (fun _ z => nomatch z)
  exact vm_lstM r hr h2 h1
theorem vl_of {g : Ah} {d e : Dv} (h : vl g d = e) (h1 : ∀ xs, e ≠ .kl xs) (h2 : ∀ a, e ≠ .ref a) (h3 : ∀ xs, e ≠ .fz xs) (h4 : ∀ xs, e ≠ .kt xs) : vw g d = e := vm_of (vl_vm h h1).1 h2 h3 h4
def qMul' (n : Nw) : DR2 := fun d e g R => match vl g d, vl g e with
  | .int i, .int j => (CMul i j ∨ CMulW i j) ∧ R (.int (i * j)) g
  | .lst xs, .int k => -(2 ^ 63) ≤ k ∧ k < 2 ^ 63 ∧ xs.length * k.toNat ≤ sizeLine ∧ n (List.replicate k.toNat xs).flatten g R
  | .str z, .int k => MulOk z k ∧ R (.str (Txt.mul z k)) g
  | _, _ => False
theorem oj_mul {X : Cx} (K : PySem.W.Frag) {n : Nw} (hn : NwOk n) : OpR X (binaryOp .Mult) (lR K (qMul' n)) := by
  refine opm ((op_mulW.or op_mul).or (op_mulS.or op_rep)) fun x y H Q h => ?_
  obtain ⟨M, d, e, g, R, hr, rx, ry, q, k⟩ := h
  unfold qMul' at q
  split at q
  next i j e1 e2 =>
    obtain rfl := vw_int rx (vl_of e1 (fun _ z => nomatch z) (fun _ z => nomatch z) (fun _ z => nomatch z) (fun _ z => nomatch z))
    obtain rfl := vw_int ry (vl_of e2 (fun _ z => nomatch z) (fun _ z => nomatch z) (fun _ z => nomatch z) (fun _ z => nomatch z))
    rcases q.1 with c | c
    · exact .inl (.inr ⟨i, j, rfl, rfl, c, ql_now hr k (.int _) q.2⟩)
    · exact .inl (.inl ⟨i, j, rfl, rfl, c, ql_now hr k (.int _) q.2⟩)
  next xs j e1 e2 =>
    obtain ⟨a, vs, rfl, h1, r1⟩ := vl_lst rx hr e1
    obtain rfl := vw_int ry (vl_of e2 (fun _ z => nomatch z) (fun _ z => nomatch z) (fun _ z => nomatch z) (fun _ z => nomatch z))
    exact .inr (.inr ⟨a, j, vs, rfl, rfl, h1, q.1, q.2.1, by rw [r1.length]; exact q.2.2.1, fun p hp => hn _ g H R Q p _ _ hr hp (r1.reps _) q.2.2.2 k⟩)
  next z j e1 e2 =>
    obtain rfl := vw_str rx (vl_of e1 (fun _ z => nomatch z) (fun _ z => nomatch z) (fun _ z => nomatch z) (fun _ z => nomatch z))
    obtain rfl := vw_int ry (vl_of e2 (fun _ z => nomatch z) (fun _ z => nomatch z) (fun _ z => nomatch z) (fun _ z => nomatch z))
    exact .inr (.inl ⟨z, j, rfl, rfl, q.1, ql_now hr k (.str _) q.2⟩)
  next => exact q.elim
/-! ### plain data: without objects that change -/
mutual
def pd : Dv → Option PyData
  | .non => some .none
  | .bl b => some (.bool b)
  | .int i => some (.int i)
  | .str x => some (.str x)
  | .lst xs => (pds xs).map .list
  | .kl xs => (pds xs).map .list
  | .fz xs => (pds xs).map .list
  | .tup xs => (pds xs).map .tuple
  | .kt xs => (pds xs).map .tuple
  | .tq xs => (pds xs).map .tuple
  | _ => none
def pds : List Dv → Option (List PyData)
  | [] => some []
  | d :: ds => (pd d).bind fun p => (pds ds).map (p :: ·)
end
theorem map_some {α β : Type} {f : α → β} {o : Option α} {b : β} (h : o.map f = some b) : ∃ a, o = some a ∧ b = f a := by
  cases o with
  | none => cases h
  | some a => cases h; exact ⟨a, rfl, rfl⟩
mutual
theorem Rp.dp {K : KM} {g : Ah} {H : Hp} : ∀ {v : V} {d : Dv} {p : PyData}, Rp K g H v d → pd d = some p → Dp K.K H v p
  | _, _, _, .non, e => by cases e; exact .non
  | _, _, _, .bl b, e => by cases e; exact .bl b
  | _, _, _, .int b, e => by cases e; exact .int b
  | _, _, _, .str b, e => by cases e; exact .str b
  | _, _, _, .lst _ _ h r, e => by
    obtain ⟨qs, e1, rfl⟩ := map_some e
    exact .lst (SqL.of h) (RpAll.dp r e1)
  | _, _, _, .kl h r, e => by
    obtain ⟨qs, e1, rfl⟩ := map_some e
    exact .lst (h.sq H) (RpAll.dp r e1)
  | _, _, _, .fz _ _ h r, e => by
    obtain ⟨qs, e1, rfl⟩ := map_some e
    exact .lst (.inl (.inr ⟨_, h⟩)) (RpAll.dp r e1)
  | _, _, _, .fk h r, e => by
    obtain ⟨qs, e1, rfl⟩ := map_some e
    exact .lst (.inr h) (RpAll.dp r e1)
  | _, _, _, .tup _ _ h r, e => by
    obtain ⟨qs, e1, rfl⟩ := map_some e
    exact .tup (SqT.of h) (RpAll.dp r e1)
  | _, _, _, .kt h r, e => by
    obtain ⟨qs, e1, rfl⟩ := map_some e
    exact .tup (.inr h) (RpAll.dp r e1)
  | _, _, _, .tq _ _ h _ r, e => by
    obtain ⟨qs, e1, rfl⟩ := map_some e
    exact .tup (.inl (.inr ⟨_, h⟩)) (RpAll.dp r e1)
theorem RpAll.dp {K : KM} {g : Ah} {H : Hp} : ∀ {vs : List V} {ds : List Dv} {ps : List PyData}, RpAll K g H vs ds → pds ds = some ps → DpAll K.K H vs ps
  | _, _, _, .nil, e => by cases e; exact .nil
  | _, _, _, .cons h r, e => by
    unfold pds at e
    cases q : pd _ with
    | none => rw [q] at e; cases e
    | some p =>
      rw [q] at e
      obtain ⟨qs, e1, rfl⟩ := map_some e
      exact .cons (Rp.dp h q) (RpAll.dp r e1)
end
/-- as plain data, at an object that changes: its list -/
def pvw (g : Ah) (d : Dv) : Option PyData := pd (vl g d)
theorem Rp.dpv {K : KM} {g : Ah} {H : Hp} {v : V} {d : Dv} {p : PyData} (r : Rp K g H v d) (hr : HR K g H) (e : pvw g d = some p) : Dp K.K H v p := by
  cases d with
  | ref a =>
    unfold pvw at e
    cases q : g a with
    | none => rw [show vl g (.ref a) = moL a (g a) from rfl, q] at e; cases e
    | some m =>
      rw [show vl g (.ref a) = moL a (g a) from rfl, q] at e
      cases m with
      | lst xs =>
        obtain ⟨vs, h1, h2⟩ := mo_lst hr q
        obtain ⟨qs, e1, rfl⟩ := map_some e
        cases r
        exact .lst (SqL.of h1) (h2.dp e1)
      | _ => cases e
  | _ => exact r.dp e
def qEq (b : Bool) : DR2 := fun d e g R => (∃ x y, d = .str x ∧ e = .str y ∧ R (.bl ((x == y) == b)) g) ∨ (match pvw g d, pvw g e with
  | some p, some q => SeqAt.shaped p = true ∧ SeqAt.shaped q = true ∧ R (.bl (PyData.eqv p q == b)) g
  | _, _ => False)
theorem op_eqS {X : Cx} : OpR X (compareOp .Eq) (fun x y H Q => ∃ i j, x = .str i ∧ y = .str j ∧ Q (.bl (i == j)) H) := by
  intro pins s σ H x y v u Q I rx ry h
  obtain ⟨i, j, rfl, rfl, q⟩ := h
  obtain ⟨t, rfl⟩ := rx
  obtain ⟨t', rfl⟩ := ry
  exact PyProof.Rows.eq_str (fin_bl I q rfl)
theorem op_neS {X : Cx} : OpR X (compareOp .NotEq) (fun x y H Q => ∃ i j, x = .str i ∧ y = .str j ∧ Q (.bl (i != j)) H) := by
  intro pins s σ H x y v u Q I rx ry h
  obtain ⟨i, j, rfl, rfl, q⟩ := h
  obtain ⟨t, rfl⟩ := rx
  obtain ⟨t', rfl⟩ := ry
  exact PyProof.Rows.ne_str (fin_bl I q rfl)
section
variable {X : Cx} (K : PySem.W.Frag)
theorem oj_eq (hu : X.A.units + 64 < cLine) (hK : X.K = K := by rfl) : OpR X (compareOp .Eq) (lR K (qEq true)) :=
  opm (op_eqS.or (op_eqDK K hu hK)) fun x y H Q ⟨M, d, e, g, R, hr, rx, ry, q, k⟩ => by
    rcases q with ⟨i, j, rfl, rfl, q⟩ | q
    · cases rx; cases ry
      exact .inl ⟨i, j, rfl, rfl, ql_now hr k (.bl _) (by rw [show ((i == j) == true) = (i == j) by simp] at q; exact q)⟩
    refine .inr ?_
    split at q
    next p p' e1 e2 => exact ⟨p, p', rx.dpv hr e1, ry.dpv hr e2, q.1, q.2.1, ql_now hr k (.bl _) (by have := q.2.2; rw [show (PyData.eqv p p' == true) = PyData.eqv p p' by simp] at this; exact this)⟩
    next => exact q.elim
theorem oj_ne (hu : X.A.units + 64 < cLine) (hK : X.K = K := by rfl) : OpR X (compareOp .NotEq) (lR K (qEq false)) :=
  opm (op_neS.or (op_neDK K hu hK)) fun x y H Q ⟨M, d, e, g, R, hr, rx, ry, q, k⟩ => by
    rcases q with ⟨i, j, rfl, rfl, q⟩ | q
    · cases rx; cases ry
      exact .inl ⟨i, j, rfl, rfl, ql_now hr k (.bl _) (by rw [show ((i == j) == false) = (i != j) by unfold bne; cases (i == j) <;> rfl] at q; exact q)⟩
    refine .inr ?_
    split at q
    next p p' e1 e2 => exact ⟨p, p', rx.dpv hr e1, ry.dpv hr e2, q.1, q.2.1, ql_now hr k (.bl _) (by have := q.2.2; rw [show (PyData.eqv p p' == false) = !PyData.eqv p p' by cases PyData.eqv p p' <;> rfl] at this; exact this)⟩
    next => exact q.elim
/-- is None, is not None -/
def isNon : Dv → Bool
  | .non => true
  | _ => false
def qIs (b : Bool) : DR2 := fun d e g R => match vl g e with
  | .non => R (.bl (isNon d == b)) g
  | _ => False
theorem is_non {K : KM} {g : Ah} {H : Hp} {v : V} {d : Dv} (r : Rp K g H v d) : decide (v = .non) = isNon d := by
  cases r <;> rfl
theorem oj_is : OpR X (compareOp .Is) (lR K (qIs true)) :=
  opm op_isN fun x y H Q ⟨M, d, e, g, R, hr, rx, ry, q, k⟩ => by
    unfold qIs at q
    split at q
    next e1 =>
      refine ⟨vw_non ry (vl_of e1 (fun _ z => nomatch z) (fun _ z => nomatch z) (fun _ z => nomatch z) (fun _ z => nomatch z)), ?_⟩
      rw [is_non rx]
      exact ql_now hr k (.bl _) (by rw [show (∀ b : Bool, (b == true) = b) by simp] at q; exact q)
    next => exact q.elim
theorem oj_isnot : OpR X (compareOp .IsNot) (lR K (qIs false)) :=
  opm op_notN fun x y H Q ⟨M, d, e, g, R, hr, rx, ry, q, k⟩ => by
    unfold qIs at q
    split at q
    next e1 =>
      refine ⟨vw_non ry (vl_of e1 (fun _ z => nomatch z) (fun _ z => nomatch z) (fun _ z => nomatch z) (fun _ z => nomatch z)), ?_⟩
      rw [is_non rx]
      exact ql_now hr k (.bl _) (by rw [show (∀ b : Bool, (b == false) = !b) by simp] at q; exact q)
    next => exact q.elim
end
/-! order -/
def qLt (sw neg : Bool) : DR2 := fun d e g R => match vl g d, vl g e with
  | .int i, .int j => R (.bl (if neg then !(if sw then decide (j < i) else decide (i < j)) else if sw then decide (j < i) else decide (i < j))) g
  | .str x, .str y => R (.bl (if neg then !(if sw then decide (y.cps.toList < x.cps.toList) else decide (x.cps.toList < y.cps.toList)) else if sw then decide (y.cps.toList < x.cps.toList) else decide (x.cps.toList < y.cps.toList))) g
  | .tup xs, .tup ys => neg = false ∧ ∃ p q o, pds xs = some p ∧ pds ys = some q ∧ Cm (.tuple p) (.tuple q) o ∧ SeqAt.shaped (.tuple p) = true ∧ SeqAt.shaped (.tuple q) = true ∧ R (.bl (if sw then o == .gt else o == .lt)) g
  | _, _ => False
section
variable {X : Cx} (K : PySem.W.Frag)
theorem rp_tupP {K : KM} {g : Ah} {H : Hp} {v : V} {d : Dv} {xs : List Dv} {p : List PyData} (r : Rp K g H v d) (e : vl g d = .tup xs) (h : pds xs = some p) : Dp K.K H v (.tuple p) := by
  have e2 : d = .tup xs := by
    cases d with
    | ref a =>
      exfalso
      rw [show vl g (.ref a) = moL a (g a) from rfl] at e
      cases q : g a with
      | none => rw [q] at e; cases e
      | some m => rw [q] at e; cases m <;> cases e
    | tq _ => cases e
    | _ => exact e
  subst e2
  exact r.dp (by show (pds xs).map PyData.tuple = _; rw [h]; rfl)
theorem oj_lt (hu : X.A.units + 70 < cLine) (hK : X.K = K := by rfl) : OpR X (compareOp .Lt) (lR K (qLt false false)) :=
  opm (op_lt.or (op_lt_str.or (op_ltC hu K hK))) fun x y H Q ⟨M, d, e, g, R, hr, rx, ry, q, k⟩ => by
    unfold qLt at q
    split at q
    next i j e1 e2 =>
      obtain rfl := vw_int rx (vl_of e1 (fun _ z => nomatch z) (fun _ z => nomatch z) (fun _ z => nomatch z) (fun _ z => nomatch z))
      obtain rfl := vw_int ry (vl_of e2 (fun _ z => nomatch z) (fun _ z => nomatch z) (fun _ z => nomatch z) (fun _ z => nomatch z))
      exact .inl ⟨i, j, rfl, rfl, ql_now hr k (.bl _) q⟩
    next i j e1 e2 =>
      obtain rfl := vw_str rx (vl_of e1 (fun _ z => nomatch z) (fun _ z => nomatch z) (fun _ z => nomatch z) (fun _ z => nomatch z))
      obtain rfl := vw_str ry (vl_of e2 (fun _ z => nomatch z) (fun _ z => nomatch z) (fun _ z => nomatch z) (fun _ z => nomatch z))
      exact .inr (.inl ⟨i, j, rfl, rfl, ql_now hr k (.bl _) q⟩)
    next xs ys e1 e2 =>
      obtain ⟨_, p, p', o, h1, h2, c, s1, s2, q⟩ := q
      exact .inr (.inr ⟨_, _, o, rp_tupP rx e1 h1, rp_tupP ry e2 h2, c, s1, s2, ql_now hr k (.bl _) q⟩)
    next => exact q.elim
theorem oj_gt (hu : X.A.units + 70 < cLine) (hK : X.K = K := by rfl) : OpR X (compareOp .Gt) (lR K (qLt true false)) :=
  opm (op_gt.or (op_gt_str.or (op_gtC hu K hK))) fun x y H Q ⟨M, d, e, g, R, hr, rx, ry, q, k⟩ => by
    unfold qLt at q
    split at q
    next i j e1 e2 =>
      obtain rfl := vw_int rx (vl_of e1 (fun _ z => nomatch z) (fun _ z => nomatch z) (fun _ z => nomatch z) (fun _ z => nomatch z))
      obtain rfl := vw_int ry (vl_of e2 (fun _ z => nomatch z) (fun _ z => nomatch z) (fun _ z => nomatch z) (fun _ z => nomatch z))
      exact .inl ⟨i, j, rfl, rfl, ql_now hr k (.bl _) q⟩
    next i j e1 e2 =>
      obtain rfl := vw_str rx (vl_of e1 (fun _ z => nomatch z) (fun _ z => nomatch z) (fun _ z => nomatch z) (fun _ z => nomatch z))
      obtain rfl := vw_str ry (vl_of e2 (fun _ z => nomatch z) (fun _ z => nomatch z) (fun _ z => nomatch z) (fun _ z => nomatch z))
      exact .inr (.inl ⟨i, j, rfl, rfl, ql_now hr k (.bl _) q⟩)
    next xs ys e1 e2 =>
      obtain ⟨_, p, p', o, h1, h2, c, s1, s2, q⟩ := q
      exact .inr (.inr ⟨_, _, o, rp_tupP rx e1 h1, rp_tupP ry e2 h2, c, s1, s2, ql_now hr k (.bl _) q⟩)
    next => exact q.elim
theorem oj_ge : OpR X (compareOp .GtE) (lR K (qLt false true)) :=
  opm (op_ge.or op_ge_str) fun x y H Q ⟨M, d, e, g, R, hr, rx, ry, q, k⟩ => by
    unfold qLt at q
    split at q
    next i j e1 e2 =>
      obtain rfl := vw_int rx (vl_of e1 (fun _ z => nomatch z) (fun _ z => nomatch z) (fun _ z => nomatch z) (fun _ z => nomatch z))
      obtain rfl := vw_int ry (vl_of e2 (fun _ z => nomatch z) (fun _ z => nomatch z) (fun _ z => nomatch z) (fun _ z => nomatch z))
      refine .inl ⟨i, j, rfl, rfl, ql_now hr k (.bl _) ?_⟩
      rw [show decide (i ≥ j) = !decide (i < j) by by_cases h : i < j <;> simp [h] <;> omega]
      exact q
    next i j e1 e2 =>
      obtain rfl := vw_str rx (vl_of e1 (fun _ z => nomatch z) (fun _ z => nomatch z) (fun _ z => nomatch z) (fun _ z => nomatch z))
      obtain rfl := vw_str ry (vl_of e2 (fun _ z => nomatch z) (fun _ z => nomatch z) (fun _ z => nomatch z) (fun _ z => nomatch z))
      exact .inr ⟨i, j, rfl, rfl, ql_now hr k (.bl _) q⟩
    next xs ys e1 e2 => exact absurd q.1 (by decide)
    next => exact q.elim
theorem oj_le : OpR X (compareOp .LtE) (lR K (qLt true true)) :=
  opm (op_le.or op_le_str) fun x y H Q ⟨M, d, e, g, R, hr, rx, ry, q, k⟩ => by
    unfold qLt at q
    split at q
    next i j e1 e2 =>
      obtain rfl := vw_int rx (vl_of e1 (fun _ z => nomatch z) (fun _ z => nomatch z) (fun _ z => nomatch z) (fun _ z => nomatch z))
      obtain rfl := vw_int ry (vl_of e2 (fun _ z => nomatch z) (fun _ z => nomatch z) (fun _ z => nomatch z) (fun _ z => nomatch z))
      refine .inl ⟨i, j, rfl, rfl, ql_now hr k (.bl _) ?_⟩
      rw [show decide (i ≤ j) = !decide (j < i) by by_cases h : j < i <;> simp [h] <;> omega]
      exact q
    next i j e1 e2 =>
      obtain rfl := vw_str rx (vl_of e1 (fun _ z => nomatch z) (fun _ z => nomatch z) (fun _ z => nomatch z) (fun _ z => nomatch z))
      obtain rfl := vw_str ry (vl_of e2 (fun _ z => nomatch z) (fun _ z => nomatch z) (fun _ z => nomatch z) (fun _ z => nomatch z))
      exact .inr ⟨i, j, rfl, rfl, ql_now hr k (.bl _) q⟩
    next xs ys e1 e2 => exact absurd q.1 (by decide)
    next => exact q.elim
end
/-! ### expressions -/
theorem pem {X : Cx} {e : Expr} {t t' : TE} (h : PE X e t) (k : ∀ σ H Q, t' σ H Q → t σ H Q) : PE X e t' := ⟨fun pins s σ H Q I q => h.run pins s σ H Q I (k σ H Q q)⟩
theorem ptm {X : Cx} {e : Expr} {t t' : TT} (h : PT X e t) (k : ∀ σ H Q, t' σ H Q → t σ H Q) : PT X e t' := ⟨fun pins s σ H Q I q => h.run pins s σ H Q I (k σ H Q q)⟩
theorem pwm {X : Cx} {e : Expr} {t t' : TT} (h : PW X e t) (k : ∀ σ H Q, t' σ H Q → t σ H Q) : PW X e t' := ⟨fun w pins s σ H Q I q => h.run w pins s σ H Q I (k σ H Q q)⟩
theorem pam {X : Cx} {e : List Expr} {t t' : TA} (h : PA X e t) (k : ∀ σ H Q, t' σ H Q → t σ H Q) : PA X e t' := ⟨fun p pins s σ H Q I q => h.run p pins s σ H Q I (k σ H Q q)⟩
theorem psm {X : Cx} {st : Stmt} {t t' : TS} (h : PS X st t) (k : ∀ D σ H, t' D σ H → t D σ H) : PS X st t' := ⟨fun pins s σ H D I q => h.run pins s σ H D I (k D σ H q)⟩
theorem pssm {X : Cx} {st : List Stmt} {t t' : TS} (h : PSs X st t) (k : ∀ D σ H, t' D σ H → t D σ H) : PSs X st t' := ⟨fun pins s σ H D I q => h.run pins s σ H D I (k D σ H q)⟩
def gv : Ev → Nat → (Dv → Prop) → Prop
  | some d :: _, 0, k => k d
  | _ :: r, n + 1, k => gv r n k
  | _, _, _ => False
theorem gv_ok {k : Dv → Prop} : ∀ {ev : Ev} {i : Nat}, gv ev i k → ∃ d, ev[i]? = some (some d) ∧ k d
  | [], _, h => h.elim
  | some d :: _, 0, h => ⟨d, rfl, h⟩
  | none :: _, 0, h => h.elim
  | x :: r, n + 1, h => by
    obtain ⟨d, e, q⟩ := gv_ok (ev := r) (i := n) (by cases x <;> exact h)
    exact ⟨d, by simpa using e, q⟩
def dVar (i : Nat) : DE := fun _ ev g R => gv ev i fun d => R d g
def dC (d : Dv) : DE := fun _ _ g R => R d g
def dOp (q : DR2) (a b : DE) : DE := fun X ev g R => a X ev g fun x g1 => b X ev g1 fun y g2 => q x y g2 R
def dUn (q : Dv → Ah → DQ → Prop) (a : DE) : DE := fun X ev g R => a X ev g fun x g1 => q x g1 R
def tvw (g : Ah) (d : Dv) (R : Bool → Prop) : Prop := match vw g d with
  | .non => R false
  | .bl b => R b
  | .int i => R (i != 0)
  | .str y => y.length ≤ sizeLine ∧ R ((y.length : Int) != 0)
  | .lst xs => R (!xs.isEmpty)
  | .tup xs => R (!xs.isEmpty)
  | .dct xs => R (!xs.isEmpty)
  | _ => False
def asB (R : Bool → Ah → Prop) : DQ := fun d g => match d with
  | .bl b => R b g
  | _ => False
def dTru (a : DE) : DTs := fun X ev g R => a X ev g fun d g1 => tvw g1 d fun b => R b g1
def dTst (a : DE) : DTs := fun X ev g R => a X ev g (asB R)
def dtNot (t : DTs) : DTs := fun X ev g R => t X ev g fun b g1 => R (!b) g1
def dtAnd (t u : DTs) : DTs := fun X ev g R => t X ev g fun b g1 => if b = true then u X ev g1 R else R false g1
def dtOr (t u : DTs) : DTs := fun X ev g R => t X ev g fun b g1 => if b = true then R true g1 else u X ev g1 R
def dAnd (a b : DE) : DE := fun X ev g R => a X ev g fun d g1 => tvw g1 d fun k => if k = true then b X ev g1 R else R d g1
def dOr (a b : DE) : DE := fun X ev g R => a X ev g fun d g1 => tvw g1 d fun k => if k = true then R d g1 else b X ev g1 R
def dNot (a : DE) : DE := fun X ev g R => a X ev g fun d g1 => tvw g1 d fun k => R (.bl (!k)) g1
def dIf (t : DTs) (a b : DE) : DE := fun X ev g R => t X ev g fun k g1 => if k = true then a X ev g1 R else b X ev g1 R
def dNil : DA := fun _ _ g R => R [] g
def dCons (a : DE) (t : DA) : DA := fun X ev g R => a X ev g fun d g1 => t X ev g1 fun ds g2 => R (d :: ds) g2
def dLst (n : Nw) (t : DA) : DE := fun X ev g R => t X ev g fun ds g1 => ds.length ≤ sizeLine ∧ n ds g1 R
def dTup (t : DA) : DE := fun X ev g R => t X ev g fun ds g1 => ds.length ≤ sizeLine ∧ R (.tup ds) g1
def dChain (q q' : DR2) (a b c : DE) : DE := fun X ev g R => a X ev g fun x g1 => b X ev g1 fun y g2 => q x y g2 (asB fun k g3 => if k = true then c X ev g3 fun z g4 => q' y z g4 R else R (.bl false) g3)
/-- it will not change any more -/
def frzQ (R : DQ) : DQ := fun d g => match d with
  | .ref a => match g a with
    | some (.lst xs) => R (.lst xs) (del g a)
    | some (.dct kvs) => R (.dct kvs) (del g a)
    | some (.dcT kvs) => R (.dcT kvs) (del g a)
    | _ => R d g
  | _ => R d g
def dFrz (a : DE) : DE := fun X ev g R => a X ev g (frzQ R)
section
variable {X : Cx} {W : WX} {K : PySem.W.Frag} {e a b c : Expr} {es : List Expr} {Da Db Dc : DE} {Dt : DA} {t u : DTs} {pos : Pos}
theorem de_var {i : Nat} (h : PE X e (tVar i)) : PE X e (lE K W (dVar i)) := pem h fun σ H Q ⟨M, ev, g, R, Y, c, d, q, x⟩ => by
  obtain ⟨d, e, k⟩ := gv_ok d
  obtain ⟨v, h1, h2⟩ := c.vars _ _ e
  exact ⟨v, h1, ql_now c.hr q h2 k⟩
theorem de_c {v : V} {d : Dv} (h : PE X e (tC v)) (r : ∀ M g H, Rp ⟨K, M⟩ g H v d) : PE X e (lE K W (dC d)) := pem h fun σ H Q ⟨M, ev, g, R, Y, c, d, q, x⟩ => ql_now c.hr q (r M g H) d
theorem de_int {i : Int} (h : PE X e (tC (.int i))) : PE X e (lE K W (dC (.int i))) := de_c h fun _ _ _ => .int _
theorem de_bl {i : Bool} (h : PE X e (tC (.bl i))) : PE X e (lE K W (dC (.bl i))) := de_c h fun _ _ _ => .bl _
theorem de_str {i : Str} (h : PE X e (tC (.str i))) : PE X e (lE K W (dC (.str i))) := de_c h fun _ _ _ => .str _
theorem de_non (h : PE X e (tC .non)) : PE X e (lE K W (dC .non)) := de_c h fun _ _ _ => .non
theorem de_ty {n : String} (h : PE X e (tC (.ty n))) : PE X e (lE K W (dC (.ty n))) := de_c h fun _ _ _ => .ty _
theorem de_ref {n : Addr} (h : PE X e (tC (.ref n))) : PE X e (lE K W (dC (.ref n))) := de_c h fun _ _ _ => .ref _
theorem de_byt {n : Array UInt8} (h : PE X e (tC (.byt n))) : PE X e (lE K W (dC (.byt n))) := de_c h fun _ _ _ => .byt _
theorem lop {r : R2} {q : DR2} {σ : L2.St} {H : Hp} {Q : VK} (h : lE K W (dOp q Da Db) σ H Q) (k : ∀ x y H Q, lR K q x y H Q → r x y H Q) : tOp r (lE K W Da) (lE K W Db) σ H Q := by
  obtain ⟨M, ev, g, R, Y, c, d, q, x⟩ := h
  exact ⟨M, ev, g, _, Y, c, d, fun v1 d1 g1 H1 hr1 s1 r1 h1 => ⟨M, ev, g1, _, Y, c.go hr1 s1, h1, fun v2 d2 g2 H2 hr2 s2 r2 h2 => k _ _ _ _ ⟨M, d1, d2, g2, R, hr2, r1.go s2, r2, h2, q.go (s1.trans s2)⟩, x.go s1⟩, x⟩
theorem de_op {op : Operator} {q : DR2} (ho : OpR X (binaryOp op) (lR K q)) (ha : PE X a (lE K W Da)) (hb : PE X b (lE K W Db)) : PE X (.BinOp a op b pos) (lE K W (dOp q Da Db)) := pem (pe_op ho ha hb) fun _ _ _ h => lop h fun _ _ _ _ z => z
theorem de_cmp {op : CmpOp} {q : DR2} (ho : OpR X (compareOp op) (lR K q)) (ha : PE X a (lE K W Da)) (hb : PE X b (lE K W Db)) (hm : behindInMarks op b = false) : PE X (.Compare a [op] [b] pos) (lE K W (dOp q Da Db)) := pem (pe_cmpR ho ha hb hm) fun _ _ _ h => lop h fun _ _ _ _ z => z
theorem de_ix {q : DR2} (ho : IxR X (lR K q)) (ha : PE X a (lE K W Da)) (hb : PE X b (lE K W Db)) (hs : PlainIx b) : PE X (.Subscript a b pos) (lE K W (dOp q Da Db)) := pem (pe_ix ho ha hb hs) fun _ _ _ h => lop h fun _ _ _ _ z => z
theorem asB_ok {KK : KM} {g : Ah} {H : Hp} {R : Bool → Ah → Prop} {QB : Bool → Hp → Prop} (h : ∀ b g' H', HR KK g' H' → Stp g H g' H' → R b g' → QB b H') : QL KK g H (asB R) (fun x H' => ∃ k, x = .bl k ∧ QB k H') := fun v d g' H' hr s r k => by
  cases r <;> first | exact False.elim k | exact ⟨_, rfl, h _ _ _ hr s k⟩
theorem dt_cmp {op : CmpOp} {q : DR2} (ho : OpR X (compareOp op) (lR K q)) (ha : PE X a (lE K W Da)) (hb : PE X b (lE K W Db)) (hm : behindInMarks op b = false) : PT X (.Compare a [op] [b] pos) (lT K W (dTst (dOp q Da Db))) :=
  ptm (pt_cmpR ho ha hb hm) fun σ H Q ⟨M, ev, g, R, Y, c, d, q, x⟩ => lop (q := _) ⟨M, ev, g, _, Y, c, d, asB_ok q, x⟩ fun _ _ _ _ z => z
theorem de_chain {op op' : CmpOp} {q q' : DR2} (ho : OpR X (compareOp op) (lR K q)) (ho' : OpR X (compareOp op') (lR K q')) (ha : PE X a (lE K W Da)) (hb : PE X b (lE K W Db)) (hc : PE X c (lE K W Dc))
    (hm : lastMarks [op, op'] [b, c] = false := by with_unfolding_all rfl) : PE X (.Compare a [op, op'] [b, c] pos) (lE K W (dChain q q' Da Db Dc)) :=
  pem (pe_chain ho ho' ha hb hc hm) fun σ H Q ⟨M, ev, g, R, Y, c, d, k, x⟩ => ⟨M, ev, g, _, Y, c, d, fun v1 d1 g1 H1 hr1 s1 r1 h1 => ⟨M, ev, g1, _, Y, c.go hr1 s1, h1, fun v2 d2 g2 H2 hr2 s2 r2 h2 =>
    ⟨M, d1, d2, g2, _, hr2, r1.go s2, r2, h2, asB_ok fun b g3 H3 hr3 s3 h3 => by
      cases b with
      | true =>
        rw [if_pos rfl] at h3 ⊢
        exact ⟨M, ev, g3, _, Y, c.go hr3 ((s1.trans s2).trans s3), h3, fun v4 d4 g4 H4 hr4 s4 r4 h4 => ⟨M, d2, d4, g4, R, hr4, r2.go (s3.trans s4), r4, h4, k.go (((s1.trans s2).trans s3).trans s4)⟩, x.go ((s1.trans s2).trans s3)⟩
      | false =>
        rw [if_neg (by decide)] at h3 ⊢
        exact k _ _ _ _ hr3 ((s1.trans s2).trans s3) (.bl false) h3⟩, x.go s1⟩, x⟩
theorem dt_chain {op op' : CmpOp} {q q' : DR2} (ho : OpR X (compareOp op) (lR K q)) (ho' : OpR X (compareOp op') (lR K q')) (ha : PE X a (lE K W Da)) (hb : PE X b (lE K W Db)) (hc : PE X c (lE K W Dc))
    (hm : lastMarks [op, op'] [b, c] = false := by with_unfolding_all rfl) : PT X (.Compare a [op, op'] [b, c] pos) (lT K W (dTst (dChain q q' Da Db Dc))) :=
  ptm (pt_chain ho ho' ha hb hc hm) fun σ H Q ⟨M, ev, g, R, Y, c, d, k, x⟩ => ⟨M, ev, g, _, Y, c, d, fun v1 d1 g1 H1 hr1 s1 r1 h1 => ⟨M, ev, g1, _, Y, c.go hr1 s1, h1, fun v2 d2 g2 H2 hr2 s2 r2 h2 =>
    ⟨M, d1, d2, g2, _, hr2, r1.go s2, r2, h2, asB_ok fun b g3 H3 hr3 s3 h3 => by
      cases b with
      | true =>
        rw [if_pos rfl] at h3 ⊢
        exact ⟨M, ev, g3, _, Y, c.go hr3 ((s1.trans s2).trans s3), h3, fun v4 d4 g4 H4 hr4 s4 r4 h4 => ⟨M, d2, d4, g4, _, hr4, r2.go (s3.trans s4), r4, h4, asB_ok fun b g5 H5 hr5 s5 h5 => k b g5 H5 hr5 ((((s1.trans s2).trans s3).trans s4).trans s5) h5⟩, x.go ((s1.trans s2).trans s3)⟩
      | false =>
        rw [if_neg (by decide)] at h3 ⊢
        exact ⟨_, rfl, k _ _ _ hr3 ((s1.trans s2).trans s3) h3⟩⟩, x.go s1⟩, x⟩
theorem tru_of {KK : KM} {g : Ah} {H : Hp} {v : V} {d : Dv} {R : Bool → Prop} (hr : HR KK g H) (r : Rp KK g H v d) (h : tvw g d R) : ∃ k, TruV KK.K v H k ∧ R k := by
  unfold tvw at h
  split at h
  next e => obtain rfl := vw_non r e; exact ⟨_, rfl, h⟩
  next b e => obtain rfl := vw_bl r e; exact ⟨_, rfl, h⟩
  next b e => obtain rfl := vw_int r e; exact ⟨_, rfl, h⟩
  next b e => obtain rfl := vw_str r e; exact ⟨_, ⟨h.1, rfl⟩, h.2⟩
  next xs e =>
    obtain ⟨a, vs, rfl, h1, h2⟩ := vw_lst r hr e
    exact ⟨_, .inl ⟨vs, h1, rfl⟩, by rw [show vs.isEmpty = xs.isEmpty by cases h2 <;> rfl]; exact h⟩
  next xs e =>
    obtain ⟨a, vs, rfl, h1, h2⟩ := vw_tup r e
    exact ⟨_, .inr (.inl ⟨vs, h1, rfl⟩), by rw [show vs.isEmpty = xs.isEmpty by cases h2 <;> rfl]; exact h⟩
  next xs e =>
    obtain ⟨a, vs, rfl, h1, h2⟩ := vw_dct r hr e
    exact ⟨_, .inr (.inr ⟨vs, h1, rfl⟩), by rw [show vs.isEmpty = xs.isEmpty by cases h2 <;> rfl]; exact h⟩
  next => exact h.elim
theorem dt_tru (h : PE X e (lE K W Da)) (he : ∀ whole, isTrue e X.env whole = (do let v ← whole; standAt e.pos; holding [v] (truthy v))) (hK : X.K = K := by rfl) : PT X e (lT K W (dTru Da)) := by
  subst hK
  exact ptm (pt_truth h he) fun σ H Q ⟨M, ev, g, R, Y, c, d, q, x⟩ => ⟨M, ev, g, _, Y, c, d, fun v d g' H' hr s r k => by
    obtain ⟨b, h1, h2⟩ := tru_of hr r k
    exact ⟨b, h1, q _ _ _ hr s h2⟩, x⟩
theorem dt_not (h : PT X a (lT K W t)) : PT X (.UnaryOp .Not a pos) (lT K W (dtNot t)) := ptm (pt_not h) fun σ H Q ⟨M, ev, g, R, Y, c, d, q, x⟩ => ⟨M, ev, g, _, Y, c, d, fun b g' H' hr s k => q _ _ _ hr s k, x⟩
theorem dw_and1 (h : PT X a (lT K W t)) : PW X (.BoolOp .And [a] pos) (lT K W t) := pw_and1 h
theorem dw_or1 (h : PT X a (lT K W t)) : PW X (.BoolOp .Or [a] pos) (lT K W t) := pw_or1 h
theorem dw_and {rest : List Expr} (h : PT X a (lT K W t)) (k : PW X (.BoolOp .And (b :: rest) pos) (lT K W u)) : PW X (.BoolOp .And (a :: b :: rest) pos) (lT K W (dtAnd t u)) :=
  pwm (pw_and h k) fun σ H Q ⟨M, ev, g, R, Y, c, d, q, x⟩ => ⟨M, ev, g, _, Y, c, d, fun b g' H' hr s k => by
    cases b with
    | true => rw [if_pos rfl] at k ⊢; exact ⟨M, ev, g', R, Y, c.go hr s, k, fun b g2 H2 hr2 s2 => q b g2 H2 hr2 (s.trans s2), x.go s⟩
    | false => rw [if_neg (by decide)] at k ⊢; exact q _ _ _ hr s k, x⟩
theorem dw_or {rest : List Expr} (h : PT X a (lT K W t)) (k : PW X (.BoolOp .Or (b :: rest) pos) (lT K W u)) : PW X (.BoolOp .Or (a :: b :: rest) pos) (lT K W (dtOr t u)) :=
  pwm (pw_or h k) fun σ H Q ⟨M, ev, g, R, Y, c, d, q, x⟩ => ⟨M, ev, g, _, Y, c, d, fun b g' H' hr s k => by
    cases b with
    | true => rw [if_pos rfl] at k ⊢; exact q _ _ _ hr s k
    | false => rw [if_neg (by decide)] at k ⊢; exact ⟨M, ev, g', R, Y, c.go hr s, k, fun b g2 H2 hr2 s2 => q b g2 H2 hr2 (s.trans s2), x.go s⟩, x⟩
theorem de_and {rest : List Expr} (h : PE X a (lE K W Da)) (k : PE X (.BoolOp .And (b :: rest) pos) (lE K W Db)) (hK : X.K = K := by rfl) : PE X (.BoolOp .And (a :: b :: rest) pos) (lE K W (dAnd Da Db)) := by
  subst hK
  exact pem (pe_andT h k) fun σ H Q ⟨M, ev, g, R, Y, c, d, q, x⟩ => ⟨M, ev, g, _, Y, c, d, fun v d g' H' hr s r k => by
    obtain ⟨b, h1, h2⟩ := tru_of hr r k
    refine ⟨b, h1, ?_⟩
    cases b with
    | true => rw [if_pos rfl] at h2 ⊢; exact ⟨M, ev, g', R, Y, c.go hr s, h2, q.go s, x.go s⟩
    | false => rw [if_neg (by decide)] at h2 ⊢; exact q _ _ _ _ hr s r h2, x⟩
theorem de_or {rest : List Expr} (h : PE X a (lE K W Da)) (k : PE X (.BoolOp .Or (b :: rest) pos) (lE K W Db)) (hK : X.K = K := by rfl) : PE X (.BoolOp .Or (a :: b :: rest) pos) (lE K W (dOr Da Db)) := by
  subst hK
  exact pem (pe_orT h k) fun σ H Q ⟨M, ev, g, R, Y, c, d, q, x⟩ => ⟨M, ev, g, _, Y, c, d, fun v d g' H' hr s r k => by
    obtain ⟨b, h1, h2⟩ := tru_of hr r k
    refine ⟨b, h1, ?_⟩
    cases b with
    | true => rw [if_pos rfl] at h2 ⊢; exact q _ _ _ _ hr s r h2
    | false => rw [if_neg (by decide)] at h2 ⊢; exact ⟨M, ev, g', R, Y, c.go hr s, h2, q.go s, x.go s⟩, x⟩
theorem de_not (h : PE X a (lE K W Da)) (hK : X.K = K := by rfl) : PE X (.UnaryOp .Not a pos) (lE K W (dNot Da)) := by
  subst hK
  exact pem (pe_notT h) fun σ H Q ⟨M, ev, g, R, Y, c, d, q, x⟩ => ⟨M, ev, g, _, Y, c, d, fun v d g' H' hr s r k => by
    obtain ⟨b, h1, h2⟩ := tru_of hr r k
    exact ⟨b, h1, q _ _ _ _ hr s (.bl _) h2⟩, x⟩
theorem de_if (h : PT X c (lT K W t)) (ha : PE X a (lE K W Da)) (hb : PE X b (lE K W Db)) : PE X (.IfExp c a b pos) (lE K W (dIf t Da Db)) :=
  pem (pe_ifExp h ha hb) fun σ H Q ⟨M, ev, g, R, Y, c, d, q, x⟩ => ⟨M, ev, g, _, Y, c, d, fun b g' H' hr s k => by
    cases b with
    | true => rw [if_pos rfl] at k ⊢; exact ⟨M, ev, g', R, Y, c.go hr s, k, q.go s, x.go s⟩
    | false => rw [if_neg (by decide)] at k ⊢; exact ⟨M, ev, g', R, Y, c.go hr s, k, q.go s, x.go s⟩, x⟩
theorem da_nil : PA X [] (lA K W dNil) := pam pa_nil fun σ H Q ⟨M, ev, g, R, Y, c, d, q, x⟩ => q [] [] _ _ c.hr .refl .nil d
theorem da_cons (h : PE X e (lE K W Da)) (k : PA X es (lA K W Dt)) (hs : starEach (e :: es) X.env = (false, eval e X.env) :: starEach es X.env := by rfl) : PA X (e :: es) (lA K W (dCons Da Dt)) :=
  pam (pa_cons h k hs) fun σ H Q ⟨M, ev, g, R, Y, c, d, q, x⟩ => ⟨M, ev, g, _, Y, c, d, fun v1 d1 g1 H1 hr1 s1 r1 h1 => ⟨M, ev, g1, _, Y, c.go hr1 s1, h1, fun vs ds g2 H2 hr2 s2 r2 h2 => q _ _ _ _ hr2 (s1.trans s2) (.cons (r1.go s2) r2) h2, x.go s1⟩, x⟩
theorem de_tup {x1} (h : PA X es (lA K W Dt)) : PE X (.Tuple es x1 pos) (lE K W (dTup Dt)) :=
  pem (pe_tup h) fun σ H Q ⟨M, ev, g, R, Y, c, d, q, x⟩ => ⟨M, ev, g, _, Y, c, d, fun vs ds g1 H1 hr s r k => ⟨by rw [r.length]; exact k.1, fun p hp => nT_ok hr hp r k.2 (q.go s)⟩, x⟩
theorem de_lst {n : Nw} (hn : NwOk n) (h : PA X es (lA K W Dt)) : PE X (.List es pos) (lE K W (dLst n Dt)) :=
  pem (pe_lst h) fun σ H Q ⟨M, ev, g, R, Y, c, d, q, x⟩ => ⟨M, ev, g, _, Y, c, d, fun vs ds g1 H1 hr s r k => ⟨by rw [r.length]; exact k.1, fun p hp => hn _ _ _ _ _ _ _ _ hr hp r k.2 (q.go s)⟩, x⟩
theorem frz_ok {KK : KM} {g : Ah} {H : Hp} {R : DQ} {Q : VK} (q : QL KK g H R Q) : QL KK g H (frzQ R) Q := fun v d g' H' hr s r k => by
  unfold frzQ at k
  split at k
  next a =>
    split at k
    next xs e =>
      obtain ⟨vs, h1, h2⟩ := mo_lst hr e
      cases r
      exact q _ _ _ _ (hr_del hr) (s.trans stp_del) (.lst del_same (fun z => by rw [(hr.2 _ z).1] at e; cases e) h1 (h2.go stp_del)) k
    next xs e =>
      obtain ⟨vs, h1, h2⟩ := mo_dct hr e
      cases r
      exact q _ _ _ _ (hr_del hr) (s.trans stp_del) (.dct del_same (fun z => by rw [(hr.2 _ z).1] at e; cases e) h1 (h2.go stp_del)) k
    next xs e =>
      obtain ⟨vs, h1, h2⟩ := mo_dcT hr e
      cases r
      exact q _ _ _ _ (hr_del hr) (s.trans stp_del) (.dcT del_same (fun z => by rw [(hr.2 _ z).1] at e; cases e) h1 (h2.go stp_del)) k
    next => exact q _ _ _ _ hr s r k
  next => exact q _ _ _ _ hr s r k
theorem de_frz (h : PE X a (lE K W Da)) : PE X a (lE K W (dFrz Da)) := pem h fun σ H Q ⟨M, ev, g, R, Y, c, d, q, x⟩ => ⟨M, ev, g, _, Y, c, d, frz_ok q, x⟩
end
/-! ### keys -/
def kOf : Dv → Option Key
  | .int i => some (.inl i)
  | .str x => some (.inr x)
  | _ => none
def kOfs : List Dv → Option (List Key)
  | [] => some []
  | d :: ds => (kOf d).bind fun k => (kOfs ds).map (k :: ·)
def kD : Key → Dv
  | .inl i => .int i
  | .inr x => .str x
section
variable {κ : Type} [DecidableEq κ]
def valD : List (κ × Dv) → κ → Option Dv
  | [], _ => none
  | (j, d) :: r, k => if j = k then some d else valD r k
def setD : List (κ × Dv) → κ → Dv → List (κ × Dv)
  | [], _, _ => []
  | (j, d) :: r, k, v => if j = k then (j, v) :: setD r k v else (j, d) :: setD r k v
def putD : List (κ × Dv) → κ → Dv → List (κ × Dv)
  | [], k, v => [(k, v)]
  | (j, d) :: r, k, v => if j = k then (j, v) :: setD r k v else (j, d) :: putD r k v
theorem setD_eq (k : κ) (v : Dv) : ∀ kvs : List (κ × Dv), setD kvs k v = kvs.map (fun kv => if kv.1 = k then (kv.1, v) else kv)
  | [] => rfl
  | (j, d) :: r => by
    rw [setD, setD_eq k v r, List.map_cons]
    by_cases e : j = k <;> simp [e]
theorem putD_eq (k : κ) (v : Dv) : ∀ kvs : List (κ × Dv), putD kvs k v = if (kvs.any fun kv => decide (kv.1 = k)) = true then kvs.map (fun kv => if kv.1 = k then (kv.1, v) else kv) else kvs ++ [(k, v)]
  | [] => rfl
  | (j, d) :: r => by
    rw [putD, putD_eq k v r, setD_eq k v r]
    by_cases e : j = k
    · simp [e]
    · simp only [e, if_false, List.any_cons, decide_false, Bool.false_or, List.map_cons, List.cons_append]
      split <;> rfl
def dropD (kvs : List (κ × Dv)) (k : κ) : List (κ × Dv) := kvs.filter fun kv => decide (kv.1 ≠ k)
variable {K : KM} {g : Ah} {H : Hp}
theorem RpP.val {k : κ} : ∀ {vs : List (κ × V)} {ds : List (κ × Dv)}, RpP K g H vs ds → (∀ d, valD ds k = some d → ∃ v, valV vs k = some v ∧ Rp K g H v d) ∧ (valD ds k = none → valV vs k = none)
  | _, _, .nil => ⟨fun d h => (nomatch (show (none : Option Dv) = some d from h)), fun _ => rfl⟩
  | _, _, .cons (k := j) (v := v) (d := d) (vs := vs) (ds := ds) h r => by
    obtain ⟨h1, h2⟩ := RpP.val (k := k) r
    by_cases e : j = k
    · subst e
      rw [show valD ((j, d) :: ds) j = some d by simp [valD]]
      exact ⟨fun d' z => by cases z; exact ⟨v, by simp [valV], h⟩, fun z => by cases z⟩
    · rw [show valD ((j, d) :: ds) k = valD ds k by simp [valD, e], show valV ((j, v) :: vs) k = valV vs k by simp [valV, e]]
      exact ⟨h1, h2⟩
theorem RpP.any {k : κ} : ∀ {vs : List (κ × V)} {ds : List (κ × Dv)}, RpP K g H vs ds → (vs.any fun kv => decide (kv.1 = k)) = (ds.any fun kv => decide (kv.1 = k))
  | _, _, .nil => rfl
  | _, _, .cons h r => by rw [List.any_cons, List.any_cons, RpP.any r]
theorem RpP.append : ∀ {vs ws : List (κ × V)} {ds es : List (κ × Dv)}, RpP K g H vs ds → RpP K g H ws es → RpP K g H (vs ++ ws) (ds ++ es)
  | _, _, _, _, .nil, s => s
  | _, _, _, _, .cons h r, s => .cons h (RpP.append r s)
theorem RpP.mapk {k : κ} {v : V} {d : Dv} (h : Rp K g H v d) : ∀ {vs : List (κ × V)} {ds : List (κ × Dv)}, RpP K g H vs ds → RpP K g H (vs.map fun kv => if kv.1 = k then (kv.1, v) else kv) (ds.map fun kv => if kv.1 = k then (kv.1, d) else kv)
  | _, _, .nil => .nil
  | _, _, .cons (k := j) h' r => by
    rw [List.map_cons, List.map_cons]
    by_cases e : j = k
    · rw [if_pos e, if_pos e]; exact .cons h (RpP.mapk h r)
    · rw [if_neg e, if_neg e]; exact .cons h' (RpP.mapk h r)
theorem RpP.put {k : κ} {v : V} {d : Dv} {vs : List (κ × V)} {ds : List (κ × Dv)} (r : RpP K g H vs ds) (h : Rp K g H v d) : RpP K g H (putK vs k v) (putD ds k d) := by
  rw [putD_eq]
  unfold putK
  rw [r.any]
  split
  · exact r.mapk h
  · exact r.append (.cons h .nil)
theorem RpP.dropK {k : κ} : ∀ {vs : List (κ × V)} {ds : List (κ × Dv)}, RpP K g H vs ds → RpP K g H (L2.dropK vs k) (dropD ds k)
  | _, _, .nil => .nil
  | _, _, .cons (k := j) (v := v) (d := d) (vs := vs) (ds := ds) h r => by
    by_cases e : j = k
    · rw [show L2.dropK ((j, v) :: vs) k = L2.dropK vs k by simp [L2.dropK, e], show dropD ((j, d) :: ds) k = dropD ds k by simp [dropD, e]]
      exact RpP.dropK r
    · rw [show L2.dropK ((j, v) :: vs) k = (j, v) :: L2.dropK vs k by simp [L2.dropK, e], show dropD ((j, d) :: ds) k = (j, d) :: dropD ds k by simp [dropD, e]]
      exact .cons h (RpP.dropK r)
end
section
variable {K : KM} {g : Ah} {H : Hp} {v : V} {d : Dv}
theorem kOf_ok {k : Key} (r : Rp K g H v d) (h : kOf d = some k) : v = kV k := by
  cases r <;> first | (cases h; done) | (cases h; rfl)
theorem kOfs_ok : ∀ {vs : List V} {ds : List Dv} {ks : List Key}, RpAll K g H vs ds → kOfs ds = some ks → vs = ks.map kV
  | _, _, _, .nil, e => by cases e; rfl
  | _, _, _, .cons h r, e => by
    unfold kOfs at e
    cases q : kOf _ with
    | none => rw [q] at e; cases e
    | some k =>
      rw [q] at e
      obtain ⟨ks, e1, rfl⟩ := map_some e
      rw [kOf_ok h q, kOfs_ok r e1]
      rfl
/-- what a dict tells of a key -/
def dget (g : Ah) (d k : Dv) : Option (Option Dv) := match vw g d with
  | .dct kvs => (kOf k).map fun k => valD kvs k
  | .dcT kvs => match k with
    | .tup ks => (kOfs ks).map fun k => valD kvs k
    | _ => none
  | .ref a => match g a with
    | some (.lck _ _ kvs) => (kOf k).map fun k => valD kvs k
    | _ => none
  | _ => none
theorem dget_ok {u : V} {k : Dv} {o : Option Dv} (hr : HR K g H) (r : Rp K g H v d) (s : Rp K g H u k) (h : dget g d k = some o) : ∃ a o', v = .ref a ∧ DGet H a u o' ∧ (∀ x, o = some x → ∃ y, o' = some y ∧ Rp K g H y x) ∧ (o = none → o' = none) := by
  unfold dget at h
  split at h
  next kvs e =>
    obtain ⟨a, vs, rfl, h1, h2⟩ := vw_dct r hr e
    obtain ⟨j, e1, rfl⟩ := map_some h
    obtain rfl := kOf_ok s e1
    obtain ⟨z1, z2⟩ := h2.val (k := j)
    refine ⟨a, valV vs j, rfl, DGet.k h1, fun x hx => ?_, z2⟩
    obtain ⟨y, e2, e3⟩ := z1 x hx
    exact ⟨y, e2, e3⟩
  next kvs e =>
    split at h
    next ks =>
      obtain ⟨a, vs, rfl, h1, h2⟩ := vw_dcT r hr e
      obtain ⟨j, e1, rfl⟩ := map_some h
      obtain ⟨b, ws, rfl, h3, h4⟩ := rp_tup s
      obtain rfl := kOfs_ok h4 e1
      obtain ⟨z1, z2⟩ := h2.val (k := j)
      refine ⟨a, valV vs j, rfl, DGet.t h1 h3, fun x hx => ?_, z2⟩
      obtain ⟨y, e2, e3⟩ := z1 x hx
      exact ⟨y, e2, e3⟩
    next => cases h
  next a e =>
    split at h
    next o us kvs ea =>
      obtain ⟨rfl, rfl⟩ := vw_ref r e
      obtain ⟨h1, h2⟩ := mo_lck hr ea
      obtain ⟨j, e1, rfl⟩ := map_some h
      obtain rfl := kOf_ok s e1
      obtain ⟨z1, z2⟩ := h2.val (k := j)
      refine ⟨a, valV us j, rfl, .inl ⟨us, j, .inr ⟨o, h1⟩, rfl, rfl⟩, fun x hx => ?_, z2⟩
      obtain ⟨y, e2, e3⟩ := z1 x hx
      exact ⟨y, e2, e3⟩
    next => cases h
  next => cases h
end
/-! ### subscripts -/
def got (o : Option Dv) (k : Dv → Prop) : Prop := match o with
  | some d => k d
  | none => False
theorem got_ok {o : Option Dv} {k : Dv → Prop} (h : got o k) : ∃ d, o = some d ∧ k d := by
  cases o with
  | none => exact h.elim
  | some d => exact ⟨d, rfl, h⟩
def qIx : DR2 := fun d e g R => match vw g d with
  | .lst xs => (match e with | .int i => got (atI xs i) fun x => R x g | _ => False)
  | .tup xs => (match e with | .int i => got (atI xs i) fun x => R x g | _ => False)
  | .str z => (match e with | .int i => z.length ≤ sizeLine ∧ ∃ c, atI z.cps.toList i = some c ∧ R (.str ⟨#[c]⟩) g | _ => False)
  | .dct kvs => got ((kOf e).bind fun k => valD kvs k) fun x => R x g
  | .dcT kvs => (match e with | .tup ks => got ((kOfs ks).bind fun k => valD kvs k) fun x => R x g | _ => False)
  | .ref a => (match g a with | some (.lck _ _ kvs) => got ((kOf e).bind fun k => valD kvs k) fun x => R x g | some (.lckT _ _ kvs) => (match e with | .tup ks => got ((kOfs ks).bind fun k => valD kvs k) fun x => R x g | _ => False) | _ => False)
  | _ => False
theorem bind_some {α β : Type} {f : α → Option β} {o : Option α} {b : β} (h : o.bind f = some b) : ∃ a, o = some a ∧ f a = some b := by
  cases o with
  | none => cases h
  | some a => exact ⟨a, rfl, h⟩
theorem rpAll_at {K : KM} {g : Ah} {H : Hp} {vs : List V} {xs : List Dv} {i : Int} {d : Dv} (r : RpAll K g H vs xs) (h : atI xs i = some d) : ∃ v, atI vs i = some v ∧ Rp K g H v d := by
  unfold atI at h ⊢
  rw [r.length]
  obtain ⟨j, e, h2⟩ := bind_some h
  obtain ⟨v, h3, h4⟩ := r.get h2
  exact ⟨v, by rw [e]; exact h3, h4⟩
section
variable {X : Cx}
theorem ix_dict (hu : X.A.units + 1 < cLine) : IxR X (fun x y H Q => ∃ a v, x = .ref a ∧ DGet H a y (some v) ∧ Q v H) := by
  intro value slice pins s σ H x y v u Q I rx ry h hs
  obtain ⟨a, z, rfl, gt, q⟩ := h
  cases rx
  have hT := dict_typeIs I gt
  unfold subscriptTail
  refine wpAny_bind ?_
  rw [getitemInPython_of_ne hT.not_modules]
  refine wpAny_bind (wpAny_specialOf hT PySem.F.slot_dict_getitem.lookup ?_)
  have fin : wpAny (model X.prog X.w) X.A (subscripted slice false (.ref a) u) (fun r s₃ => wpAny (model X.prog X.w) X.A (letTemporaryGo value (.ref a) r >>= fun _ => pure r) (EP X pins σ Q) X.xe s₃) X.xe s := by
    rw [hs]
    exact wpAny_operating (d_getItem hu I gt ry fun w' s3 I3 rw' => wpAny_bind (wpAny_letTemporaryGo (wpAny_pure ⟨z, H, I3, rw', q⟩)))
  first
    | exact wpAny_pure (wpAny_bind fin)
    | exact wpAny_bind (wpAny_pure (wpAny_bind fin))
    | exact wpAny_bind fin
theorem ixm {r r' : R2} (h : IxR X r) (k : ∀ x y H Q, r' x y H Q → r x y H Q) : IxR X r' := fun value slice pins s σ H x y v u Q I rx ry q hs => h value slice pins s σ H x y v u Q I rx ry (k _ _ _ _ q) hs
theorem oj_ix (K : PySem.W.Frag) (hu : X.A.units + 1 < cLine) (hK : X.K = K := by rfl) : IxR X (lR K qIx) := by
  subst hK
  refine ixm (ix_list.or (ix_tup.or (ix_str.or (ix_dict hu)))) fun x y H Q h => ?_
  obtain ⟨M, d, e, g, R, hr, rx, ry, q, k⟩ := h
  unfold qIx at q
  split at q
  next xs e1 =>
    obtain ⟨a, vs, rfl, h1, h2⟩ := vw_lst rx hr e1
    split at q
    next i =>
      obtain ⟨z, e2, q⟩ := got_ok q
      obtain ⟨v, e3, e4⟩ := rpAll_at h2 e2
      cases ry
      exact .inl ⟨a, vs, i, v, rfl, rfl, h1, e3, ql_now hr k e4 q⟩
    next => exact q.elim
  next xs e1 =>
    obtain ⟨a, vs, rfl, h1, h2⟩ := vw_tup rx e1
    split at q
    next i =>
      obtain ⟨z, e2, q⟩ := got_ok q
      obtain ⟨v, e3, e4⟩ := rpAll_at h2 e2
      cases ry
      exact .inr (.inl ⟨a, vs, i, v, rfl, rfl, h1, e3, ql_now hr k e4 q⟩)
    next => exact q.elim
  next z e1 =>
    obtain rfl := vw_str rx e1
    split at q
    next i =>
      obtain ⟨hz, c, e2, q⟩ := q
      cases ry
      exact .inr (.inr (.inl ⟨z, i, c, rfl, rfl, hz, e2, ql_now hr k (.str _) q⟩))
    next => exact q.elim
  next kvs e1 =>
    obtain ⟨z, e2, q⟩ := got_ok q
    obtain ⟨j, e3, e4⟩ := bind_some e2
    obtain ⟨a, vs, rfl, h1, h2⟩ := vw_dct rx hr e1
    obtain rfl := kOf_ok ry e3
    obtain ⟨v, e5, e6⟩ := (h2.val (k := j)).1 z e4
    exact .inr (.inr (.inr ⟨a, v, rfl, by rw [← e5]; exact DGet.k h1, ql_now hr k e6 q⟩))
  next kvs e1 =>
    split at q
    next ks =>
      obtain ⟨z, e2, q⟩ := got_ok q
      obtain ⟨j, e3, e4⟩ := bind_some e2
      obtain ⟨a, vs, rfl, h1, h2⟩ := vw_dcT rx hr e1
      obtain ⟨b, ws, rfl, h3, h4⟩ := rp_tup ry
      obtain rfl := kOfs_ok h4 e3
      obtain ⟨v, e5, e6⟩ := (h2.val (k := j)).1 z e4
      exact .inr (.inr (.inr ⟨a, v, rfl, by rw [← e5]; exact DGet.t h1 h3, ql_now hr k e6 q⟩))
    next => exact q.elim
  next a e1 =>
    split at q
    next o us kvs ea =>
      obtain ⟨rfl, rfl⟩ := vw_ref rx e1
      obtain ⟨h1, h2⟩ := mo_lck hr ea
      obtain ⟨z, e2, q⟩ := got_ok q
      obtain ⟨j, e3, e4⟩ := bind_some e2
      obtain rfl := kOf_ok ry e3
      obtain ⟨v, e5, e6⟩ := (h2.val (k := j)).1 z e4
      exact .inr (.inr (.inr ⟨a, v, rfl, .inl ⟨us, j, .inr ⟨o, h1⟩, rfl, e5.symm⟩, ql_now hr k e6 q⟩))
    next o us kvs ea =>
      split at q
      next ks =>
        obtain ⟨rfl, rfl⟩ := vw_ref rx e1
        obtain ⟨h1, h2⟩ := mo_lckT hr ea
        obtain ⟨z, e2, q⟩ := got_ok q
        obtain ⟨j, e3, e4⟩ := bind_some e2
        obtain ⟨b, ws, rfl, h3, h4⟩ := rp_tup ry
        obtain rfl := kOfs_ok h4 e3
        obtain ⟨v, e5, e6⟩ := (h2.val (k := j)).1 z e4
        exact .inr (.inr (.inr ⟨a, v, rfl, .inr ⟨us, j, b, .inr ⟨o, h1⟩, rfl, h3, e5.symm⟩, ql_now hr k e6 q⟩))
      next => exact q.elim
    next => exact q.elim
  next => exact q.elim
end
/-! x in c -/
def fV : Dv → Option V
  | .non => some .non
  | .bl b => some (.bl b)
  | .int i => some (.int i)
  | .str x => some (.str x)
  | _ => none
def fVs : List Dv → Option (List V)
  | [] => some []
  | d :: ds => (fV d).bind fun v => (fVs ds).map (v :: ·)
theorem fV_ok {K : KM} {g : Ah} {H : Hp} {u v : V} {d : Dv} (r : Rp K g H u d) (h : fV d = some v) : u = v := by
  cases r <;> first | (cases h; done) | (cases h; rfl)
theorem fVs_ok {K : KM} {g : Ah} {H : Hp} : ∀ {us vs : List V} {ds : List Dv}, RpAll K g H us ds → fVs ds = some vs → us = vs
  | _, _, _, .nil, e => by cases e; rfl
  | _, _, _, .cons h r, e => by
    unfold fVs at e
    obtain ⟨v, e1, e2⟩ := bind_some e
    obtain ⟨ws, e3, rfl⟩ := map_some e2
    rw [fV_ok h e1, fVs_ok r e3]
def qIn (b : Bool) : DR2 := fun d e g R => match vw g e with
  | .lst xs => (∃ p ps, pd d = some p ∧ pds xs = some ps ∧ SeqAt.shaped p = true ∧ SeqAt.shaped (.list ps) = true ∧ R (.bl ((ps.any fun z => PyData.eqv z p) == b)) g)
  | .tup xs => (∃ v vs, fV d = some v ∧ fVs xs = some vs ∧ flatV v = true ∧ vs.all flatV = true ∧ R (.bl (inV v vs == b)) g)
  | .str y => (match d with | .str x => R (.bl ((!(Builtin.Str.occurrences y x 0 y.length 1).isEmpty) == b)) g | _ => False)
  | .dct kvs => (∃ k, kOf d = some k ∧ R (.bl ((valD kvs k).isSome == b)) g)
  | .dcT kvs => (∃ ks k, d = .tup ks ∧ kOfs ks = some k ∧ R (.bl ((valD kvs k).isSome == b)) g)
  | .ref a => (match g a with | some (.lck _ _ kvs) => (∃ k, kOf d = some k ∧ R (.bl ((valD kvs k).isSome == b)) g) | _ => False)
  | _ => False
theorem pd_lst {K : KM} {g : Ah} {H : Hp} {v : V} {d : Dv} {xs : List Dv} {ps : List PyData} (r : Rp K g H v d) (hr : HR K g H) (e : vw g d = .lst xs) (h : pds xs = some ps) : Dp K.K H v (.list ps) := by
  obtain ⟨a, vs, rfl, h1, h2⟩ := vw_lst r hr e
  exact .lst h1 (h2.dp h)
section
variable {X : Cx} (K : PySem.W.Frag)
theorem op_inDct (hu : X.A.units + 1 < cLine) : OpR X (compareOp .In) (fun x y H Q => ∃ a o, y = .ref a ∧ DGet H a x o ∧ Q (.bl o.isSome) H) := by
  intro pins s σ H x y v u Q I rx ry h
  obtain ⟨a, o, rfl, gt, q⟩ := h
  cases ry
  exact d_in hu I gt rx fun s' I' => ⟨.bl _, H, I', rfl, q⟩
theorem op_notInDct (hu : X.A.units + 1 < cLine) : OpR X (compareOp .NotIn) (fun x y H Q => ∃ a o, y = .ref a ∧ DGet H a x o ∧ Q (.bl (!o.isSome)) H) := by
  intro pins s σ H x y v u Q I rx ry h
  obtain ⟨a, o, rfl, gt, q⟩ := h
  cases ry
  exact d_notIn hu I gt rx fun s' I' => ⟨.bl _, H, I', rfl, q⟩
theorem val_isSome {κ : Type} [DecidableEq κ] {K : KM} {g : Ah} {H : Hp} {vs : List (κ × V)} {ds : List (κ × Dv)} (r : RpP K g H vs ds) (k : κ) : (valV vs k).isSome = (valD ds k).isSome := by
  obtain ⟨h1, h2⟩ := r.val (k := k)
  cases q : valD ds k with
  | none => rw [h2 q]; rfl
  | some d =>
    obtain ⟨v, e, _⟩ := h1 d q
    rw [e]; rfl
theorem oj_in (hu : X.A.units + 65 < cLine) (hK : X.K = K := by rfl) : OpR X (compareOp .In) (lR K (qIn true)) := by
  subst hK
  refine opm ((op_inD hu).or (op_in_seq.or (op_in_str.or (op_inDct (by omega))))) fun x y H Q h => ?_
  obtain ⟨M, d, e, g, R, hr, rx, ry, q, k⟩ := h
  have bt : ∀ b : Bool, (b == true) = b := by simp
  unfold qIn at q
  split at q
  next xs e1 =>
    obtain ⟨p, ps, h1, h2, s1, s2, q⟩ := q
    rw [bt] at q
    exact .inl ⟨p, ps, rx.dp h1, pd_lst ry hr e1 h2, s1, s2, ql_now hr k (.bl _) q⟩
  next xs e1 =>
    obtain ⟨v, vs, h1, h2, s1, s2, q⟩ := q
    rw [bt] at q
    obtain ⟨a, ws, rfl, h3, h4⟩ := vw_tup ry e1
    obtain rfl := fV_ok rx h1
    obtain rfl := fVs_ok h4 h2
    exact .inr (.inl ⟨a, _, rfl, .inr h3, s1, s2, ql_now hr k (.bl _) (by simpa using q)⟩)
  next z e1 =>
    split at q
    next w =>
      rw [bt] at q
      obtain rfl := vw_str ry e1
      cases rx
      exact .inr (.inr (.inl ⟨w, z, rfl, rfl, ql_now hr k (.bl _) q⟩))
    next => exact q.elim
  next kvs e1 =>
    obtain ⟨j, h1, q⟩ := q
    rw [bt] at q
    obtain ⟨a, vs, rfl, h2, h3⟩ := vw_dct ry hr e1
    obtain rfl := kOf_ok rx h1
    exact .inr (.inr (.inr ⟨a, _, rfl, DGet.k h2, ql_now hr k (.bl _) (by rw [val_isSome h3]; exact q)⟩))
  next kvs e1 =>
    obtain ⟨ks, j, rfl, h1, q⟩ := q
    rw [bt] at q
    obtain ⟨a, vs, rfl, h2, h3⟩ := vw_dcT ry hr e1
    obtain ⟨b, ws, rfl, h4, h5⟩ := rp_tup rx
    obtain rfl := kOfs_ok h5 h1
    exact .inr (.inr (.inr ⟨a, _, rfl, DGet.t h2 h4, ql_now hr k (.bl _) (by rw [val_isSome h3]; exact q)⟩))
  next a e1 =>
    split at q
    next o us kvs ea =>
      obtain ⟨rfl, rfl⟩ := vw_ref ry e1
      obtain ⟨h2, h3⟩ := mo_lck hr ea
      obtain ⟨j, h1, q⟩ := q
      rw [bt] at q
      obtain rfl := kOf_ok rx h1
      exact .inr (.inr (.inr ⟨a, _, rfl, .inl ⟨us, j, .inr ⟨o, h2⟩, rfl, rfl⟩, ql_now hr k (.bl _) (by rw [val_isSome h3]; exact q)⟩))
    next => exact q.elim
  next => exact q.elim
theorem oj_notin (hu : X.A.units + 65 < cLine) (hK : X.K = K := by rfl) : OpR X (compareOp .NotIn) (lR K (qIn false)) := by
  subst hK
  refine opm ((op_notInD hu).or (op_notIn_seq.or (op_notIn_str.or (op_notInDct (by omega))))) fun x y H Q h => ?_
  obtain ⟨M, d, e, g, R, hr, rx, ry, q, k⟩ := h
  have bt : ∀ b : Bool, (b == false) = !b := by simp
  unfold qIn at q
  split at q
  next xs e1 =>
    obtain ⟨p, ps, h1, h2, s1, s2, q⟩ := q
    rw [bt] at q
    exact .inl ⟨p, ps, rx.dp h1, pd_lst ry hr e1 h2, s1, s2, ql_now hr k (.bl _) q⟩
  next xs e1 =>
    obtain ⟨v, vs, h1, h2, s1, s2, q⟩ := q
    rw [bt] at q
    obtain ⟨a, ws, rfl, h3, h4⟩ := vw_tup ry e1
    obtain rfl := fV_ok rx h1
    obtain rfl := fVs_ok h4 h2
    exact .inr (.inl ⟨a, _, rfl, .inr h3, s1, s2, ql_now hr k (.bl _) (by simpa using q)⟩)
  next z e1 =>
    split at q
    next w =>
      rw [bt] at q
      obtain rfl := vw_str ry e1
      cases rx
      exact .inr (.inr (.inl ⟨w, z, rfl, rfl, ql_now hr k (.bl _) q⟩))
    next => exact q.elim
  next kvs e1 =>
    obtain ⟨j, h1, q⟩ := q
    rw [bt] at q
    obtain ⟨a, vs, rfl, h2, h3⟩ := vw_dct ry hr e1
    obtain rfl := kOf_ok rx h1
    exact .inr (.inr (.inr ⟨a, _, rfl, DGet.k h2, ql_now hr k (.bl _) (by rw [val_isSome h3]; exact q)⟩))
  next kvs e1 =>
    obtain ⟨ks, j, rfl, h1, q⟩ := q
    rw [bt] at q
    obtain ⟨a, vs, rfl, h2, h3⟩ := vw_dcT ry hr e1
    obtain ⟨b, ws, rfl, h4, h5⟩ := rp_tup rx
    obtain rfl := kOfs_ok h5 h1
    exact .inr (.inr (.inr ⟨a, _, rfl, DGet.t h2 h4, ql_now hr k (.bl _) (by rw [val_isSome h3]; exact q)⟩))
  next a e1 =>
    split at q
    next o us kvs ea =>
      obtain ⟨rfl, rfl⟩ := vw_ref ry e1
      obtain ⟨h2, h3⟩ := mo_lck hr ea
      obtain ⟨j, h1, q⟩ := q
      rw [bt] at q
      obtain rfl := kOf_ok rx h1
      exact .inr (.inr (.inr ⟨a, _, rfl, .inl ⟨us, j, .inr ⟨o, h2⟩, rfl, rfl⟩, ql_now hr k (.bl _) (by rw [val_isSome h3]; exact q)⟩))
    next => exact q.elim
  next => exact q.elim
end
/-! ### slices -/
def cutX (xs : List Dv) (lo hi : Option Int) : List Dv := (xs.drop (HT.sIx xs.length 0 lo)).take (HT.sIx xs.length xs.length hi - HT.sIx xs.length 0 lo)
theorem RpAll.cut {K : KM} {g : Ah} {H : Hp} {vs : List V} {xs : List Dv} (r : RpAll K g H vs xs) (lo hi : Option Int) : RpAll K g H (cutV vs lo hi) (cutX xs lo hi) := by
  unfold cutV cutX
  rw [r.length]
  exact (r.drop _).take _
abbrev DO := Xc → Ev → Ah → (Option Int → Ah → Prop) → Prop
def lO (K : PySem.W.Frag) (W : WX) (D : DO) : TO := fun σ H Q => ∃ M ev g R X, Cn ⟨K, M⟩ σ H ev g ∧ D X ev g R ∧ (∀ b g' H', HR ⟨K, M⟩ g' H' → Stp g H g' H' → R b g' → Q b H') ∧ XL ⟨K, M⟩ W σ g H X
def doNo : DO := fun _ _ g R => R none g
def doI (a : DE) : DO := fun X ev g R => a X ev g fun d g1 => match d with | .int i => R (some i) g1 | _ => False
abbrev DSq := Dv → Option Int → Option Int → Ah → DQ → Prop
def lSl (K : PySem.W.Frag) (q : DSq) : V → Option Int → Option Int → Hp → VK → Prop := fun x lo hi H Q => ∃ M d g R, HR ⟨K, M⟩ g H ∧ Rp ⟨K, M⟩ g H x d ∧ q d lo hi g R ∧ QL ⟨K, M⟩ g H R Q
def dSl (q : DSq) (a : DE) (l h : DO) : DE := fun X ev g R => a X ev g fun d g1 => l X ev g1 fun lo g2 => h X ev g2 fun hi g3 => q d lo hi g3 R
def vs' (g : Ah) : Dv → Dv
  | .ref a => moL a (g a)
  | .kl xs => .lst xs
  | .fz xs => .lst xs
  | .tq xs => .kt xs
  | d => d
def qSl (n : Nw) : DSq := fun d lo hi g R => match vs' g d with
  | .lst xs => n (cutX xs lo hi) g R
  | .tup xs => R (.tup (cutX xs lo hi)) g
  | .str z => z.length ≤ sizeLine ∧ R (.str (cutS z lo hi)) g
  | _ => False
theorem vs_lst {g : Ah} {d : Dv} {xs : List Dv} (h : vs' g d = .lst xs) : vw g d = .lst xs := by
  cases d with
  | ref a =>
    rw [show vs' g (.ref a) = moL a (g a) from rfl] at h
    rw [vw_refE]
    cases q : g a with
    | none => rw [q] at h; cases h
    | some m => rw [q] at h; cases m <;> first | exact h | cases h
  | kt _ => cases h
  | tq _ => cases h
  | _ => exact h
theorem vs_tup {g : Ah} {d : Dv} {xs : List Dv} (h : vs' g d = .tup xs) : d = .tup xs := by
  cases d with
  | ref a =>
    rw [show vs' g (.ref a) = moL a (g a) from rfl] at h
    cases q : g a with
    | none => rw [q] at h; cases h
    | some m => rw [q] at h; cases m <;> cases h
  | kl _ => cases h
  | fz _ => cases h
  | tq _ => cases h
  | _ => exact h
theorem vs_str {g : Ah} {d : Dv} {x : Str} (h : vs' g d = .str x) : d = .str x := by
  cases d with
  | ref a =>
    rw [show vs' g (.ref a) = moL a (g a) from rfl] at h
    cases q : g a with
    | none => rw [q] at h; cases h
    | some m => rw [q] at h; cases m <;> cases h
  | kl _ => cases h
  | fz _ => cases h
  | tq _ => cases h
  | _ => exact h
section
variable {X : Cx} {W : WX} (K : PySem.W.Frag) {e a b c : Expr} {lo hi : Option Expr} {Da Db Dc : DE} {Dl Dh : DO} {pos p2 : Pos}
theorem slm {r r' : V → Option Int → Option Int → Hp → VK → Prop} (h : SlR X r) (k : ∀ x l u H Q, r' x l u H Q → r x l u H Q) : SlR X r' := fun pins s σ H x v vl vu lo hi sl Q I rx hs pl pu q => h pins s σ H x v vl vu lo hi sl Q I rx hs pl pu (k _ _ _ _ _ q)
theorem oj_sl {n : Nw} (hn : NwOk n) (hK : X.K = K := by rfl) : SlR X (lSl K (qSl n)) := by
  refine slm ((sl_listK K hK).or ((sl_tupAK K hK).or sl_str)) fun x l u H Q h => ?_
  obtain ⟨M, d, g, R, hr, rx, q, k⟩ := h
  unfold qSl at q
  split at q
  next xs e1 =>
    obtain ⟨a, vs, rfl, h1, h2⟩ := vw_lst rx hr (vs_lst e1)
    exact .inl ⟨a, vs, rfl, h1, fun p hp => hn _ _ _ _ _ _ _ _ hr hp (h2.cut l u) q k⟩
  next xs e1 =>
    obtain rfl := vs_tup e1
    obtain ⟨a, vs, rfl, h1, h2⟩ := rp_tup rx
    refine .inr (.inl ⟨a, vs, rfl, SqT.of h1, fun w => ?_, fun _ p hp => nT_ok hr hp (h2.cut l u) q k⟩)
    have e : cutX xs l u = xs := by
      unfold cutX
      rw [← h2.length, w.1, w.2, List.drop_zero, Nat.sub_zero, List.take_of_length_le (by rw [h2.length]; exact Nat.le_refl _)]
    rw [e] at q
    exact ql_now hr k rx q
  next z e1 =>
    obtain rfl := vs_str e1
    cases rx
    exact .inr (.inr ⟨z, rfl, q.1, ql_now hr k (.str _) q.2⟩)
  next => exact q.elim
theorem do_no : PO X none (lO K W doNo) := by
  refine ⟨fun pins s σ H Q I h => ?_⟩
  obtain ⟨M, ev, g, R, Y, c, d, q, x⟩ := h
  exact po_none.run pins s σ H Q I (q _ _ _ c.hr .refl d)
theorem do_i (h : PE X e (lE K W Da)) : PO X (some e) (lO K W (doI Da)) := by
  refine ⟨fun pins s σ H Q I q => (po_some h).run pins s σ H Q I ?_⟩
  obtain ⟨M, ev, g, R, Y, c, d, q, x⟩ := q
  refine ⟨M, ev, g, _, Y, c, d, fun v d g' H' hr s r k => ?_, x⟩
  cases r <;> first | exact k.elim | exact ⟨_, rfl, q _ _ _ hr s k⟩
variable {K}
theorem de_sl {q : DSq} (hs : SlR X (lSl K q)) (ha : PE X a (lE K W Da)) (hl : PO X lo (lO K W Dl)) (hh : PO X hi (lO K W Dh)) : PE X (.Subscript a (.Slice lo hi none p2) pos) (lE K W (dSl q Da Dl Dh)) :=
  pem (pe_slice hs ha hl hh) fun σ H Q ⟨M, ev, g, R, Y, c, d, k, x⟩ => ⟨M, ev, g, _, Y, c, d, fun v d g1 H1 hr s r h1 => ⟨M, ev, g1, _, Y, c.go hr s, h1, fun lo g2 H2 hr2 s2 h2 => ⟨M, ev, g2, _, Y, c.go hr2 (s.trans s2), h2, fun hi g3 H3 hr3 s3 h3 =>
    ⟨M, d, g3, R, hr3, r.go (s2.trans s3), h3, k.go ((s.trans s2).trans s3)⟩, x.go (s.trans s2)⟩, x.go s⟩, x⟩
end
/-! ### calls of built-ins -/
abbrev DCq := List Dv → Ah → DQ → Prop
def lC (K : PySem.W.Frag) (q : DCq) : List V → Hp → VK → Prop := fun vs H Q => ∃ M ds g R, HR ⟨K, M⟩ g H ∧ RpAll ⟨K, M⟩ g H vs ds ∧ q ds g R ∧ QL ⟨K, M⟩ g H R Q
def dB (q : DCq) (t : DA) : DE := fun X ev g R => t X ev g fun ds g1 => q ds g1 R
theorem ccm {X : Cx} {f : Value} {r r' : List V → Hp → VK → Prop} (h : CallR X f r) (k : ∀ vs H Q, r' vs H Q → r vs H Q) : CallR X f r' := fun pins s σ H xs us Q I rs q => h pins s σ H xs us Q I rs (k _ _ _ q)
section
variable {X : Cx} {W : WX} {K : PySem.W.Frag} {e : Expr} {es : List Expr} {Dt : DA} {pos p : Pos} {x : Str} {q : DCq}
theorem lcb {r : List V → Hp → VK → Prop} {σ : L2.St} {H : Hp} {Q : VK} (h : lE K W (dB q Dt) σ H Q) (k : ∀ vs H Q, lC K q vs H Q → r vs H Q) : tCB r (lA K W Dt) σ H Q := by
  obtain ⟨M, ev, g, R, Y, c, d, k2, x⟩ := h
  exact ⟨M, ev, g, _, Y, c, d, fun vs ds g1 H1 hr s r k3 => k _ _ _ ⟨M, ds, g1, R, hr, r, k3, k2.go s⟩, x⟩
theorem de_cb {id : String} (hc : CallR X (.builtin id) (lC K q)) (hg : Gl X x) (hm : X.mg x = none) (hv : bootBuiltins x = some (.builtin id)) (ha : PA X (e :: es) (lA K W Dt)) (hn : x ≠ "__name__" := by decide) (hdb : (x == ("__debug__" : Str)) = false := by decide)
    (he : starEach (e :: es) X.env = (false, eval e X.env) :: starEach es X.env := by rfl) (hpl : (backTo pos (starEach es X.env)).any (·.1) = false := by rfl) : PE X (.Call (.Name x p) (e :: es) [] pos) (lE K W (dB q Dt)) :=
  pem (pe_callB hc hg hm hv ha hn hdb he hpl) fun _ _ _ h => lcb h fun _ _ _ z => z
theorem de_cty {id : String} (hc : CallR X (.type id) (lC K q)) (hg : Gl X x) (hm : X.mg x = none) (hv : bootBuiltins x = some (.type id)) (ha : PA X (e :: es) (lA K W Dt)) (hn : x ≠ "__name__" := by decide) (hdb : (x == ("__debug__" : Str)) = false := by decide)
    (he : starEach (e :: es) X.env = (false, eval e X.env) :: starEach es X.env := by rfl) (hpl : (backTo pos (starEach es X.env)).any (·.1) = false := by rfl) : PE X (.Call (.Name x p) (e :: es) [] pos) (lE K W (dB q Dt)) :=
  pem (pe_callTy hc hg hm hv ha hn hdb he hpl) fun _ _ _ h => lcb h fun _ _ _ z => z
end
def cLen : DCq := fun ds g R => match ds with
  | [d] => (match vw g d with
    | .lst xs => (xs.length ≤ 1152921504606846976 → R (.int xs.length) g)
    | .tup xs => (xs.length ≤ 1152921504606846976 → R (.int xs.length) g)
    | .str z => z.length ≤ sizeLine ∧ R (.int z.length) g
    | .byt z => z.size ≤ sizeLine ∧ R (.int z.size) g
    | .dct xs => R (.int xs.length) g
    | _ => False)
  | _ => False
def cInt : DCq := fun ds g R => match ds with
  | [.int i] => R (.int i) g
  | [.bl b] => R (.int (if b then 1 else 0)) g
  | _ => False
def cBool : DCq := fun ds g R => match ds with
  | [.int i] => R (.bl (i != 0)) g
  | [.bl b] => R (.bl b) g
  | _ => False
def cAbs : DCq := fun ds g R => match ds with
  | [.int i] => R (.int (if i < 0 then -i else i)) g
  | [.bl b] => R (.int (if b then 1 else 0)) g
  | _ => False
def cMax : DCq := fun ds g R => match ds with
  | [.int i, .int j] => R (.int (if j > i then j else i)) g
  | _ => False
def cMin : DCq := fun ds g R => match ds with
  | [.int i, .int j] => R (.int (if j < i then j else i)) g
  | _ => False
def cStr : DCq := fun ds g R => match ds with
  | [.int i] => i.natAbs.log2 < 1920 ∧ R (.str (toString i)) g
  | _ => False
def cOrd : DCq := fun ds g R => match ds with
  | [.str x] => x.length = 1 ∧ R (.int (x.cps.getD 0 0 : Nat)) g
  | _ => False
def cChr : DCq := fun ds g R => match ds with
  | [.int i] => 0 ≤ i ∧ i ≤ 1114111 ∧ R (.str ⟨#[i.toNat]⟩) g
  | _ => False
def cList (n : Nw) : DCq := fun ds g R => match ds with
  | [d] => (match vw g d with
    | .lst xs => n xs g R
    | .tup xs => n xs g R
    | .dct kvs => n (kvs.map fun kv => kD kv.1) g R
    | _ => False)
  | _ => False
def cTuple : DCq := fun ds g R => match ds with
  | [d] => (match vs' g d with
    | .lst xs => R (.tup xs) g
    | .tup xs => R (.tup xs) g
    | _ => False)
  | _ => False
def cRepr : DCq := fun ds g R => match ds with
  | [d] => (∃ p, pd d = some p ∧ p.showable = true ∧ p.hasDict = false ∧ p.depth ≤ 40 ∧ p.shown.length ≤ 100000 ∧ R (.str p.shown) g)
  | _ => False
/-- sorted: numbers, texts, the keys of a dict -/
def cSorted (n : Nw) : DCq := fun ds g R => match ds with
  | [d] => (match vw g d with
    | .lst xs => (∃ ns : List Int, xs = ns.map Dv.int ∧ ∀ ns' : List Int, ns'.Perm ns → ns'.Pairwise (· ≤ ·) → n (ns'.map Dv.int) g R) ∨
        ∃ zs : List Str, xs = zs.map Dv.str ∧ zs.length < 64 ∧ ∀ ys : List Str, ys.Perm zs → sortedS ys = true → n (ys.map Dv.str) g R
    | .dct kvs => (∃ ns : List Int, kvs.map (·.1) = ns.map Sum.inl ∧ ns.length < 64 ∧ ∀ ns' : List Int, ns'.Perm ns → ns'.Pairwise (· ≤ ·) → n (ns'.map Dv.int) g R) ∨
        ∃ zs : List Str, kvs.map (·.1) = zs.map Sum.inr ∧ zs.length < 64 ∧ ∀ ys : List Str, ys.Perm zs → sortedS ys = true → n (ys.map Dv.str) g R
    | _ => False)
  | _ => False
/-- the type's name -/
def isiT (d : Dv) (n : String) : Option Bool := match d with
  | .non => if n ∈ ["int", "bool", "str", "list", "tuple", "dict", "bytes"] then some false else none
  | .bl _ => if n ∈ ["int", "bool"] then some true else if n ∈ ["str", "list", "tuple", "dict", "bytes"] then some false else none
  | .int _ => if n = "int" then some true else if n ∈ ["bool", "str", "list", "tuple", "dict", "bytes"] then some false else none
  | .str _ => if n = "str" then some true else if n ∈ ["int", "bool", "list", "tuple", "dict", "bytes"] then some false else none
  | .byt _ => if n = "bytes" then some true else if n ∈ ["int", "bool", "list", "tuple", "dict", "str"] then some false else none
  | .lst _ => if n = "list" then some true else if n ∈ ["int", "bool", "str", "tuple", "dict", "bytes"] then some false else none
  | .tup _ => if n = "tuple" then some true else if n ∈ ["int", "bool", "str", "list", "dict", "bytes"] then some false else none
  | .dct _ => if n = "dict" then some true else if n ∈ ["int", "bool", "str", "list", "tuple", "bytes"] then some false else none
  | .dcT _ => if n = "dict" then some true else if n ∈ ["int", "bool", "str", "list", "tuple", "bytes"] then some false else none
  | _ => none
def cIsi : DCq := fun ds g R => match ds with
  | [d, .ty n] => (match isiT (vw g d) n with
    | some b => R (.bl b) g
    | none => False)
  | _ => False
section
variable {X : Cx} (K : PySem.W.Frag)
theorem rp1 {K : KM} {g : Ah} {H : Hp} {vs : List V} {d : Dv} (r : RpAll K g H vs [d]) : ∃ v, vs = [v] ∧ Rp K g H v d := by
  cases r with
  | cons h r => cases r; exact ⟨_, rfl, h⟩
theorem rp2 {K : KM} {g : Ah} {H : Hp} {vs : List V} {d e : Dv} (r : RpAll K g H vs [d, e]) : ∃ v u, vs = [v, u] ∧ Rp K g H v d ∧ Rp K g H u e := by
  cases r with
  | cons h r =>
    obtain ⟨u, rfl, h2⟩ := rp1 r
    exact ⟨_, _, rfl, h, h2⟩
theorem cj_len (hK : X.K = K := by rfl) : CallR X (.builtin "len") (lC K cLen) := by
  refine ccm ((call_lenK K hK).or (call_lenSq.or (call_lenD.or call_len))) fun vs H Q h => ?_
  obtain ⟨M, ds, g, R, hr, r, q, k⟩ := h
  unfold cLen at q
  split at q
  next d =>
    obtain ⟨v, rfl, r0⟩ := rp1 r; clear r; have r := r0; clear r0
    split at q
    next xs e =>
      obtain ⟨a, us, rfl, h1, h2⟩ := vw_lst r hr e
      exact .inl ⟨a, us, rfl, .inl h1, fun z => ql_now hr k (.int _) (by rw [h2.length] at z ⊢; exact q z)⟩
    next xs e =>
      obtain ⟨a, us, rfl, h1, h2⟩ := vw_tup r e
      exact .inl ⟨a, us, rfl, .inr h1, fun z => ql_now hr k (.int _) (by rw [h2.length] at z ⊢; exact q z)⟩
    next z e =>
      obtain rfl := vw_str r e
      exact .inr (.inl ⟨z, rfl, q.1, ql_now hr k (.int _) q.2⟩)
    next z e =>
      obtain rfl := vw_byt r e
      exact .inr (.inr (.inr ⟨_, _, rfl, ⟨q.1, rfl⟩, ql_now hr k (.int _) q.2⟩))
    next xs e =>
      obtain ⟨a, us, rfl, h1, h2⟩ := vw_dct r hr e
      exact .inr (.inr (.inl ⟨a, us, rfl, h1, ql_now hr k (.int _) (by rw [h2.length]; exact q)⟩))
    next => exact q.elim
  next => exact q.elim
theorem cj_int : CallR X (.type "int") (lC K cInt) := ccm call_int1 fun vs H Q ⟨M, ds, g, R, hr, r, q, k⟩ => by
  unfold cInt at q
  split at q
  next i => obtain ⟨v, rfl, r0⟩ := rp1 r; clear r; have r := r0; clear r0; cases r; exact .inl ⟨i, rfl, ql_now hr k (.int _) q⟩
  next i => obtain ⟨v, rfl, r0⟩ := rp1 r; clear r; have r := r0; clear r0; cases r; exact .inr ⟨i, rfl, ql_now hr k (.int _) q⟩
  next => exact q.elim
theorem cj_bool : CallR X (.type "bool") (lC K cBool) := ccm call_bool1 fun vs H Q ⟨M, ds, g, R, hr, r, q, k⟩ => by
  unfold cBool at q
  split at q
  next i => obtain ⟨v, rfl, r0⟩ := rp1 r; clear r; have r := r0; clear r0; cases r; exact .inl ⟨i, rfl, ql_now hr k (.bl _) q⟩
  next i => obtain ⟨v, rfl, r0⟩ := rp1 r; clear r; have r := r0; clear r0; cases r; exact .inr ⟨i, rfl, ql_now hr k (.bl _) q⟩
  next => exact q.elim
theorem cj_abs : CallR X (.builtin "abs") (lC K cAbs) := ccm call_absq fun vs H Q ⟨M, ds, g, R, hr, r, q, k⟩ => by
  unfold cAbs at q
  split at q
  next i => obtain ⟨v, rfl, r0⟩ := rp1 r; clear r; have r := r0; clear r0; cases r; exact .inl ⟨i, rfl, ql_now hr k (.int _) q⟩
  next i => obtain ⟨v, rfl, r0⟩ := rp1 r; clear r; have r := r0; clear r0; cases r; exact .inr ⟨i, rfl, ql_now hr k (.int _) q⟩
  next => exact q.elim
theorem cj_max (hc : X.calm = true) : CallR X (.builtin "max") (lC K cMax) := ccm (call_max2 hc) fun vs H Q ⟨M, ds, g, R, hr, r, q, k⟩ => by
  unfold cMax at q
  split at q
  next i j => obtain ⟨v, u, rfl, r0, r2⟩ := rp2 r; clear r; have r := r0; clear r0; cases r; cases r2; exact ⟨i, j, rfl, ql_now hr k (.int _) q⟩
  next => exact q.elim
theorem cj_min (hc : X.calm = true) : CallR X (.builtin "min") (lC K cMin) := ccm (call_min2 hc) fun vs H Q ⟨M, ds, g, R, hr, r, q, k⟩ => by
  unfold cMin at q
  split at q
  next i j => obtain ⟨v, u, rfl, r0, r2⟩ := rp2 r; clear r; have r := r0; clear r0; cases r; cases r2; exact ⟨i, j, rfl, ql_now hr k (.int _) q⟩
  next => exact q.elim
theorem cj_str : CallR X (.type "str") (lC K cStr) := ccm call_str_int fun vs H Q ⟨M, ds, g, R, hr, r, q, k⟩ => by
  unfold cStr at q
  split at q
  next i => obtain ⟨v, rfl, r0⟩ := rp1 r; clear r; have r := r0; clear r0; cases r; exact ⟨i, rfl, q.1, ql_now hr k (.str _) q.2⟩
  next => exact q.elim
theorem cj_ord : CallR X (.builtin "ord") (lC K cOrd) := ccm call_ord fun vs H Q ⟨M, ds, g, R, hr, r, q, k⟩ => by
  unfold cOrd at q
  split at q
  next i => obtain ⟨v, rfl, r0⟩ := rp1 r; clear r; have r := r0; clear r0; cases r; exact ⟨i, rfl, q.1, ql_now hr k (.int _) q.2⟩
  next => exact q.elim
theorem cj_chr : CallR X (.builtin "chr") (lC K cChr) := ccm call_chr fun vs H Q ⟨M, ds, g, R, hr, r, q, k⟩ => by
  unfold cChr at q
  split at q
  next i => obtain ⟨v, rfl, r0⟩ := rp1 r; clear r; have r := r0; clear r0; cases r; exact ⟨i, rfl, q.1, q.2.1, ql_now hr k (.str _) q.2.2⟩
  next => exact q.elim
theorem keys_rp {K : KM} {g : Ah} {H : Hp} : ∀ {vs : List (Key × V)} {ds : List (Key × Dv)}, RpP K g H vs ds → RpAll K g H (vs.map fun kv => kV kv.1) (ds.map fun kv => kD kv.1)
  | _, _, .nil => .nil
  | _, _, .cons (k := k) _ r => .cons (by cases k; exact .int _; exact .str _) (keys_rp r)
theorem keys_eq {K : KM} {g : Ah} {H : Hp} : ∀ {vs : List (Key × V)} {ds : List (Key × Dv)}, RpP K g H vs ds → vs.map (·.1) = ds.map (·.1)
  | _, _, .nil => rfl
  | _, _, .cons (k := k) _ r => by rw [List.map_cons, List.map_cons, keys_eq r]
theorem cj_list {n : Nw} (hc : X.calm = true) (hn : NwOk n) (hK : X.K = K := by rfl) : CallR X (.type "list") (lC K (cList n)) := ccm ((call_listK K hK).or (call_listD hc)) fun vs H Q ⟨M, ds, g, R, hr, r, q, k⟩ => by
  unfold cList at q
  split at q
  next d =>
    obtain ⟨v, rfl, r0⟩ := rp1 r; clear r; have r := r0; clear r0
    split at q
    next xs e =>
      obtain ⟨a, us, rfl, h1, h2⟩ := vw_lst r hr e
      exact .inl ⟨a, us, rfl, .inl h1, fun p hp => hn _ _ _ _ _ _ _ _ hr hp h2 q k⟩
    next xs e =>
      obtain ⟨a, us, rfl, h1, h2⟩ := vw_tup r e
      exact .inl ⟨a, us, rfl, .inr h1, fun p hp => hn _ _ _ _ _ _ _ _ hr hp h2 q k⟩
    next kvs e =>
      obtain ⟨a, us, rfl, h1, h2⟩ := vw_dct r hr e
      exact .inr ⟨a, us, rfl, .inl h1, fun p hp => hn _ _ _ _ _ _ _ _ hr hp (keys_rp h2) q k⟩
    next => exact q.elim
  next => exact q.elim
theorem rp_strs' {K : KM} {g : Ah} {H : Hp} : ∀ {vs : List V} {ns : List Str}, RpAll K g H vs (ns.map Dv.str) → vs = ns.map V.str
  | _, [], .nil => rfl
  | _, n :: ns, .cons h r => by cases h; rw [rp_strs' r]; rfl
theorem strs_rp {K : KM} {g : Ah} {H : Hp} : ∀ ns : List Str, RpAll K g H (ns.map V.str) (ns.map Dv.str)
  | [] => .nil
  | n :: ns => .cons (.str n) (strs_rp ns)
theorem rp_ints' {K : KM} {g : Ah} {H : Hp} : ∀ {vs : List V} {ns : List Int}, RpAll K g H vs (ns.map Dv.int) → vs = ns.map V.int
  | _, [], .nil => rfl
  | _, n :: ns, .cons h r => by cases h; rw [rp_ints' r]; rfl
theorem ints_rp' {K : KM} {g : Ah} {H : Hp} : ∀ ns : List Int, RpAll K g H (ns.map V.int) (ns.map Dv.int)
  | [] => .nil
  | n :: ns => .cons (.int n) (ints_rp' ns)
theorem cj_sorted {n : Nw} (hc : X.calm = true) (hn : NwOk n) (hK : X.K = K := by rfl) : CallR X (.builtin "sorted") (lC K (cSorted n)) := by
  subst hK
  refine ccm ((cr_sortedI.or cr_sortedS).or ((call_sortedDI hc).or (call_sortedD hc))) fun vs H Q ⟨M, ds, g, R, hr, r, q, k⟩ => ?_
  unfold cSorted at q
  split at q
  next d =>
    obtain ⟨v, rfl, r0⟩ := rp1 r; clear r; have r := r0; clear r0
    split at q
    next xs e =>
      obtain ⟨a, us, rfl, h1, h2⟩ := vw_lst r hr e
      rcases q with ⟨ns, rfl, q⟩ | ⟨zs, rfl, hl, q⟩
      · obtain rfl := rp_ints' h2
        exact .inl (.inl ⟨a, ns, rfl, h1, fun ns' p hp hs hn' => hn _ _ _ _ _ _ _ _ hr hn' (ints_rp' _) (q ns' hp hs) k⟩)
      · obtain rfl := rp_strs' h2
        exact .inl (.inr ⟨a, zs, rfl, h1, hl, fun ns' p hp hs hn' => hn _ _ _ _ _ _ _ _ hr hn' (strs_rp _) (q ns' hp hs) k⟩)
    next kvs e =>
      obtain ⟨a, us, rfl, h1, h2⟩ := vw_dct r hr e
      rcases q with ⟨ns, e1, hl, q⟩ | ⟨zs, e1, hl, q⟩
      · exact .inr (.inl ⟨a, us, ns, rfl, .inl h1, by rw [keys_eq h2, e1], hl, fun ns' p hp hs hn' => hn _ _ _ _ _ _ _ _ hr hn' (ints_rp' _) (q ns' hp hs) k⟩)
      · exact .inr (.inr ⟨a, us, zs, rfl, .inl h1, by rw [keys_eq h2, e1], hl, fun ns' p hp hs hn' => hn _ _ _ _ _ _ _ _ hr hn' (strs_rp _) (q ns' hp hs) k⟩)
    next => exact q.elim
  next => exact q.elim
theorem cj_tuple (hK : X.K = K := by rfl) : CallR X (.type "tuple") (lC K cTuple) := ccm (call_tupK K hK) fun vs H Q ⟨M, ds, g, R, hr, r, q, k⟩ => by
  unfold cTuple at q
  split at q
  next d =>
    obtain ⟨v, rfl, r0⟩ := rp1 r; clear r; have r := r0; clear r0
    split at q
    next xs e =>
      obtain ⟨a, us, rfl, h1, h2⟩ := vw_lst r hr (vs_lst e)
      exact ⟨a, us, rfl, .inl ⟨h1, fun p hp => nT_ok hr hp h2 q k⟩⟩
    next xs e =>
      obtain rfl := vs_tup e
      obtain ⟨a, us, rfl, h1, h2⟩ := rp_tup r
      exact ⟨a, us, rfl, .inr ⟨SqT.of h1, ql_now hr k r q⟩⟩
    next => exact q.elim
  next => exact q.elim
theorem call_reprA {X : Cx} (K : PySem.W.Frag) (gd : X.A.guards = some []) (hu : X.A.units + 64 < cLine) (hK : X.K = K := by rfl) : CallR X (.builtin "repr") (fun vs H Q => ∃ v d, vs = [v] ∧ Dp K H v d ∧ d.showable = true ∧ d.hasDict = false ∧ d.depth ≤ 40 ∧ d.shown.length ≤ 100000 ∧ Q (.str d.shown) H) := by
  intro pins s σ H vs us Q I rel h
  obtain ⟨v, d, rfl, hd, h1, h2, h3, h4, q⟩ := h
  cases hd with
  | lst a b => exact call_reprG K gd hu hK pins s σ H _ us Q I rel ⟨_, _, rfl, .lst a b, h1, h2, h3, h4, q⟩
  | tup a b => exact call_reprG K gd hu hK pins s σ H _ us Q I rel ⟨_, _, rfl, .tup a b, h1, h2, h3, h4, q⟩
  | non =>
    cases rel with
    | cons ra rn =>
      cases rn
      cases ra
      exact PySem.P.repr_of_none ⟨.str _, H, I.tok _, ⟨_, rfl⟩, q⟩
  | bl b =>
    cases rel with
    | cons ra rn =>
      cases rn
      cases ra
      exact PySem.P.repr_of_bool ⟨.str _, H, I.tok _, ⟨_, rfl⟩, q⟩
  | int i =>
    cases rel with
    | cons ra rn =>
      cases rn
      obtain ⟨t, rfl⟩ := ra
      exact PySem.P.repr_of_int (of_decide_eq_true h1) ⟨.str _, H, I.tok _, ⟨_, rfl⟩, q⟩
  | str x =>
    cases rel with
    | cons ra rn =>
      cases rn
      obtain ⟨t, rfl⟩ := ra
      exact PySem.P.repr_of_str ⟨.str _, H, I.tok _, ⟨_, rfl⟩, q⟩ (szL h4)
theorem cj_repr (gd : X.A.guards = some []) (hu : X.A.units + 64 < cLine) (hK : X.K = K := by rfl) : CallR X (.builtin "repr") (lC K cRepr) := ccm (call_reprA K gd hu hK) fun vs H Q ⟨M, ds, g, R, hr, r, q, k⟩ => by
  unfold cRepr at q
  split at q
  next d =>
    obtain ⟨v, rfl, r0⟩ := rp1 r; clear r; have r := r0; clear r0
    obtain ⟨p, e, h1, h2, h3, h4, q⟩ := q
    exact ⟨v, p, rfl, r.dp e, h1, h2, h3, h4, ql_now hr k (.str _) q⟩
  next => exact q.elim
theorem rp_ints {K : KM} {g : Ah} {H : Hp} : ∀ {vs : List V} {ns : List Int}, RpAll K g H vs (ns.map Dv.int) → vs = ns.map V.int
  | _, [], .nil => rfl
  | _, n :: ns, .cons h r => by cases h; rw [rp_ints r]; rfl
theorem ints_rp {K : KM} {g : Ah} {H : Hp} : ∀ ns : List Int, RpAll K g H (ns.map V.int) (ns.map Dv.int)
  | [] => .nil
  | n :: ns => .cons (.int n) (ints_rp ns)
theorem isi_kit {K : PySem.W.Frag} {M : List Addr} {g : Ah} {H : Hp} {v : V} {d : Dv} {n : String} {b : Bool} (r : Rp ⟨K, M⟩ g H v d) (hr : HR ⟨K, M⟩ g H) (e : isiT (vw g d) n = some b) : ∃ t, TyX K H v t ∧ PySem.W.kitOne K t (.type n) = some b := by
  have tb : ∀ T : String, (∀ K : PySem.W.Frag, PySem.W.kitOne K (.type T) (.type n) = some b) → PySem.W.kitOne K (.type T) (.type n) = some b := fun _ h => h K
  have key : ∀ T : String, isiT (vw g d) n = some b → (∀ x : Dv, isiT x n = some b → True) := fun _ _ _ _ => trivial
  cases q : vw g d with
  | non =>
    obtain rfl := vw_non r q
    rw [q] at e
    refine ⟨.type "NoneType", .base .non, ?_⟩
    unfold isiT at e
    simp only [List.mem_cons, List.not_mem_nil, or_false] at e
    split at e <;> cases e
    rename_i h
    rcases h with rfl | rfl | rfl | rfl | rfl | rfl | rfl <;> exact kit_ty (by decide +kernel)
  | bl x =>
    obtain rfl := vw_bl r q
    rw [q] at e
    refine ⟨.type "bool", .base (.bl _), ?_⟩
    unfold isiT at e
    simp only [List.mem_cons, List.not_mem_nil, or_false] at e
    split at e
    next h =>
      cases e
      rcases h with rfl | rfl <;> exact kit_ty (by decide +kernel)
    next =>
      split at e <;> cases e
      rename_i h
      rcases h with rfl | rfl | rfl | rfl | rfl <;> exact kit_ty (by decide +kernel)
  | int x =>
    obtain rfl := vw_int r q
    rw [q] at e
    refine ⟨.type "int", .base (.int _), ?_⟩
    unfold isiT at e
    simp only [List.mem_cons, List.not_mem_nil, or_false] at e
    split at e
    next h =>
      cases e
      subst h
      exact kit_ty (by decide +kernel)
    next =>
      split at e <;> cases e
      rename_i h
      rcases h with rfl | rfl | rfl | rfl | rfl | rfl <;> exact kit_ty (by decide +kernel)
  | str x =>
    obtain rfl := vw_str r q
    rw [q] at e
    refine ⟨.type "str", .base (.str _), ?_⟩
    unfold isiT at e
    simp only [List.mem_cons, List.not_mem_nil, or_false] at e
    split at e
    next h =>
      cases e
      subst h
      exact kit_ty (by decide +kernel)
    next =>
      split at e <;> cases e
      rename_i h
      rcases h with rfl | rfl | rfl | rfl | rfl | rfl <;> exact kit_ty (by decide +kernel)
  | byt x =>
    obtain rfl := vw_byt r q
    rw [q] at e
    refine ⟨.type "bytes", .byt _, ?_⟩
    unfold isiT at e
    simp only [List.mem_cons, List.not_mem_nil, or_false] at e
    split at e
    next h =>
      cases e
      subst h
      exact kit_ty (by decide +kernel)
    next =>
      split at e <;> cases e
      rename_i h
      rcases h with rfl | rfl | rfl | rfl | rfl | rfl <;> exact kit_ty (by decide +kernel)
  | lst x =>
    obtain ⟨a, vs, rfl, h1, h2⟩ := vw_lst r hr q
    rw [q] at e
    have ty : TyX K H (.ref a) (.type "list") := by
      rcases h1 with (h1 | ⟨o, h1⟩) | ⟨o, its, n, h1, h3, _⟩
      · exact .base (.lst h1)
      · exact .base (.frz h1)
      · exact .kList h1 h3
    refine ⟨.type "list", ty, ?_⟩
    unfold isiT at e
    simp only [List.mem_cons, List.not_mem_nil, or_false] at e
    split at e
    next h =>
      cases e
      subst h
      exact kit_ty (by decide +kernel)
    next =>
      split at e <;> cases e
      rename_i h
      rcases h with rfl | rfl | rfl | rfl | rfl | rfl <;> exact kit_ty (by decide +kernel)
  | tup x =>
    obtain ⟨a, vs, rfl, h1, h2⟩ := vw_tup r q
    rw [q] at e
    have ty : TyX K H (.ref a) (.type "tuple") := by
      rcases h1 with (h1 | ⟨o, h1⟩) | ⟨o, its, n, h1, h3, _⟩
      · exact .base (.tup h1)
      · exact .fTuple h1
      · exact .kTuple h1 h3
    refine ⟨.type "tuple", ty, ?_⟩
    unfold isiT at e
    simp only [List.mem_cons, List.not_mem_nil, or_false] at e
    split at e
    next h =>
      cases e
      subst h
      exact kit_ty (by decide +kernel)
    next =>
      split at e <;> cases e
      rename_i h
      rcases h with rfl | rfl | rfl | rfl | rfl | rfl <;> exact kit_ty (by decide +kernel)
  | dct x =>
    obtain ⟨a, vs, rfl, h1, h2⟩ := vw_dct r hr q
    rw [q] at e
    refine ⟨.type "dict", .base (.dK h1), ?_⟩
    unfold isiT at e
    simp only [List.mem_cons, List.not_mem_nil, or_false] at e
    split at e
    next h =>
      cases e
      subst h
      exact kit_ty (by decide +kernel)
    next =>
      split at e <;> cases e
      rename_i h
      rcases h with rfl | rfl | rfl | rfl | rfl | rfl <;> exact kit_ty (by decide +kernel)
  | dcT x =>
    obtain ⟨a, vs, rfl, h1, h2⟩ := vw_dcT r hr q
    rw [q] at e
    refine ⟨.type "dict", .base (.dT h1), ?_⟩
    unfold isiT at e
    simp only [List.mem_cons, List.not_mem_nil, or_false] at e
    split at e
    next h =>
      cases e
      subst h
      exact kit_ty (by decide +kernel)
    next =>
      split at e <;> cases e
      rename_i h
      rcases h with rfl | rfl | rfl | rfl | rfl | rfl <;> exact kit_ty (by decide +kernel)
  | _ => rw [q] at e; cases e
theorem cj_isi (hK : X.K = K := by rfl) : CallR X (.builtin "isinstance") (lC K cIsi) := ccm (call_isK K hK) fun vs H Q ⟨M, ds, g, R, hr, r, q, k⟩ => by
  unfold cIsi at q
  split at q
  next d n =>
    obtain ⟨v, u, rfl, r0, r2⟩ := rp2 r; clear r; have r := r0; clear r0
    split at q
    next b e =>
      obtain ⟨t, h1, h2⟩ := isi_kit r hr e
      cases r2
      exact rd_isi (.ty _) h1 h2 (ql_now hr k (.bl _) q)
    next => exact q.elim
  next => exact q.elim
end
/-! ### methods of built-in types -/
abbrev DMq := Dv → List Dv → Ah → DQ → Prop
def lM (K : PySem.W.Frag) (q : DMq) : V → List V → Hp → VK → Prop := fun x vs H Q => ∃ M d ds g R, HR ⟨K, M⟩ g H ∧ Rp ⟨K, M⟩ g H x d ∧ RpAll ⟨K, M⟩ g H vs ds ∧ q d ds g R ∧ QL ⟨K, M⟩ g H R Q
def isL (g : Ah) (d : Dv) : Prop := match vw g d with
  | .lst _ => True
  | _ => False
def isS (d : Dv) : Prop := match d with
  | .str _ => True
  | _ => False
def isD (g : Ah) (d : Dv) : Prop := match vw g d with
  | .dct _ => True
  | .dcT _ => True
  | _ => False
def dMt (ty : Ah → Dv → Prop) (q : DMq) (o : DE) (t : DA) : DE := fun X ev g R => o X ev g fun d g1 => ty g1 d ∧ t X ev g1 fun ds g2 => q d ds g2 R
def TyOk (K : PySem.W.Frag) (T : String) (ty : Ah → Dv → Prop) : Prop := ∀ M g H v d, HR ⟨K, M⟩ g H → Rp ⟨K, M⟩ g H v d → ty g d → tyV K T v H
theorem ty_lst (K : PySem.W.Frag) : TyOk K "list" isL := fun M g H v d hr r h => by
  unfold isL at h
  split at h
  next xs e =>
    obtain ⟨a, vs, rfl, h1, h2⟩ := vw_lst r hr e
    exact .inl ⟨rfl, vs, h1⟩
  next => exact h.elim
theorem ty_str (K : PySem.W.Frag) : TyOk K "str" fun _ d => isS d := fun M g H v d hr r h => by
  cases r <;> first | exact h.elim | rfl
theorem ty_dct (K : PySem.W.Frag) : TyOk K "dict" isD := fun M g H v d hr r h => by
  unfold isD at h
  split at h
  next xs e =>
    obtain ⟨a, vs, rfl, h1, h2⟩ := vw_dct r hr e
    exact .inr (.inr (.inl ⟨rfl, .inl ⟨vs, h1⟩⟩))
  next xs e =>
    obtain ⟨a, vs, rfl, h1, h2⟩ := vw_dcT r hr e
    exact .inr (.inr (.inl ⟨rfl, .inr ⟨vs, h1⟩⟩))
  next => exact h.elim
theorem mtm {X : Cx} {id : String} {r r' : V → List V → Hp → VK → Prop} (h : MtR X id r) (k : ∀ x vs H Q, r' x vs H Q → r x vs H Q) : MtR X id r' := fun pins s σ H x xs v us Q I rx rs q => h pins s σ H x xs v us Q I rx rs (k _ _ _ _ q)
section
variable {X : Cx} {W : WX} {K : PySem.W.Frag} {o e : Expr} {es : List Expr} {Do : DE} {Dt : DA} {pos p apos cpos : Pos} {name : Str} {T id : String} {q : DMq} {ty : Ah → Dv → Prop}
theorem de_mt (pa : PlainAttrs T) (slot : Slot T name id) (hty : typeOf (.builtin id) = pure (.type "method_descriptor")) (hm : MtR X id (lM K q)) (ok : TyOk K T ty) (ho : PE X o (lE K W Do)) (ha : PA X (e :: es) (lA K W Dt)) (hK : X.K = K := by rfl)
    (hbase : attributeBase o name X.env (eval o X.env) = eval o X.env := by rfl)
    (hfew : ((backTo cpos (starEach (e :: es) X.env)).all (fun x => !x.1) && (backToKw cpos (keywordEach [] X.env)).all (fun x => x.1.isSome)
      && decide ((e :: es).length + ([] : List Keyword).length + (if ([] : List Keyword).isEmpty then 0 else 1) < 30)) = true := by rfl)
    (hline : (apos.endLine == cpos.line) = true := by rfl) (hs : starEach (e :: es) X.env = (false, eval e X.env) :: starEach es X.env := by rfl) (hplain : (backTo cpos (starEach es X.env)).any (·.1) = false := by rfl) :
    PE X (.Call (.Attribute o name apos) (e :: es) [] cpos) (lE K W (dMt ty q Do Dt)) := by
  subst hK
  exact pem (pe_bm pa slot hty hm ho ha hbase hfew hline hs hplain) fun σ H Q ⟨M, ev, g, R, Y, c, d, k, x⟩ => ⟨M, ev, g, _, Y, c, d, fun v d g1 H1 hr s r h => ⟨ok _ _ _ _ _ hr r h.1, M, ev, g1, _, Y, c.go hr s, h.2, fun vs ds g2 H2 hr2 s2 r2 h2 => ⟨M, d, ds, g2, R, hr2, r.go s2, r2, h2, k.go (s.trans s2)⟩, x.go s⟩, x⟩
theorem de_mt0 (pa : PlainAttrs T) (slot : Slot T name id) (hty : typeOf (.builtin id) = pure (.type "method_descriptor")) (hm : MtR X id (lM K q)) (ok : TyOk K T ty) (ho : PE X o (lE K W Do)) (hK : X.K = K := by rfl)
    (hbase : attributeBase o name X.env (eval o X.env) = eval o X.env := by rfl) (hline : (apos.endLine == cpos.line) = true := by rfl) : PE X (.Call (.Attribute o name apos) [] [] cpos) (lE K W (dMt ty q Do dNil)) := by
  subst hK
  exact pem (pe_bm0 pa slot hty hm ho hbase hline) fun σ H Q ⟨M, ev, g, R, Y, c, d, k, x⟩ => ⟨M, ev, g, _, Y, c, d, fun v d g1 H1 hr s r h => ⟨ok _ _ _ _ _ hr r h.1, M, d, [], g1, R, hr, r, .nil, h.2, k.go s⟩, x⟩
end
/-! lists -/
def mAppend : DMq := fun d ds g R => ∃ a xs x, d = .ref a ∧ ds = [x] ∧ g a = some (.lst xs) ∧ xs.length < sizeLine ∧ R .non (ups g a (.lst (xs ++ [x])))
def mExtend : DMq := fun d ds g R => ∃ a xs y ys, d = .ref a ∧ ds = [y] ∧ g a = some (.lst xs) ∧ vl g y = .lst ys ∧ xs.length + ys.length ≤ sizeLine ∧ R .non (ups g a (.lst (xs ++ ys)))
def mPop : DMq := fun d ds g R => ∃ a xs x, d = .ref a ∧ ds = [] ∧ g a = some (.lst xs) ∧ xs[xs.length - 1]? = some x ∧ R x (ups g a (.lst xs.dropLast))
def mPopAt : DMq := fun d ds g R => ∃ a xs i k x, d = .ref a ∧ ds = [.int i] ∧ g a = some (.lst xs) ∧ -(2 ^ 63) ≤ i ∧ i < 2 ^ 63 ∧ seqIndex? i xs.length = some k ∧ xs[k]? = some x ∧ R x (ups g a (.lst (xs.eraseIdx k)))
def mReverse : DMq := fun d ds g R => ∃ a xs, d = .ref a ∧ ds = [] ∧ g a = some (.lst xs) ∧ R .non (ups g a (.lst xs.reverse))
def mClear : DMq := fun d ds g R => ∃ a xs, d = .ref a ∧ ds = [] ∧ g a = some (.lst xs) ∧ R .non (ups g a (.lst []))
def mSort : DMq := fun d ds g R => ∃ a ns, d = .ref a ∧ ds = [] ∧ g a = some (.lst (ns.map Dv.int)) ∧ ∀ ns' : List Int, ns'.Perm ns → ns'.Pairwise (· ≤ ·) → R .non (ups g a (.lst (ns'.map Dv.int)))
def mInsert : DMq := fun d ds g R => ∃ a xs i x, d = .ref a ∧ ds = [.int i, x] ∧ g a = some (.lst xs) ∧ xs.length < sizeLine ∧ 0 ≤ i ∧ i < 2 ^ 63 ∧ R .non (ups g a (.lst (xs.take i.toNat ++ [x] ++ xs.drop i.toNat)))
def mJoin : DMq := fun d ds g R => ∃ z xs ys, d = .str z ∧ ds = [xs] ∧ (vw g xs = .lst (ys.map Dv.str) ∨ vw g xs = .tup (ys.map Dv.str)) ∧ (ys.map (·.length)).sum + ys.length * z.length ≤ 16777216 ∧ R (.str (Txt.join z ys)) g
def mUpdate : DMq := fun d ds g R => ∃ a kvs y more, d = .ref a ∧ ds = [y] ∧ y ≠ .ref a ∧ g a = some (.dct kvs) ∧ vw g y = .dct more ∧ kvs.length + more.length ≤ 1000 ∧ R .non (ups g a (.dct (more.foldl (fun acc kv => putD acc kv.1 kv.2) kvs)))
section
variable {X : Cx} (K : PySem.W.Frag)
theorem rp0 {K : KM} {g : Ah} {H : Hp} {vs : List V} (r : RpAll K g H vs []) : vs = [] := by cases r; rfl
theorem lst_put {K : KM} {g : Ah} {H : Hp} {R : DQ} {Q : VK} {a : Addr} {m : Mo} {o : HO} {v : V} {d : Dv} (hr : HR K g H) (e : g a ≠ none) (h : OkO K g H o m) (k : QL K g H R Q) (rv : Rp K (ups g a m) (upd H a o) v d) (q : R d (ups g a m)) : Q v (upd H a o) :=
  k _ _ _ _ (hr_put hr (.inr e) h) (stp_put hr (.inr e)) rv q
theorem lst_putL {K : KM} {g : Ah} {H : Hp} {R : DQ} {Q : VK} {a : Addr} {xs : List Dv} {vs : List V} {v : V} {d : Dv} (hr : HR K g H) (e : g a ≠ none) (h : RpAll K g H vs xs) (k : QL K g H R Q) (rv : Rp K (ups g a (.lst xs)) (upd H a (.lst vs)) v d) (q : R d (ups g a (.lst xs))) : Q v (upd H a (.lst vs)) := lst_put (m := .lst xs) (o := .lst vs) hr e h k rv q
theorem mo_ne {g : Ah} {a : Addr} {m : Mo} (h : g a = some m) : g a ≠ none := by rw [h]; exact fun z => nomatch z
theorem mj_append : MtR X "list.append" (lM K mAppend) := mtm mt_append fun x vs H Q ⟨M, d, ds, g, R, hr, rx, rs, q, k⟩ => by
  obtain ⟨a, xs, y, rfl, rfl, h, hz, q⟩ := q
  cases rx
  obtain ⟨u, rfl, ru⟩ := rp1 rs
  obtain ⟨us, h1, h2⟩ := mo_lst hr h
  exact ⟨a, us, u, rfl, rfl, h1, by rw [h2.length]; exact hz, lst_putL hr (mo_ne h) (h2.append (.one ru)) k .non q⟩
theorem mj_extend : MtR X "list.extend" (lM K mExtend) := mtm mt_extend fun x vs H Q ⟨M, d, ds, g, R, hr, rx, rs, q, k⟩ => by
  obtain ⟨a, xs, y, ys, rfl, rfl, h, hy, hz, q⟩ := q
  cases rx
  obtain ⟨u, rfl, ru⟩ := rp1 rs
  obtain ⟨us, h1, h2⟩ := mo_lst hr h
  obtain ⟨b, ws, rfl, h3, h4⟩ := vl_lst ru hr hy
  exact ⟨a, b, us, ws, rfl, rfl, h1, h3, by rw [h2.length, h4.length]; exact hz, lst_putL hr (mo_ne h) (h2.append h4) k .non q⟩
theorem RpAll.dropLast {K : KM} {g : Ah} {H : Hp} {vs : List V} {xs : List Dv} (r : RpAll K g H vs xs) : RpAll K g H vs.dropLast xs.dropLast := by
  rw [List.dropLast_eq_take, List.dropLast_eq_take, r.length]
  exact r.take _
theorem mj_pop : MtR X "list.pop" (lM K mPop) := mtm mt_pop fun x vs H Q ⟨M, d, ds, g, R, hr, rx, rs, q, k⟩ => by
  obtain ⟨a, xs, y, rfl, rfl, h, hy, q⟩ := q
  cases rx
  obtain rfl := rp0 rs
  obtain ⟨us, h1, h2⟩ := mo_lst hr h
  obtain ⟨u, h3, h4⟩ := h2.get hy
  exact ⟨a, us, u, rfl, rfl, h1, by rw [h2.length]; exact h3, lst_putL hr (mo_ne h) h2.dropLast k (h4.go (stp_put hr (.inr (mo_ne h)))) q⟩
theorem mj_popAt : MtR X "list.pop" (lM K mPopAt) := mtm mt_popAt fun x vs H Q ⟨M, d, ds, g, R, hr, rx, rs, q, k⟩ => by
  obtain ⟨a, xs, i, j, y, rfl, rfl, h, h1, h2, h3, hy, q⟩ := q
  cases rx
  obtain ⟨u, rfl, ru⟩ := rp1 rs
  cases ru
  obtain ⟨us, h4, h5⟩ := mo_lst hr h
  obtain ⟨u, h6, h7⟩ := h5.get hy
  exact ⟨a, us, i, j, u, rfl, rfl, h4, h1, h2, by rw [h5.length]; exact h3, h6, lst_putL hr (mo_ne h) (h5.eraseIdx j) k (h7.go (stp_put hr (.inr (mo_ne h)))) q⟩
theorem mj_reverse : MtR X "list.reverse" (lM K mReverse) := mtm mt_reverse fun x vs H Q ⟨M, d, ds, g, R, hr, rx, rs, q, k⟩ => by
  obtain ⟨a, xs, rfl, rfl, h, q⟩ := q
  cases rx
  obtain rfl := rp0 rs
  obtain ⟨us, h1, h2⟩ := mo_lst hr h
  exact ⟨a, us, rfl, rfl, h1, lst_putL hr (mo_ne h) h2.rev k .non q⟩
theorem mj_clear : MtR X "list.clear" (lM K mClear) := mtm mt_clear fun x vs H Q ⟨M, d, ds, g, R, hr, rx, rs, q, k⟩ => by
  obtain ⟨a, xs, rfl, rfl, h, q⟩ := q
  cases rx
  obtain rfl := rp0 rs
  obtain ⟨us, h1, h2⟩ := mo_lst hr h
  exact ⟨a, us, rfl, rfl, h1, lst_putL hr (mo_ne h) .nil k .non q⟩
theorem mj_sort : MtR X "list.sort" (lM K mSort) := mtm mt_sortI fun x vs H Q ⟨M, d, ds, g, R, hr, rx, rs, q, k⟩ => by
  obtain ⟨a, ns, rfl, rfl, h, q⟩ := q
  cases rx
  obtain rfl := rp0 rs
  obtain ⟨us, h1, h2⟩ := mo_lst hr h
  obtain rfl := rp_ints h2
  exact ⟨a, ns, rfl, rfl, h1, fun ns' p s => lst_putL hr (mo_ne h) (ints_rp ns') k .non (q ns' p s)⟩
theorem mj_insert : MtR X "list.insert" (lM K mInsert) := mtm mt_insert fun x vs H Q ⟨M, d, ds, g, R, hr, rx, rs, q, k⟩ => by
  obtain ⟨a, xs, i, y, rfl, rfl, h, hz, h0, h1, q⟩ := q
  cases rx
  obtain ⟨v1, u, rfl, r1, ru⟩ := rp2 rs
  cases r1
  obtain ⟨us, h2, h3⟩ := mo_lst hr h
  exact ⟨a, us, i, u, rfl, rfl, h2, by rw [h3.length]; exact hz, h0, h1, lst_putL hr (mo_ne h) (((h3.take _).append (.one ru)).append (h3.drop _)) k .non q⟩
theorem rp_strs {K : KM} {g : Ah} {H : Hp} : ∀ {vs : List V} {ns : List Str}, RpAll K g H vs (ns.map Dv.str) → vs = ns.map V.str
  | _, [], .nil => rfl
  | _, n :: ns, .cons h r => by cases h; rw [rp_strs r]; rfl
theorem mj_join (hK : X.K = K := by rfl) : MtR X "str.join" (lM K mJoin) := by
  subst hK
  exact mtm mt_join fun x vs H Q ⟨M, d, ds, g, R, hr, rx, rs, q, k⟩ => by
    obtain ⟨z, y, ys, rfl, rfl, hy, hz, q⟩ := q
    cases rx
    obtain ⟨u, rfl, ru⟩ := rp1 rs
    rcases hy with hy | hy
    · obtain ⟨a, us, rfl, h1, h2⟩ := vw_lst ru hr hy
      obtain rfl := rp_strs h2
      exact ⟨z, a, ys, rfl, rfl, .inl h1, hz, ql_now hr k (.str _) q⟩
    · obtain ⟨a, us, rfl, h1, h2⟩ := vw_tup ru hy
      obtain rfl := rp_strs h2
      exact ⟨z, a, ys, rfl, rfl, .inr h1, hz, ql_now hr k (.str _) q⟩
theorem RpP.merge {K : KM} {g : Ah} {H : Hp} : ∀ {ws vs : List (Key × V)} {es ds : List (Key × Dv)}, RpP K g H ws es → RpP K g H vs ds → RpP K g H (mergeK vs ws) (es.foldl (fun acc kv => putD acc kv.1 kv.2) ds)
  | _, _, _, _, .nil, r => r
  | _, vs, _, ds, .cons (k := j) (v := v) (d := d) (vs := ws) (ds := es) h r, s => by
    show RpP K g H (mergeK (putK vs j v) ws) (es.foldl (fun acc kv => putD acc kv.1 kv.2) (putD ds j d))
    exact RpP.merge r (s.put h)
theorem mj_update : MtR X "dict.update" (lM K mUpdate) := mtm mt_update fun x vs H Q ⟨M, d, ds, g, R, hr, rx, rs, q, k⟩ => by
  obtain ⟨a, kvs, y, more, rfl, rfl, hne, h, hy, hz, q⟩ := q
  cases rx
  obtain ⟨u, rfl, ru⟩ := rp1 rs
  obtain ⟨us, h1, h2⟩ := mo_dct hr h
  obtain ⟨b, ws, rfl, h3, h4⟩ := vw_dct ru hr hy
  refine ⟨a, b, us, ws, rfl, rfl, h1, h3, fun e => ?_, by rw [h2.length, h4.length]; exact hz, lst_put (m := .dct _) (o := .dK _) hr (mo_ne h) (h4.merge h2) k .non q⟩
  subst e
  cases ru with
  | ref _ => exact hne rfl
  | dct h5 _ _ _ => rw [h] at h5; cases h5
  | _ => cases hy
end
/-! ### d.get -/
def isDk (g : Ah) (d : Dv) : Prop := isD g d ∨ ∃ a o us kvs, d = .ref a ∧ g a = some (.lck o us kvs)
def dGet1 (o e : DE) : DE := fun X ev g R => o X ev g fun d g1 => isDk g1 d ∧ e X ev g1 fun k g2 => ∃ r, dget g2 d k = some r ∧ R (r.getD .non) g2
def dGet2 (o e f : DE) : DE := fun X ev g R => o X ev g fun d g1 => isDk g1 d ∧ e X ev g1 fun k g2 => f X ev g2 fun z g3 => ∃ r, dget g3 d k = some r ∧ R (r.getD z) g3
theorem isD_ok {K : KM} {g : Ah} {H : Hp} {v : V} {d : Dv} (r : Rp K g H v d) (hr : HR K g H) (h : isDk g d) : ∃ a, v = .ref a ∧ IsD H a := by
  rcases h with h | ⟨a, o, us, kvs, rfl, ea⟩
  rotate_left
  · obtain ⟨h1, h2⟩ := mo_lck hr ea
    cases r
    exact ⟨a, rfl, .inl ⟨us, .inr ⟨o, h1⟩⟩⟩
  unfold isD at h
  split at h
  next xs e =>
    obtain ⟨a, vs, rfl, h1, h2⟩ := vw_dct r hr e
    exact ⟨a, rfl, .inl ⟨vs, .inl h1⟩⟩
  next xs e =>
    obtain ⟨a, vs, rfl, h1, h2⟩ := vw_dcT r hr e
    exact ⟨a, rfl, .inr ⟨vs, .inl h1⟩⟩
  next => exact h.elim
section
variable {X : Cx} {W : WX} {K : PySem.W.Frag} {o e f : Expr} {Do De' Df : DE} {apos cpos : Pos}
theorem de_get1 (hu : X.A.units + 1 < cLine) (ho : PE X o (lE K W Do)) (he : PE X e (lE K W De')) (m : M1 X o "get" apos e cpos := by exact ⟨rfl, rfl, rfl, rfl⟩) : PE X (.Call (.Attribute o "get" apos) [e] [] cpos) (lE K W (dGet1 Do De')) :=
  pem (pe_dget1 hu ho he m) fun σ H Q ⟨M, ev, g, R, Y, c, d, k, x⟩ => ⟨M, ev, g, _, Y, c, d, fun v d g1 H1 hr s r h => by
    obtain ⟨a, rfl, i⟩ := isD_ok r hr h.1
    refine ⟨a, rfl, i, M, ev, g1, _, Y, c.go hr s, h.2, fun u y g2 H2 hr2 s2 r2 h2 => ?_, x.go s⟩
    obtain ⟨z, e1, q⟩ := h2
    obtain ⟨b, o', eb, dg, z1, z2⟩ := dget_ok hr2 (r.go s2) r2 e1
    cases eb
    refine ⟨o', dg, ?_⟩
    cases z with
    | none => rw [z2 rfl]; exact k _ _ _ _ hr2 (s.trans s2) .non q
    | some y => obtain ⟨w, e2, e3⟩ := z1 y rfl; rw [e2]; exact k _ _ _ _ hr2 (s.trans s2) e3 q, x⟩
theorem de_get2 (hu : X.A.units + 1 < cLine) (ho : PE X o (lE K W Do)) (he : PE X e (lE K W De')) (hf : PE X f (lE K W Df)) (m : M2 X o "get" apos e f cpos := by exact ⟨rfl, rfl, rfl, rfl⟩) : PE X (.Call (.Attribute o "get" apos) [e, f] [] cpos) (lE K W (dGet2 Do De' Df)) :=
  pem (pe_dget2 hu ho he hf m) fun σ H Q ⟨M, ev, g, R, Y, c, d, k, x⟩ => ⟨M, ev, g, _, Y, c, d, fun v d g1 H1 hr s r h => by
    obtain ⟨a, rfl, i⟩ := isD_ok r hr h.1
    refine ⟨a, rfl, i, M, ev, g1, _, Y, c.go hr s, h.2, fun u y g2 H2 hr2 s2 r2 h2 => ⟨M, ev, g2, _, Y, c.go hr2 (s.trans s2), h2, fun w z g3 H3 hr3 s3 r3 h3 => ?_, x.go (s.trans s2)⟩, x.go s⟩
    obtain ⟨z1, e1, q⟩ := h3
    obtain ⟨b, o', eb, dg, z2, z3⟩ := dget_ok hr3 (r.go (s2.trans s3)) (r2.go s3) e1
    cases eb
    refine ⟨o', dg, ?_⟩
    cases z1 with
    | none => rw [z3 rfl]; exact k _ _ _ _ hr3 ((s.trans s2).trans s3) r3 q
    | some y => obtain ⟨w, e2, e3⟩ := z2 y rfl; rw [e2]; exact k _ _ _ _ hr3 ((s.trans s2).trans s3) e3 q, x⟩
end
/-! ### fields -/
def putFD (f : Str) (v : Dv) : List (Str × Dv) → List (Str × Dv)
  | [] => [(f, v)]
  | p :: r => if p.1 = f then (f, v) :: r else p :: putFD f v r
def dFld (P : Addr → Prop) (a : DE) (f : Str) : DE := fun X ev g R => a X ev g fun d g1 => ∃ p C fs v, d = .ref p ∧ g1 p = some (.ins C fs) ∧ P C ∧ fs.lookup f = some v ∧ R v g1
section
variable {K : KM} {g : Ah} {H : Hp} {f : Str}
theorem RpP.look : ∀ {vs : List (Str × V)} {ds : List (Str × Dv)}, RpP K g H vs ds → (∀ d, ds.lookup f = some d → ∃ v, vs.lookup f = some v ∧ Rp K g H v d) ∧ (ds.lookup f = none → vs.lookup f = none)
  | _, _, .nil => ⟨fun d h => (nomatch (show (none : Option Dv) = some d from h)), fun _ => rfl⟩
  | _, _, .cons (k := j) h r => by
    obtain ⟨h1, h2⟩ := RpP.look r
    rw [List.lookup_cons, List.lookup_cons]
    cases q : f == j with
    | true => exact ⟨fun d z => by cases z; exact ⟨_, rfl, h⟩, fun z => by cases z⟩
    | false => exact ⟨h1, h2⟩
theorem RpP.putF {v : V} {d : Dv} (h : Rp K g H v d) : ∀ {vs : List (Str × V)} {ds : List (Str × Dv)}, RpP K g H vs ds → RpP K g H (L2.putF f v vs) (putFD f d ds)
  | _, _, .nil => .cons h .nil
  | _, _, .cons (k := j) (v := u) (d := e) (vs := vs) (ds := ds) h' r => by
    show RpP K g H (if _ then _ else _) (if j = f then _ else _)
    by_cases e : j = f
    · subst e
      rw [if_pos rfl, if_pos rfl]
      exact .cons h r
    · rw [if_neg e, if_neg e]
      exact .cons h' (RpP.putF h r)
end
section
variable {X : Cx} {W : WX} {K : PySem.W.Frag} {a o e : Expr} {Da Do : DE} {f : Str} {pos : Pos}
theorem de_fld {P : Addr → Prop} (hP : ∀ C, P C → Cls K C ∧ NoAttr K C f) (h : PE X a (lE K W Da)) (hb : attributeBase a f X.env (eval a X.env) = eval a X.env := by rfl) (hK : X.K = K := by rfl) : PE X (.Attribute a f pos) (lE K W (dFld P Da f)) := by
  subst hK
  exact pem (pe_fld h hb) fun σ H Q ⟨M, ev, g, R, Y, c, d, q, x⟩ => ⟨M, ev, g, _, Y, c, d, fun v d g' H' hr s r k => by
    obtain ⟨p, C, fs, z, rfl, h1, h2, h3, h4⟩ := k
    cases r
    obtain ⟨dx, vs, h5, h6⟩ := mo_ins hr h1
    obtain ⟨w, h7, h8⟩ := h6.look.1 z h3
    exact ⟨p, C, dx, vs, w, rfl, h5, (hP C h2).1, (hP C h2).2, h7, q _ _ _ _ hr s h8 h4⟩, x⟩
end
/-! ### defs: with nothing being shown, and what they raise -/
abbrev FD := List Dv → Ah → DQ → Xc → Prop
def spL (K : PySem.W.Frag) (S : FD) : Sp := fun vs H Q E => ∃ M ds g R Y, RpAll ⟨K, M⟩ g H vs ds ∧ HR ⟨K, M⟩ g H ∧ S ds g R Y ∧ QL ⟨K, M⟩ g H R Q ∧ ∀ x cls d g' H', HR ⟨K, M⟩ g' H' → Stp g H g' H' → XRel ⟨K, M⟩ g' H' x cls d → Y x g' → E cls d H'
structure FnX (P : Program) (w : World) (K : PySem.W.Frag) (mg : Str → Option Value) (base : Heap) (k : Nat) (f : Addr) (fd : FuncData) (ps : List Str) (sp : Sp) : Prop where
  many : ∀ vs H Q E, sp vs H Q E → vs.length = ps.length
  goes : ∀ (A : Around) (outer : List Env) (s : Shared) (H : Hp) (args : Args) (us : List Value) (vs : List V) (Q : VK) (E : XK), A.guards = some [] → Room k A → Env0 P w K mg base A outer s H → BindsTo s fd args (ps.zip us) → Vals vs us →
    sp vs H Q E → codeAny (model P w) A (.call (.ref f) args) (CR (L2.CX P w) outer P w H s Q E) s
structure CalD (P : Program) (w : World) (K : PySem.W.Frag) (mg : Str → Option Value) (base : Heap) (k : Nat) (x : Str) (S : FD) : Prop where
  ex : ∃ (f : Addr) (fd : FuncData) (ps : List Str), FnX P w K mg base k f fd ps (spL K S) ∧ mg x = some (.ref f) ∧ PySem.W.keepIn K (.ref f) = true ∧ Binds K fd ps []
structure MetD (P : Program) (w : World) (K : PySem.W.Frag) (mg : Str → Option Value) (base : Heap) (k : Nat) (C : Addr) (m : Str) (S : FD) : Prop where
  ex : ∃ (f : Addr) (fd : FuncData) (ps : List Str), Cls K C ∧ Meth K C m f ∧ FnX P w K mg base k f fd ps (spL K S) ∧ Binds K fd ps []
structure MakD (P : Program) (w : World) (K : PySem.W.Frag) (mg : Str → Option Value) (base : Heap) (k : Nat) (x : Str) (C : Addr) (S : FD) : Prop where
  ex : ∃ (f : Addr) (fd : FuncData) (ps : List Str), Mk K C f ∧ FnX P w K mg base k f fd ps (spL K S) ∧ mg x = some (.ref C) ∧ Binds K fd ps []
def dFun (n : Nat) (m : Nat) (B : DS) : FD := fun ds g R Y => ds.length = n ∧ B ⟨fun _ g => R .non g, R, fun _ _ => False, fun _ _ => False, fun x _ g => Y x g⟩ (ds.map some ++ List.replicate m none) g
section
variable {P : Program} {w : World} {K : PySem.W.Frag} {mg : Str → Option Value} {base : Heap} {x qual m : Str} {st : Stmt} {N ps : List Str} {k : Nat} {S S' : FD} {C : Addr}
theorem spL.mono (h : ∀ ds g R Y, S' ds g R Y → S ds g R Y) {vs : List V} {H : Hp} {Q : VK} {E : XK} (s : spL K S' vs H Q E) : spL K S vs H Q E := by
  obtain ⟨M, ds, g, R, Y, h1, h2, h3, h4, h5⟩ := s
  exact ⟨M, ds, g, R, Y, h1, h2, h _ _ _ _ h3, h4, h5⟩
theorem FnX.imp {f : Addr} {fd : FuncData} (F : FnX P w K mg base k f fd ps (spL K S)) (h : ∀ ds g R Y, S' ds g R Y → S ds g R Y) : FnX P w K mg base k f fd ps (spL K S') :=
  ⟨fun vs H Q E s => F.many _ _ _ _ (s.mono h), fun A outer s H args us vs Q E gd hr e0 hb r sp => F.goes A outer s H args us vs Q E gd hr e0 hb r (sp.mono h)⟩
theorem CalD.imp (c : CalD P w K mg base k x S) (h : ∀ ds g R Y, S' ds g R Y → S ds g R Y) : CalD P w K mg base k x S' := by
  obtain ⟨f, fd, ps, F, a, b, d⟩ := c.ex
  exact ⟨f, fd, ps, F.imp h, a, b, d⟩
theorem MetD.imp (c : MetD P w K mg base k C m S) (h : ∀ ds g R Y, S' ds g R Y → S ds g R Y) : MetD P w K mg base k C m S' := by
  obtain ⟨f, fd, ps, a, b, F, d⟩ := c.ex
  exact ⟨f, fd, ps, a, b, F.imp h, d⟩
theorem MakD.imp (c : MakD P w K mg base k x C S) (h : ∀ ds g R Y, S' ds g R Y → S ds g R Y) : MakD P w K mg base k x C S' := by
  obtain ⟨f, fd, ps, a, F, b, d⟩ := c.ex
  exact ⟨f, fd, ps, a, F.imp h, b, d⟩
theorem fnx_ok {f : Addr} {fd : FuncData} {sp : Sp} (F : FunD K x qual (defArgs st) (defBody st) (defScope st) [] [] f fd) (S : FnScope N ps (defScope st)) (many : ∀ vs H Q E, sp vs H Q E → vs.length = ps.length)
    (walk : ∀ (cdv : Value) (A : Around) (outer : List Env) (s : Shared) (H : Hp) (vs : List V) (Q : VK) (E : XK), A.guards = some [] → Room k (A.deeper (envOfC qual (defScope st) s.heap.objs.size f cdv)) → sp vs H Q E →
      ∃ t, PSs (cxOf (L2.CX P w) P w K mg base N qual (defScope st) f cdv A outer s H E) (defBody st) t ∧ t { nx := fun _ H' => Q .non H', rt := Q } (start N vs) H) : FnX P w K mg base (k + 1) f fd ps sp := by
  obtain ⟨_, _, _, _, _, _, _, cdv, _, _, rfl, look, code, _, _⟩ := F.ex
  refine ⟨many, fun A outer s H args us vs Q E gd room env bound rel hsp => ?_⟩
  have kin : K.In s.heap := env.mod.kin.keeps fun b o e => (env.bs b o e).1
  have lim : s.heap.NoLimit := env.mod.nolimit.keeps fun b o e => (env.bs b o e).1
  refine codeAny_call_function room.depth (kin _ _ look) rfl S.co S.gen rfl (PySem.W.codeRec_of kin code) (bound _ _ _ _ ?_)
  refine wpAny_newFunctionEnv_cells S.kind (fun y hy => ?_) fun e he s1 made => ?_
  · rcases S.par y.1 (List.of_mem_zip (a := y.1) (b := y.2) hy).1 with z | z
    · exact .inl z
    · exact .inr ⟨z, PySem.W.cellsFrom_some _ _ _ (.inl z)⟩
  subst he
  obtain ⟨t, ht, q⟩ := walk cdv A outer s H vs Q E gd (room.deeper _) hsp
  refine ⟨lim.keeps made.toInCall.keep, codeAny_func (wpAny_mono (ht.run [] s1 (start N vs) H _ (inv_start S room.hd env (many _ _ _ _ hsp) rel made) q) (fun fl s' z => ?_) fun _ _ z => z)⟩
  cases fl with
  | ret u => exact let ⟨v, _, H', J, rv, q⟩ := z; ⟨v, H', J.os, J.bare, J.base, J.hok, rv, q⟩
  | next => exact let ⟨_, H', J, q⟩ := z; ⟨.non, H', J.os, J.bare, J.base, J.hok, rfl, q⟩
  | brk => exact let ⟨_, _, _, q⟩ := z; q.elim
  | cont => exact let ⟨_, _, _, q⟩ := z; q.elim
/-- the facts of a def's own context -/
structure Bn (j : Nat) (X : Cx) (W : WX) : Prop where
  calm : X.calm = true
  tk : Takes X W
  po : PassesOwn (model X.prog X.w) X.A X.env X.xe
  hr : Room j X.A
  gd : X.A.guards = some []
theorem Bn.hu {j : Nat} {X : Cx} {W : WX} (b : Bn j X W) : X.A.units + 70 < cLine := by have := b.hr.un; omega
theorem Bn.hu1 {j : Nat} {X : Cx} {W : WX} (b : Bn j X W) : X.A.units + 1 < cLine := by have := b.hu; omega
theorem Bn.hu64 {j : Nat} {X : Cx} {W : WX} (b : Bn j X W) : X.A.units + 64 < cLine := by have := b.hu; omega
theorem Bn.hu65 {j : Nat} {X : Cx} {W : WX} (b : Bn j X W) : X.A.units + 65 < cLine := by have := b.hu; omega
def W0 : WX := fun _ _ _ _ => False
/-- a comprehension's block -/
theorem Bn.blk {j : Nat} {X : Cx} {W : WX} (b : Bn j X W) {s : Shared} {H : Hp} {sc : Scope} {ce : Env} {fp : List Addr} : Bn j (X.blk s H sc ce fp) W0 := ⟨b.calm, fun u s' x => by
  obtain ⟨a, B, sI, pins, σ, H, cls, d, _, _, _, _, _, _, _, _, w⟩ := x
  exact w, PassesOwn.never, b.hr, b.gd⟩
theorem start_cn {M : List Addr} {g : Ah} {H : Hp} {vs : List V} {ds : List Dv} {n : Nat} (r : RpAll ⟨K, M⟩ g H vs ds) (hr : HR ⟨K, M⟩ g H) (hn : vs.length + n = N.length) : Cn ⟨K, M⟩ (start N vs) H (ds.map some ++ List.replicate n none) g := by
  have e : start N vs = vs.map some ++ List.replicate n none := by
    unfold L2.start
    congr 2
    omega
  rw [e]
  refine ⟨by simp [r.length], fun i d h => ?_, hr⟩
  by_cases hi : i < ds.length
  · rw [List.getElem?_append_left (by simpa using hi), List.getElem?_map] at h
    rw [List.getElem?_append_left (by simpa [r.length] using hi), List.getElem?_map]
    cases q : ds[i]? with
    | none => rw [q] at h; cases h
    | some y =>
      rw [q] at h
      cases h
      obtain ⟨v, h1, h2⟩ := r.get q
      exact ⟨v, by rw [h1]; rfl, h2⟩
  · rw [List.getElem?_append_right (by simpa using hi)] at h
    have := (List.getElem?_replicate (n := n) (a := (none : Option Dv)) (i := i - (ds.map some).length))
    rw [this] at h
    split at h <;> cases h
theorem fnd_walk {f : Addr} {fd : FuncData} {B : DS} {n : Nat} (F : FunD K x qual (defArgs st) (defBody st) (defScope st) [] [] f fd) (Sc : FnScope N ps (defScope st)) (hn : ps.length + n = N.length)
    (walk : ∀ (cdv : Value) (A : Around) (outer : List Env) (s : Shared) (H : Hp) (E : XK), Bn k (cxOf (L2.CX P w) P w K mg base N qual (defScope st) f cdv A outer s H E) (fun cls d _ H => E cls d H) →
      PSs (cxOf (L2.CX P w) P w K mg base N qual (defScope st) f cdv A outer s H E) (defBody st) (lS K (fun cls d _ H => E cls d H) B)) : FnX P w K mg base (k + 1) f fd ps (spL K (dFun ps.length n B)) := by
  have many : ∀ vs H Q E, spL K (dFun ps.length n B) vs H Q E → vs.length = ps.length := fun vs H Q E h => by
    obtain ⟨M, ds, g, R, Y, h1, _, h3, _⟩ := h
    rw [h1.length]; exact h3.1
  refine fnx_ok F Sc many fun cdv A outer s H vs Q E gd hr h => ?_
  refine ⟨_, walk cdv A outer s H E ⟨rfl, takes_of rfl rfl rfl rfl, PassesOwn.leaving, hr, gd⟩, ?_⟩
  have hl := many vs H Q E h
  obtain ⟨M, ds, g, R, Y, h1, h2, h3, h4, h5⟩ := h
  refine ⟨M, _, g, _, start_cn h1 h2 (by rw [hl]; exact hn), h3.2, ⟨fun σ' ev' g' H' c t z => h4 _ _ _ _ c.hr t .non z, h4, fun _ _ _ _ _ _ z => z.elim, fun _ _ _ _ _ _ z => z.elim, fun y cls d σ' ev' g' H' c t r z => h5 _ _ _ _ _ c.hr t r z⟩⟩
theorem GFun.calD {B : DS} {n : Nat} (g : GFun K mg x st) (Sc : FnScope N ps (defScope st)) (b : BindAll x x st ps) (hn : ps.length + n = N.length)
    (walk : ∀ (f : Addr) (cdv : Value) (A : Around) (outer : List Env) (s : Shared) (H : Hp) (E : XK), Bn k (cxOf (L2.CX P w) P w K mg base N x (defScope st) f cdv A outer s H E) (fun cls d _ H => E cls d H) →
      PSs (cxOf (L2.CX P w) P w K mg base N x (defScope st) f cdv A outer s H E) (defBody st) (lS K (fun cls d _ H => E cls d H) B)) : CalD P w K mg base (k + 1) x (dFun ps.length n B) := by
  obtain ⟨f, fd, F, hm⟩ := g.ex
  exact ⟨f, fd, ps, fnd_walk F Sc hn (walk f), hm, F.kp, F.bindsN b⟩
theorem GMet.metD {B : DS} {n : Nat} (g : GMet K C m qual st) (Sc : FnScope N ps (defScope st)) (b : BindAll m qual st ps) (hn : ps.length + n = N.length)
    (walk : ∀ (f : Addr) (cdv : Value) (A : Around) (outer : List Env) (s : Shared) (H : Hp) (E : XK), Bn k (cxOf (L2.CX P w) P w K mg base N qual (defScope st) f cdv A outer s H E) (fun cls d _ H => E cls d H) →
      PSs (cxOf (L2.CX P w) P w K mg base N qual (defScope st) f cdv A outer s H E) (defBody st) (lS K (fun cls d _ H => E cls d H) B)) : MetD P w K mg base (k + 1) C m (dFun ps.length n B) := by
  obtain ⟨f, fd, F, c, hm⟩ := g.ex
  exact ⟨f, fd, ps, c, hm, fnd_walk F Sc hn (walk f), F.bindsN b⟩
theorem GMak.makD {B : DS} {n : Nat} (g : GMak K mg x C qual st) (Sc : FnScope N ps (defScope st)) (b : BindAll "__init__" qual st ps) (hn : ps.length + n = N.length)
    (walk : ∀ (f : Addr) (cdv : Value) (A : Around) (outer : List Env) (s : Shared) (H : Hp) (E : XK), Bn k (cxOf (L2.CX P w) P w K mg base N qual (defScope st) f cdv A outer s H E) (fun cls d _ H => E cls d H) →
      PSs (cxOf (L2.CX P w) P w K mg base N qual (defScope st) f cdv A outer s H E) (defBody st) (lS K (fun cls d _ H => E cls d H) B)) : MakD P w K mg base (k + 1) x C (dFun ps.length n B) := by
  obtain ⟨f, fd, F, M, hm⟩ := g.ex
  exact ⟨f, fd, ps, M, fnd_walk F Sc hn (walk f), hm, F.bindsN b⟩
/-- the law itself -/
theorem GFun.lawD {fa : Addr} {B : DS} {n : Nat} (g : GFun K mg "law" st) (hmg : mg "law" = some (.ref fa)) (Sc : FnScope N ["script"] (defScope st)) (b : BindAll "law" "law" st ["script"]) (hn : 1 + n = N.length)
    (walk : ∀ (base : Heap) (f : Addr) (cdv : Value) (A : Around) (outer : List Env) (s : Shared) (H : Hp) (E : XK), Bn k (cxOf (L2.CX P w) P w K mg base N "law" (defScope st) f cdv A outer s H E) (fun cls d _ H => E cls d H) →
      PSs (cxOf (L2.CX P w) P w K mg base N "law" (defScope st) f cdv A outer s H E) (defBody st) (lS K (fun cls d _ H => E cls d H) B)) :
    ∃ fd : FuncData, (∀ (s : Shared) (v : Value), BindsTo s fd ⟨[v], []⟩ [("script", v)]) ∧ ∀ base : Heap, FnG P w K mg base (k + 1) fa fd ["script"] (fun vs H Q _ => spL K (dFun 1 n B) vs H Q E0) := by
  obtain ⟨f, fd, F, hm⟩ := g.ex
  have e := hmg.symm.trans hm
  cases e
  refine ⟨fd, fun s v => F.bindsA (ps := ["script"]) b s [v] rfl, fun base => ?_⟩
  have X := fnd_walk (P := P) (w := w) (base := base) (ps := ["script"]) F Sc hn (walk base fa)
  refine ⟨fun vs H Q E h => X.many vs H Q E0 h, fun A outer s H args us vs Q E gd hr e0 hb r sp => codeAny_mono (X.goes A outer s H args us vs Q E0 gd hr e0 hb r sp) fun r s' z => ?_⟩
  cases r with
  | ok fl => cases fl <;> exact z
  | error e =>
    obtain ⟨_, _, _, _, _, _, _, _, _, _, _, _, z⟩ := z
    exact z.elim
end
/-! ### calls of defs -/
def dCall (S : FD) (t : DA) : DE := fun X ev g R => t X ev g fun ds g1 => S ds g1 R X
def dMeth (C : Addr) (m : Str) (S : FD) (o : DE) (t : DA) : DE := fun X ev g R => o X ev g fun d g1 => ∃ p fs, d = .ref p ∧ g1 p = some (.ins C fs) ∧ fs.lookup m = none ∧ t X ev g1 fun ds g2 => S (.ref p :: ds) g2 R X
def dMake (C : Addr) (S : FD) (t : DA) : DE := fun X ev g R => t X ev g fun ds g1 => ∀ p, g1 p = none → S (.ref p :: ds) (ups g1 p (.ins C [])) (fun v g2 => v = .non ∧ R (.ref p) g2) X
section
variable {X : Cx} {W : WX} {K : PySem.W.Frag} {k j : Nat} {x m : Str} {S : FD} {C : Addr} {o e : Expr} {es : List Expr} {Do : DE} {Dt : DA} {p pos apos : Pos}
theorem run_fnX {f : Addr} {fd : FuncData} {ps : List Str} {E : XK} {sp : Sp} {pins : List (Addr × Obj)} {σ : L2.St} {H : Hp} {s : Shared} {Q : VK} {us : List Value} {vs : List V} (F : FnX X.prog X.w X.K X.mg X.base k f fd ps sp) (gd : X.A.guards = some []) (hr : Room k X.A) (hb : Binds X.K fd ps []) (hx : PassesAt (L2.CX X.prog X.w) X σ E)
    (I : Inv X pins σ H s) (r : Vals vs us) (h : sp vs H Q E) : wpAny (model X.prog X.w) X.A (call (.ref f) us) (EP X pins σ Q) X.xe s := by
  have bound := hb s us I.kIn (by rw [List.append_nil, ← r.length]; exact F.many _ _ _ _ h)
  rw [List.append_nil] at bound
  refine wpAny_call (codeAny_mono (F.goes X.A X.stack s H ⟨us, []⟩ us vs Q E gd hr I.env0 bound r h) fun r s' z => ?_)
  match r, z with
  | .error e, z => exact hx pins H s e s' I z
  | .ok (.ret _), z => exact I.after z
  | .ok .next, z => exact False.elim z
  | .ok .brk, z => exact False.elim z
  | .ok .cont, z => exact False.elim z
theorem spL_of {M : List Addr} {ds : List Dv} {g : Ah} {R : DQ} {Y : Xc} {vs : List V} {H : Hp} {Q : VK} {σ : L2.St} (r : RpAll ⟨K, M⟩ g H vs ds) (hr : HR ⟨K, M⟩ g H) (h : S ds g R Y) (q : QL ⟨K, M⟩ g H R Q) (y : XL ⟨K, M⟩ W σ g H Y) : spL K S vs H Q (WE W σ) := ⟨M, ds, g, R, Y, r, hr, h, q, y⟩
theorem de_call (b : Bn j X W) (c : CalD X.prog X.w X.K X.mg X.base k x S) (hk : k ≤ j) (hg : Gl X x) (ha : PA X (e :: es) (lA K W Dt)) (hK : X.K = K := by rfl)
    (hdb : (x == ("__debug__" : Str)) = false := by decide) (he : starEach (e :: es) X.env = (false, eval e X.env) :: starEach es X.env := by rfl) (hpl : (backTo pos (starEach es X.env)).any (·.1) = false := by rfl) :
    PE X (.Call (.Name x p) (e :: es) [] pos) (lE K W (dCall S Dt)) := by
  subst hK
  obtain ⟨f, fd, ps, F, hm, kp, bi⟩ := c.ex
  refine ⟨fun pins s σ H Q I h => ?_⟩
  refine wpAny_Call_Name_kw (ld_glob I hg hm ?_ hdb)
  obtain ⟨M, ev, g, R, Y, cn, d, q, y⟩ := h
  refine PySem.W.callWith_K (h₀ := X.base) I.ok.mod.kin kp (thn (ha.run pos pins s σ H (fun vs H1 => spL X.K S vs H1 Q (WE W σ)) I ⟨M, ev, g, _, Y, cn, d, fun vs ds g1 H1 hr st r k => spL_of r hr k (q.go st) (y.go st), y⟩) fun us s1 ⟨vs, H1, I1, r, q⟩ => ⟨I1.kIn, ?_⟩) he hpl
  exact run_fnX F b.gd (b.hr.mono hk) bi (passAt b.tk σ) I1 r q
theorem de_call0 (b : Bn j X W) (c : CalD X.prog X.w X.K X.mg X.base k x S) (hk : k ≤ j) (hg : Gl X x) (hK : X.K = K := by rfl) (hdb : (x == ("__debug__" : Str)) = false := by decide) :
    PE X (.Call (.Name x p) [] [] pos) (lE K W (dCall S dNil)) := by
  subst hK
  obtain ⟨f, fd, ps, F, hm, kp, bi⟩ := c.ex
  refine ⟨fun pins s σ H Q I h => ?_⟩
  refine wpAny_Call_Name_kw (ld_glob I hg hm ?_ hdb)
  obtain ⟨M, ev, g, R, Y, cn, d, q, y⟩ := h
  exact PySem.W.callWith_K0 I.kIn kp (run_fnX (us := []) (vs := []) F b.gd (b.hr.mono hk) bi (passAt b.tk σ) I .nil (spL_of .nil cn.hr d q y))
theorem de_meth {pl : Sem Bool} (b : Bn j X W) (c : MetD X.prog X.w X.K X.mg X.base k C m S) (hk : k ≤ j) (ho : PE X o (lE K W Do)) (ha : PA X (e :: es) (lA K W Dt)) (hK : X.K = K := by rfl)
    (hst : starEach (e :: es) X.env = (false, eval e X.env) :: starEach es X.env := by rfl) (hpl : (backTo pos (starEach es X.env)).any (·.1) = false := by rfl)
    (ht : eval (.Call (.Attribute o m apos) (e :: es) [] pos) X.env = (do
      let ov ← eval o X.env
      standAt apos.atName
      let (f, first) ← holding [ov] (getMethod ov m pl)
      callWith pos f first (backTo pos (starEach (e :: es) X.env)) (backToKw pos (keywordEach [] X.env))) := by rfl) :
    PE X (.Call (.Attribute o m apos) (e :: es) [] pos) (lE K W (dMeth C m S Do Dt)) := by
  subst hK
  obtain ⟨f, fd, ps, hc, hm, F, bi⟩ := c.ex
  refine ⟨fun pins s σ H Q I h => ?_⟩
  obtain ⟨M, ev, g, R, Y, cn, d, q, y⟩ := h
  refine PySem.W.methodCall_KW (pl := pl) (thn (ho.run pins s σ H (fun x H1 => ∃ a dx fs, x = .ref a ∧ H1 a = some (.ins C dx fs) ∧ fs.lookup m = none ∧ lA X.K W Dt σ H1 fun vs H2 => spL X.K S (x :: vs) H2 Q (WE W σ)) I ⟨M, ev, g, _, Y, cn, d, fun v d g1 H1 hr st r k => ?_, y⟩) fun u s1 ⟨x, H1, I1, rx, a, dx, fs, ex, ea, l, q⟩ => ?_) ht
  · obtain ⟨p, fs, rfl, h1, h2, h3⟩ := k
    cases r
    obtain ⟨dx, vs, h4, h5⟩ := mo_ins hr h1
    exact ⟨p, dx, vs, rfl, h4, h5.look.2 h2, M, ev, g1, _, Y, cn.go hr st, h3, fun vs ds g2 H2 hr2 s2 r2 k2 => spL_of (.cons (.ref p) r2) hr2 k2 (q.go (st.trans s2)) (y.go (st.trans s2)), y.go st⟩
  · subst ex
    obtain rfl : u = Value.ref a := rx
    refine getmeth_ok I1 ea hc hm l ?_
    refine PySem.W.callWith_K (first := [.ref a]) (h₀ := X.base) I.ok.mod.kin hm.kp (thn (ha.run pos pins s1 σ H1 _ I1 q) fun us s2 ⟨vs, H2, I2, r, q2⟩ => ⟨I2.kIn, ?_⟩) hst hpl
    exact run_fnX (us := .ref a :: us) (vs := .ref a :: vs) F b.gd (b.hr.mono hk) bi (passAt b.tk σ) I2 (.cons rfl r) q2
theorem de_meth0 {pl : Sem Bool} (b : Bn j X W) (c : MetD X.prog X.w X.K X.mg X.base k C m S) (hk : k ≤ j) (ho : PE X o (lE K W Do)) (hK : X.K = K := by rfl)
    (ht : eval (.Call (.Attribute o m apos) [] [] pos) X.env = (do
      let ov ← eval o X.env
      standAt apos.atName
      let (f, first) ← holding [ov] (getMethod ov m pl)
      callWith pos f first (backTo pos (starEach [] X.env)) (backToKw pos (keywordEach [] X.env))) := by rfl) :
    PE X (.Call (.Attribute o m apos) [] [] pos) (lE K W (dMeth C m S Do dNil)) := by
  subst hK
  obtain ⟨f, fd, ps, hc, hm, F, bi⟩ := c.ex
  refine ⟨fun pins s σ H Q I h => ?_⟩
  obtain ⟨M, ev, g, R, Y, cn, d, q, y⟩ := h
  refine PySem.W.methodCall_KW (pl := pl) (thn (ho.run pins s σ H (fun x H1 => ∃ a dx fs, x = .ref a ∧ H1 a = some (.ins C dx fs) ∧ fs.lookup m = none ∧ spL X.K S [x] H1 Q (WE W σ)) I ⟨M, ev, g, _, Y, cn, d, fun v d g1 H1 hr st r k => ?_, y⟩) fun u s1 ⟨x, H1, I1, rx, a, dx, fs, ex, ea, l, q⟩ => ?_) ht
  · obtain ⟨p, fs, rfl, h1, h2, h3⟩ := k
    cases r
    obtain ⟨dx, vs, h4, h5⟩ := mo_ins hr h1
    exact ⟨p, dx, vs, rfl, h4, h5.look.2 h2, spL_of (.cons (.ref p) .nil) hr h3 (q.go st) (y.go st)⟩
  · subst ex
    obtain rfl : u = Value.ref a := rx
    refine getmeth_ok I1 ea hc hm l ?_
    exact PySem.W.callWith_K0 (first := [.ref a]) I1.kIn hm.kp (run_fnX (us := [.ref a]) (vs := [.ref a]) F b.gd (b.hr.mono hk) bi (passAt b.tk σ) I1 (.cons rfl .nil) q)
theorem make_guards {A : Around} {C : Addr} {us : List Value} {kw : List (Str × Value)} (h : A.guards = some []) : (A.under (.builtin "type.__call__" ⟨.ref C :: us, kw⟩)).guards = some [] := by
  first | exact h | (simpa [Around.under, Code.weight, Code.isCreation, Code.isGuard, Code.isCaller, Code.frames, Code.isFrame, guardIds] using h)
theorem run_mkX {fn : Addr} {fd : FuncData} {ps : List Str} {EE : XK} {sp : Sp} {pins : List (Addr × Obj)} {σ : L2.St} {H : Hp} {s : Shared} {Q : VK} {us : List Value} {vs : List V} (mk : Mk X.K C fn) (F : FnX X.prog X.w X.K X.mg X.base k fn fd ps sp)
    (gd : X.A.guards = some []) (room : Room (k + 1) X.A) (bi : Binds X.K fd ps []) (px : PassesAt (L2.CX X.prog X.w) X σ EE) (I : Inv X pins σ H s) (rel : Vals vs us)
    (h : ∀ x dx, H x = none → H dx = none → dx ≠ x → sp (.ref x :: vs) (upd (upd H dx (.own x)) x (.ins C dx [])) (fun v H2 => v = .non ∧ Q (.ref x) H2) EE) :
    wpAny (model X.prog X.w) X.A (call (.ref C) us) (EP X pins σ Q) X.xe s := by
  have made := Inv.made (C := C) I
  have q := h (s.heap.objs.size + 1) s.heap.objs.size (I.hok.fresh (Nat.le_succ _)) (I.hok.fresh (Nat.le_refl _)) (Nat.ne_of_lt (Nat.lt_succ_self _))
  have all : Vals (V.ref (s.heap.objs.size + 1) :: vs) (Value.ref (s.heap.objs.size + 1) :: us) := .cons rfl rel
  have len : (Value.ref (s.heap.objs.size + 1) :: us).length = ps.length := by
    have z := F.many _ _ _ _ q
    rw [all.length] at z
    exact z
  have bound := bi { s with heap := (s.heap.push (PySem.W.instObj C s.heap.objs.size)) } (Value.ref (s.heap.objs.size + 1) :: us)
  have body := F.goes _ X.stack _ _ ⟨Value.ref (s.heap.objs.size + 1) :: us, []⟩ (Value.ref (s.heap.objs.size + 1) :: us) _ _ EE (make_guards (C := C) (us := us) (kw := []) gd) (room.make C us []) (made.env0.make C us []) (by
    have z := bi _ (Value.ref (s.heap.objs.size + 1) :: us) made.kIn (by rw [List.append_nil]; exact len)
    rw [List.append_nil] at z
    exact z) all q
  refine wpAny_call (make_map (f := fn) I.kIn mk.makes mk.init (beq_iff_eq.mp mk.fn) (codeAny_mono body fun r s' z => ?_))
  cases r with
  | ok fl =>
    cases fl with
    | ret u =>
      obtain ⟨v, H', I3, rv, rfl, q3⟩ := made.after z
      exact ⟨rv, ⟨V.ref (s.heap.objs.size + 1), H', I3, rfl, q3⟩⟩
    | next => cases z
    | brk => cases z
    | cont => cases z
  | error e => exact px pins _ _ e s' made z
theorem mk_of' {M : List Addr} {ds : List Dv} {g : Ah} {R : DQ} {Y : Xc} {vs : List V} {H : Hp} {Q : VK} {σ : L2.St} (r : RpAll ⟨K, M⟩ g H vs ds) (hr : HR ⟨K, M⟩ g H) (h : ∀ p, g p = none → S (.ref p :: ds) (ups g p (.ins C [])) (fun v g2 => v = .non ∧ R (.ref p) g2) Y)
    (q : QL ⟨K, M⟩ g H R Q) (y : XL ⟨K, M⟩ W σ g H Y) : ∀ x dx, H x = none → H dx = none → dx ≠ x → spL K S (.ref x :: vs) (upd (upd H dx (.own x)) x (.ins C dx [])) (fun v H2 => v = .non ∧ Q (.ref x) H2) (WE W σ) := fun x dx hx hdx hne => by
  have hr1 : HR ⟨K, M⟩ g (upd H dx (.own x)) := hr_new hr hdx
  have s1 : Stp g H g (upd H dx (.own x)) := stp_new hr hdx
  have hx1 : (upd H dx (.own x)) x = none := by rw [upd_ne hne.symm]; exact hx
  have s2 := stp_put (m := .ins C []) (o := .ins C dx []) hr1 (.inl hx1)
  have hr2 := hr_put (m := .ins C []) (o := .ins C dx []) hr1 (.inl hx1) ⟨rfl, .nil⟩
  have st := s1.trans s2
  exact ⟨M, .ref x :: ds, _, _, Y, .cons (.ref x) (r.go st), hr2, h x (hr_off hr hx), fun v d g' H' hr' s r' k => by
    obtain ⟨rfl, k⟩ := k
    cases r'
    exact ⟨rfl, q _ _ _ _ hr' (st.trans s) (.ref x) k⟩, fun z cls d g' H' hr' s xr k => y z cls d g' H' hr' (st.trans s) xr k⟩
theorem de_make (b : Bn j X W) (c : MakD X.prog X.w X.K X.mg X.base k x C S) (hk : k + 1 ≤ j) (hg : Gl X x) (ha : PA X (e :: es) (lA K W Dt)) (hK : X.K = K := by rfl)
    (hdb : (x == ("__debug__" : Str)) = false := by decide) (he : starEach (e :: es) X.env = (false, eval e X.env) :: starEach es X.env := by rfl) (hpl : (backTo pos (starEach es X.env)).any (·.1) = false := by rfl) :
    PE X (.Call (.Name x p) (e :: es) [] pos) (lE K W (dMake C S Dt)) := by
  subst hK
  obtain ⟨f, fd, ps, mk, F, hm, bi⟩ := c.ex
  refine ⟨fun pins s σ H Q I h => ?_⟩
  refine wpAny_Call_Name_kw (ld_glob I hg hm ?_ hdb)
  obtain ⟨M, ev, g, R, Y, cn, d, q, y⟩ := h
  refine PySem.W.callWith_K (h₀ := X.base) I.ok.mod.kin mk.kp (thn (ha.run pos pins s σ H (fun vs H1 => ∀ x dx, H1 x = none → H1 dx = none → dx ≠ x → spL X.K S (.ref x :: vs) (upd (upd H1 dx (.own x)) x (.ins C dx [])) (fun v H2 => v = .non ∧ Q (.ref x) H2) (WE W σ)) I
    ⟨M, ev, g, _, Y, cn, d, fun vs ds g1 H1 hr st r k => mk_of' r hr k (q.go st) (y.go st), y⟩) fun us s1 ⟨vs, H1, I1, r, q⟩ => ⟨I1.kIn, ?_⟩) he hpl
  exact run_mkX mk F b.gd (b.hr.mono hk) bi (passAt b.tk σ) I1 r q
theorem de_make0 (b : Bn j X W) (c : MakD X.prog X.w X.K X.mg X.base k x C S) (hk : k + 1 ≤ j) (hg : Gl X x) (hK : X.K = K := by rfl) (hdb : (x == ("__debug__" : Str)) = false := by decide) :
    PE X (.Call (.Name x p) [] [] pos) (lE K W (dMake C S dNil)) := by
  subst hK
  obtain ⟨f, fd, ps, mk, F, hm, bi⟩ := c.ex
  refine ⟨fun pins s σ H Q I h => ?_⟩
  refine wpAny_Call_Name_kw (ld_glob I hg hm ?_ hdb)
  obtain ⟨M, ev, g, R, Y, cn, d, q, y⟩ := h
  exact PySem.W.callWith_K0 I.kIn mk.kp (run_mkX (us := []) (vs := []) mk F b.gd (b.hr.mono hk) bi (passAt b.tk σ) I .nil (mk_of' .nil cn.hr d q y))
end
/-! ### statements -/
section
variable {K : KM} {g g' : Ah} {H H' : Hp} {M' : List Addr}
mutual
/-- with others hidden -/
theorem Rp.re (h : ∀ a o, g a = none → a ∉ K.M → H a = some o → a ∉ M' ∧ H' a = some o) : ∀ {v : V} {d : Dv}, Rp K g H v d → Rp ⟨K.K, M'⟩ g H' v d
  | _, _, .non => .non
  | _, _, .bl b => .bl b
  | _, _, .int b => .int b
  | _, _, .str b => .str b
  | _, _, .byt b => .byt b
  | _, _, .ty b => .ty b
  | _, _, .ref b => .ref b
  | _, _, .lst n m e r => .lst n (h _ _ n m e).1 (h _ _ n m e).2 (RpAll.re h r)
  | _, _, .tup n m e r => .tup n (h _ _ n m e).1 (h _ _ n m e).2 (RpAll.re h r)
  | _, _, .kl p r => .kl p (RpAll.re h r)
  | _, _, .kt p r => .kt p (RpAll.re h r)
  | _, _, .tq n m e q r => .tq n (h _ _ n m e).1 (h _ _ n m e).2 q (RpAll.re h r)
  | _, _, .fk p r => .fk p (RpAll.re h r)
  | _, _, .fz n m e r => .fz n (h _ _ n m e).1 (h _ _ n m e).2 (RpAll.re h r)
  | _, _, .dct n m e r => .dct n (h _ _ n m e).1 (h _ _ n m e).2 (RpP.re h r)
  | _, _, .dcT n m e r => .dcT n (h _ _ n m e).1 (h _ _ n m e).2 (RpP.re h r)
theorem RpAll.re (h : ∀ a o, g a = none → a ∉ K.M → H a = some o → a ∉ M' ∧ H' a = some o) : ∀ {vs : List V} {ds : List Dv}, RpAll K g H vs ds → RpAll ⟨K.K, M'⟩ g H' vs ds
  | _, _, .nil => .nil
  | _, _, .cons p r => .cons (Rp.re h p) (RpAll.re h r)
theorem RpP.re (h : ∀ a o, g a = none → a ∉ K.M → H a = some o → a ∉ M' ∧ H' a = some o) : ∀ {κ : Type} {vs : List (κ × V)} {ds : List (κ × Dv)}, RpP K g H vs ds → RpP ⟨K.K, M'⟩ g H' vs ds
  | _, _, _, .nil => .nil
  | _, _, _, .cons p r => .cons (Rp.re h p) (RpP.re h r)
end
theorem OkO.re (h : ∀ a o, g a = none → a ∉ K.M → H a = some o → a ∉ M' ∧ H' a = some o) {o : HO} {m : Mo} (k : OkO K g H o m) : OkO ⟨K.K, M'⟩ g H' o m := by
  cases o <;> cases m <;> first | exact k.elim | exact RpAll.re h k | exact RpP.re h k | exact ⟨k.1, RpP.re h k.2⟩
theorem HR.re (r : HR K g H) (h : ∀ a o, g a = none → a ∉ K.M → H a = some o → a ∉ M' ∧ H' a = some o) (h2 : ∀ a, g a ≠ none → H' a = H a) (h3 : ∀ a ∈ M', g a = none ∧ Hid (H' a)) : HR ⟨K.K, M'⟩ g H' :=
  ⟨fun a m q => by
    obtain ⟨o, e, k⟩ := r.1 a m q
    exact ⟨o, by rw [h2 a (mo_ne q)]; exact e, k.re h⟩, h3⟩
end
abbrev Xv := Xd → Ev → Ah → Prop
abbrev DGt := Xv → Dv → Ev → Ah → (Ev → Ah → Prop) → Prop
abbrev DGs := Xv → List Dv → Ev → Ah → (Ev → Ah → Prop) → Prop
def YL (K : KM) (W : WX) (g : Ah) (H : Hp) (Y : Xv) : Prop := ∀ x cls d σ' ev' g' H', Cn K σ' H' ev' g' → Stp g H g' H' → XRel K g' H' x cls d → Y x ev' g' → W cls d σ' H'
theorem YL.go {K : KM} {W : WX} {g g' : Ah} {H H' : Hp} {Y : Xv} (y : YL K W g H Y) (s : Stp g H g' H') : YL K W g' H' Y := fun x c d σ ev g2 H2 cn t => y x c d σ ev g2 H2 cn (s.trans t)
theorem YL.xl {K : KM} {W : WX} {g : Ah} {H : Hp} {Y : Xv} {σ : L2.St} {ev : Ev} (y : YL K W g H Y) (c : Cn K σ H ev g) : XL K W σ g H (fun x g => Y x ev g) := fun x cls d g' H' r s p k => y x cls d σ ev g' H' (c.go r s) s p k
def lG (K : PySem.W.Frag) (W : WX) (G : DGt) : TG := fun v σ H Q => ∃ M d ev g R Y, Cn ⟨K, M⟩ σ H ev g ∧ Rp ⟨K, M⟩ g H v d ∧ G Y d ev g R ∧ (∀ σ' ev' g' H', Cn ⟨K, M⟩ σ' H' ev' g' → Stp g H g' H' → R ev' g' → Q σ' H') ∧ YL ⟨K, M⟩ W g H Y
def lGs (K : PySem.W.Frag) (W : WX) (G : DGs) : TGs := fun vs σ H Q => ∃ M ds ev g R Y, Cn ⟨K, M⟩ σ H ev g ∧ RpAll ⟨K, M⟩ g H vs ds ∧ G Y ds ev g R ∧ (∀ σ' ev' g' H', Cn ⟨K, M⟩ σ' H' ev' g' → Stp g H g' H' → R ev' g' → Q σ' H') ∧ YL ⟨K, M⟩ W g H Y
def gNm (i : Nat) : DGt := fun _ d ev g R => R (ev.set i (some d)) g
def gNi : DGs := fun _ ds ev g R => ds = [] ∧ R ev g
def gCo (a : DGt) (b : DGs) : DGs := fun Y ds ev g R => match ds with
  | d :: ds => a Y d ev g fun ev1 g1 => b Y ds ev1 g1 R
  | [] => False
def gTp (n : Nat) (b : DGs) : DGt := fun Y d ev g R => match vw g d with
  | .tup xs => xs.length = n ∧ b Y xs ev g R
  | _ => False
def putQ (o i v : Dv) (g : Ah) (R : Ah → Prop) : Prop := ∃ a, o = .ref a ∧ match g a with
  | some (.lst xs) => ∃ k j, i = .int k ∧ ixN xs.length k = some j ∧ R (ups g a (.lst (xs.set j v)))
  | some (.dct kvs) => ∃ k, kOf i = some k ∧ kvs.length < sizeLine ∧ R (ups g a (.dct (putD kvs k v)))
  | some (.dcT kvs) => ∃ ks k, i = .tup ks ∧ kOfs ks = some k ∧ kvs.length < sizeLine ∧ R (ups g a (.dcT (putD kvs k v)))
  | _ => False
def gSb (o i : DE) : DGt := fun Y d ev g R => o (fun x g => Y x ev g) ev g fun x g1 => i (fun x g => Y x ev g) ev g1 fun y g2 => putQ x y d g2 fun g3 => R ev g3
def lSet (K : PySem.W.Frag) : TSet := fun o i v H Q => ∃ M d e x g R, HR ⟨K, M⟩ g H ∧ Rp ⟨K, M⟩ g H o d ∧ Rp ⟨K, M⟩ g H i e ∧ Rp ⟨K, M⟩ g H v x ∧ putQ d e x g R ∧ ∀ g' H', HR ⟨K, M⟩ g' H' → Stp g H g' H' → R g' → Q H'
theorem pgm {X : Cx} {e : Expr} {t t' : TG} (h : PG X e t) (k : ∀ v σ H Q, t' v σ H Q → t v σ H Q) : PG X e t' := ⟨fun pins s σ H v u Q I r q => h.run pins s σ H v u Q I r (k _ _ _ _ q)⟩
theorem pgsm {X : Cx} {e : List Expr} {t t' : TGs} (h : PGs X e t) (k : ∀ v σ H Q, t' v σ H Q → t v σ H Q) : PGs X e t' := ⟨fun pins s σ H v u Q I r q => h.run pins s σ H v u Q I r (k _ _ _ _ q)⟩
section
variable {X : Cx} {W : WX} {K : PySem.W.Frag} {e o i : Expr} {es : List Expr} {Do Di : DE} {G : DGt} {Gs : DGs} {pos : Pos}
theorem dg_nm {i : Nat} (h : PG X e (gName i)) : PG X e (lG K W (gNm i)) := pgm h fun v σ H Q ⟨M, d, ev, g, R, Y, c, r, k, q, y⟩ => q _ _ _ _ (c.set r i) .refl k
theorem dgs_nil : PGs X [] (lGs K W gNi) := pgsm pgs_nil fun v σ H Q ⟨M, d, ev, g, R, Y, c, r, k, q, y⟩ => by
  obtain ⟨rfl, k⟩ := k
  exact ⟨rp0 r, q _ _ _ _ c .refl k⟩
theorem dgs_cons (h : PG X e (lG K W G)) (k : PGs X es (lGs K W Gs)) (hs : (assignEach (e :: es) X.env).map (·.2) = assign e X.env :: (assignEach es X.env).map (·.2) := by rfl) : PGs X (e :: es) (lGs K W (gCo G Gs)) :=
  pgsm (pgs_cons h k hs) fun v σ H Q ⟨M, ds, ev, g, R, Y, c, r, k, q, y⟩ => by
    cases r with
    | nil => exact k.elim
    | cons r rr => exact ⟨_, _, rfl, M, _, ev, g, _, Y, c, r, k, fun σ' ev' g' H' c' s k' => ⟨M, _, ev', g', R, Y, c', rr.go s, k', fun σ2 ev2 g2 H2 c2 s2 k2 => q _ _ _ _ c2 (s.trans s2) k2, y.go s⟩, y⟩
theorem dg_tp {n k : Nat} (hc : X.calm = true) (h : PGs X es (lGs K W Gs)) (hn : (assignEach es X.env).length = n := by rfl) (hst : (assignEach es X.env).findIdx? (·.1) = none := by rfl) (hK : X.K = K := by rfl) : PG X (.Tuple es k pos) (lG K W (gTp n Gs)) := by
  subst hK
  exact pgm (pg_tup hc h hn hst) fun v σ H Q ⟨M, d, ev, g, R, Y, c, r, k, q, y⟩ => by
    unfold gTp at k
    split at k
    next xs e1 =>
      obtain ⟨a, vs, rfl, h1, h2⟩ := vw_tup r e1
      exact ⟨a, vs, rfl, h1, by rw [h2.length]; exact k.1, M, xs, ev, g, R, Y, c, h2, k.2, q, y⟩
    next => exact k.elim
theorem set_dict (hu : X.A.units + 1 < cLine) : PSet X (fun o i v H Q => ∃ a H', o = .ref a ∧ DPut H a i v H' ∧ Q H') := by
  intro pins s σ H o i v ov iv u Q I ro ri rv h
  obtain ⟨a, H', rfl, dp, q⟩ := h
  cases ro
  exact d_setItem hu I dp ri rv fun s' I' => ⟨H', I', q⟩
theorem sj_set (hu : X.A.units + 1 < cLine) : PSet X (lSet K) := by
  intro pins s σ H o i v ov iv u Q I ro ri rv h
  obtain ⟨M, d, e, x, g, R, hr, r1, r2, r3, q, k⟩ := h
  obtain ⟨a, rfl, q⟩ := q
  cases r1
  split at q
  next xs e1 =>
    obtain ⟨j, n, rfl, h1, q⟩ := q
    obtain ⟨vs, h2, h3⟩ := mo_lst hr e1
    cases r2
    exact set_list pins s σ H _ _ v ov iv u Q I ro ri rv ⟨a, vs, j, n, rfl, rfl, h2, by rw [h3.length]; exact h1, k _ _ (hr_put hr (.inr (mo_ne e1)) (show OkO _ _ _ (.lst _) (.lst _) from h3.set n r3)) (stp_put hr (.inr (mo_ne e1))) q⟩
  next xs e1 =>
    obtain ⟨j, h1, h2, q⟩ := q
    obtain ⟨vs, h3, h4⟩ := mo_dct hr e1
    obtain rfl := kOf_ok r2 h1
    exact set_dict hu pins s σ H _ _ v ov iv u Q I ro ri rv ⟨a, _, rfl, DPut.k h3 (by rw [h4.length]; exact h2), k _ _ (hr_put hr (.inr (mo_ne e1)) (show OkO _ _ _ (.dK _) (.dct _) from h4.put r3)) (stp_put hr (.inr (mo_ne e1))) q⟩
  next xs e1 =>
    obtain ⟨ks, j, rfl, h1, h2, q⟩ := q
    obtain ⟨vs, h3, h4⟩ := mo_dcT hr e1
    obtain ⟨b, ws, rfl, h5, h6⟩ := rp_tup r2
    obtain rfl := kOfs_ok h6 h1
    exact set_dict hu pins s σ H _ _ v ov iv u Q I ro ri rv ⟨a, _, rfl, DPut.t h3 h5 (by rw [h4.length]; exact h2), k _ _ (hr_put hr (.inr (mo_ne e1)) (show OkO _ _ _ (.dT _) (.dcT _) from h4.put r3)) (stp_put hr (.inr (mo_ne e1))) q⟩
  next => exact q.elim
theorem dg_sb (hs : PSet X (lSet K)) (ho : PE X o (lE K W Do)) (hi : PE X i (lE K W Di)) (ha : ∀ v, assign (.Subscript o i pos) X.env v = (do
      let ov ← holding [v] (eval o X.env)
      let iv ← holding [v, ov] (eval i X.env)
      standAt pos
      holding [v, ov, iv] (setItem ov iv v)
      release [v, ov, iv] []) := by intro _; rfl) : PG X (.Subscript o i pos) (lG K W (gSb Do Di)) :=
  pgm (pg_sub ho hi hs ha) fun v σ H Q ⟨M, d, ev, g, R, Y, c, r, k, q, y⟩ => ⟨M, ev, g, _, _, c, k, fun v1 d1 g1 H1 hr1 s1 r1 k1 => ⟨M, ev, g1, _, _, c.go hr1 s1, k1, fun v2 d2 g2 H2 hr2 s2 r2 k2 =>
    ⟨M, d1, d2, d, g2, _, hr2, r1.go s2, r2, r.go (s1.trans s2), k2, fun g3 H3 hr3 s3 k3 => q _ _ _ _ (c.go hr3 ((s1.trans s2).trans s3)) ((s1.trans s2).trans s3) k3⟩, (y.xl c).go s1⟩, y.xl c⟩
end
/-! statements -/
def sNx : DS := fun P ev g => P.nx ev g
def sSeq (a b : DS) : DS := fun P ev g => a { P with nx := b P } ev g
def sAsg (e : DE) (G : DGt) : DS := fun P ev g => e (fun x g => P.ex x ev g) ev g fun d g1 => G P.ex d ev g1 P.nx
def sDrop (e : DE) : DS := fun P ev g => e (fun x g => P.ex x ev g) ev g fun _ g1 => P.nx ev g1
def sRet (e : DE) : DS := fun P ev g => e (fun x g => P.ex x ev g) ev g P.rt
def sRetN : DS := fun P _ g => P.rt .non g
def sBrk : DS := fun P ev g => P.bk ev g
def sCt : DS := fun P ev g => P.ct ev g
def sIf (t : DTs) (a b : DS) : DS := fun P ev g => t (fun x g => P.ex x ev g) ev g fun k g1 => if k = true then a P ev g1 else b P ev g1
def sWh (t : DTs) (b : DS) : DS := fun P ev g => ∃ I : Nat → Ev → Ah → Prop, (∃ m, I m ev g) ∧ ∀ m ev g, I m ev g →
  t (fun x g => P.ex x ev g) ev g fun k g1 => if k = true then b { P with nx := fun ev g => ∃ m', m' < m ∧ I m' ev g, ct := fun ev g => ∃ m', m' < m ∧ I m' ev g, bk := P.nx } ev g1 else P.nx ev g1
def sAug (i : Nat) (q : DR2) (e : DE) : DS := fun P ev g => gv ev i fun d => e (fun x g => P.ex x ev g) ev g fun y g1 => q d y g1 fun z g2 => P.nx (ev.set i (some z)) g2
/-- what is read ahead of xs[i] op= e -/
def qGet : DR2 := fun d e g R => ∃ a, d = .ref a ∧ qIx d e g R
def sAugS (o i : DE) (q : DR2) (e : DE) : DS := fun P ev g => o (fun x g => P.ex x ev g) ev g fun x g1 => i (fun x g => P.ex x ev g) ev g1 fun y g2 => qGet x y g2 fun v g3 => e (fun x g => P.ex x ev g) ev g3 fun w g4 => q v w g4 fun z g5 => putQ x y z g5 fun g6 => P.nx ev g6
def sFl (P' : Addr → Prop) (o : DE) (e : DE) (f : Str) : DS := fun P ev g => e (fun x g => P.ex x ev g) ev g fun v g1 => o (fun x g => P.ex x ev g) ev g1 fun d g2 => ∃ p C fs, d = .ref p ∧ g2 p = some (.ins C fs) ∧ P' C ∧ fs.length < 1000 ∧ P.nx ev (ups g2 p (.ins C (putFD f v fs)))
def sFlA (P' : Addr → Prop) (o : DE) (q : DR2) (e : DE) (f : Str) : DS := fun P ev g => o (fun x g => P.ex x ev g) ev g fun d g1 => ∃ p C fs v, d = .ref p ∧ g1 p = some (.ins C fs) ∧ P' C ∧ fs.lookup f = some v ∧ e (fun x g => P.ex x ev g) ev g1 fun y g2 => q v y g2 fun z g3 => ∃ fs', g3 p = some (.ins C fs') ∧ fs'.length < 1000 ∧ P.nx ev (ups g3 p (.ins C (putFD f z fs')))
def sRs (C : Addr) : DS := fun P ev g => P.ex ⟨C, []⟩ ev g
section
variable {X : Cx} {W : WX} {K : PySem.W.Frag} {e o i t : Expr} {st : Stmt} {rest a b : List Stmt} {Do Di De' : DE} {Dt : DTs} {A B : DS} {G : DGt} {q : DR2} {pos pos' tpos : Pos}
theorem ds_nil : PSs X [] (lS K W sNx) := pssm pss_nil fun E σ H ⟨M, ev, g, P, c, d, l⟩ => l.nx _ _ _ _ c .refl d
theorem ds_cons (h : PS X st (lS K W A)) (k : PSs X rest (lS K W B)) : PSs X (st :: rest) (lS K W (sSeq A B)) :=
  pssm (pss_cons h k) fun E σ H ⟨M, ev, g, P, c, d, l⟩ => ⟨M, ev, g, _, c, d, ⟨fun σ' ev' g' H' cn s k => ⟨M, ev', g', P, cn, k, l.go s⟩, l.rt, l.bk, l.ct, l.ex⟩⟩
theorem ds_one (h : PS X st (lS K W A)) : PSs X [st] (lS K W A) := pss_one h
theorem ds_pass : PS X (.Pass pos) (lS K W sNx) := psm ps_pass fun E σ H ⟨M, ev, g, P, c, d, l⟩ => l.nx _ _ _ _ c .refl d
theorem ds_brk : PS X (.Break pos) (lS K W sBrk) := psm ps_break fun E σ H ⟨M, ev, g, P, c, d, l⟩ => l.bk _ _ _ _ c .refl d
theorem ds_ct : PS X (.Continue pos) (lS K W sCt) := psm ps_continue fun E σ H ⟨M, ev, g, P, c, d, l⟩ => l.ct _ _ _ _ c .refl d
theorem ds_retN : PS X (.Return none pos) (lS K W sRetN) := psm ps_retN fun E σ H ⟨M, ev, g, P, c, d, l⟩ => l.rt _ _ _ _ c.hr .refl .non d
theorem ds_ret (h : PE X e (lE K W De')) : PS X (.Return (some e) pos) (lS K W (sRet De')) := psm (ps_ret h) fun E σ H ⟨M, ev, g, P, c, d, l⟩ => ⟨M, ev, g, _, _, c, d, l.rt, l.xl c⟩
theorem ds_drop (h : PE X e (lE K W De')) (hs : swapsWith e none pos.line X.env = pure false := by rfl) : PS X (.Expr e pos) (lS K W (sDrop De')) :=
  psm (ps_expr h hs) fun E σ H ⟨M, ev, g, P, c, d, l⟩ => ⟨M, ev, g, _, _, c, d, fun v d g' H' hr s r k => l.nx _ _ _ _ (c.go hr s) s k, l.xl c⟩
theorem asg_ok {E : Ends} {σ : L2.St} {H : Hp} (h : lS K W (sAsg De' G) E σ H) : tAsg (lE K W De') (lG K W G) E σ H := by
  obtain ⟨M, ev, g, P, c, d, l⟩ := h
  exact ⟨M, ev, g, _, _, c, d, fun v d g' H' hr s r k => ⟨M, d, ev, g', _, _, c.go hr s, r, k, fun σ2 ev2 g2 H2 c2 s2 k2 => l.nx _ _ _ _ c2 (s.trans s2) k2, fun x cls d σ' ev' g2 H2 cn t => l.ex x cls d σ' ev' g2 H2 cn (s.trans t)⟩, l.xl c⟩
theorem ds_asg {tg : Expr} (he : PE X e (lE K W De')) (hg : PG X tg (lG K W G)) (hs : swapsWithSole [tg] e pos.line X.env = pure false := by rfl) (hw : swappedStores [tg] e X.env = pure none := by rfl)
    (h1 : (assignEach [tg] X.env).map (·.2) = [assign tg X.env] := by rfl) : PS X (.Assign [tg] e pos) (lS K W (sAsg De' G)) := psm (ps_asg he hg hs hw h1) fun E σ H h => asg_ok h
theorem ds_set {i : Nat} {x : Str} (hN : X.N.Nodup) (hi : X.N[i]? = some x) (hx : Loc X.env.scope x) (he : PE X e (lE K W De')) (hs : swapsWith e (some (.Name x pos')) pos.line X.env = pure false := by rfl) (hf : X.fn x = true ∨ X.env.scope.names.lookup x = some .local := by first | exact .inl rfl | exact .inr rfl | assumption) :
    PS X (.Assign [.Name x pos'] e pos) (lS K W (sAsg De' (gNm i))) := psm (ps_set hN hi hx he hs hf) fun E σ H ⟨M, ev, g, P, c, d, l⟩ => ⟨M, ev, g, _, _, c, d, fun v d g' H' hr s r k => l.nx _ _ _ _ ((c.go hr s).set r i) s k, l.xl c⟩
theorem ds_if {c : Expr} (hc : PT X c (lT K W Dt)) (ha : PSs X a (lS K W A)) (hb : PSs X b (lS K W B)) : PS X (.If c a b pos) (lS K W (sIf Dt A B)) :=
  psm (ps_if hc ha hb) fun E σ H ⟨M, ev, g, P, c, d, l⟩ => ⟨M, ev, g, _, _, c, d, fun k g' H' hr s z => by
    cases k with
    | true => rw [if_pos rfl] at z ⊢; exact ⟨M, ev, g', P, c.go hr s, z, l.go s⟩
    | false => rw [if_neg (by decide)] at z ⊢; exact ⟨M, ev, g', P, c.go hr s, z, l.go s⟩, l.xl c⟩
theorem ds_wh {c : Expr} (hp : PassesOwn (model X.prog X.w) X.A X.env X.xe) (hc : PT X c (lT K W Dt)) (hb : PSs X b (lS K W B)) : PS X (.While c b [] pos) (lS K W (sWh Dt B)) :=
  psm (ps_while hp hc hb) fun E σ H ⟨M, ev, g, P, c, d, l⟩ => by
    obtain ⟨I, ⟨m, i0⟩, turn⟩ := d
    refine ⟨fun m σ' H' => ∃ ev' g', Cn ⟨K, M⟩ σ' H' ev' g' ∧ Stp g H g' H' ∧ I m ev' g', ⟨m, ev, g, c, .refl, i0⟩, fun m σ1 H1 h => ?_⟩
    obtain ⟨ev1, g1, c1, s1, i1⟩ := h
    refine ⟨M, ev1, g1, _, _, c1, turn m ev1 g1 i1, fun k g2 H2 hr s2 z => ?_, (l.go s1).xl c1⟩
    cases k with
    | true =>
      rw [if_pos rfl] at z ⊢
      refine ⟨fun σ' H' => ∃ ev' g', Cn ⟨K, M⟩ σ' H' ev' g' ∧ Stp g H g' H' ∧ ∃ m', m' < m ∧ I m' ev' g', fun σ' H' ⟨ev', g', c', s', m', h1, h2⟩ => ⟨m', h1, ev', g', c', s', h2⟩, M, ev1, g2, _, c1.go hr s2, z, ?_⟩
      have s12 := s1.trans s2
      exact ⟨fun σ' ev' g' H' cn s k => ⟨ev', g', cn, s12.trans s, k⟩, l.rt.go s12, fun σ' ev' g' H' cn s k => l.nx _ _ _ _ cn (s12.trans s) k, fun σ' ev' g' H' cn s k => ⟨ev', g', cn, s12.trans s, k⟩, fun x cls d σ' ev' g' H' cn s => l.ex x cls d σ' ev' g' H' cn (s12.trans s)⟩
    | false =>
      rw [if_neg (by decide)] at z ⊢
      exact l.nx _ _ _ _ (c1.go hr s2) (s1.trans s2) z
theorem ds_aug {i : Nat} {x : Str} {op : Operator} (hN : X.N.Nodup) (hi : X.N[i]? = some x) (hx : Loc X.env.scope x) (ho : OpR X (inplaceOp op) (lR K q)) (he : PE X e (lE K W De')) (hf : X.fn x = true ∨ X.env.scope.names.lookup x = some .local := by first | exact .inl rfl | exact .inr rfl | assumption) :
    PS X (.AugAssign (.Name x pos') op e pos) (lS K W (sAug i q De')) :=
  psm (ps_aug (ti := lR K q) hN hi hx he ho hf) fun E σ H ⟨M, ev, g, P, c, d, l⟩ => by
    obtain ⟨d0, e0, d⟩ := gv_ok d
    obtain ⟨v0, h1, h2⟩ := c.vars _ _ e0
    exact ⟨v0, h1, M, ev, g, _, _, c, d, fun v d g' H' hr s r k => ⟨M, d0, d, g', _, hr, h2.go s, r, k, fun v3 d3 g3 H3 hr3 s3 r3 k3 => l.nx _ _ _ _ ((c.go hr3 (s.trans s3)).set r3 i) (s.trans s3) k3⟩, l.xl c⟩
theorem get_dict (hu : X.A.units + 1 < cLine) : PGet X (fun x y H Q => ∃ a v, x = .ref a ∧ DGet H a y (some v) ∧ Q v H) := by
  intro pins s σ H x y v u Q I rx ry h
  obtain ⟨a, z, rfl, gt, q⟩ := h
  cases rx
  exact d_getItem hu I gt ry fun w' s' I' rw' => ⟨z, H, I', rw', q⟩
theorem gj_get (hu : X.A.units + 1 < cLine) (hK : X.K = K := by rfl) : PGet X (lR K qGet) := by
  subst hK
  intro pins s σ H x y v u Q I rx ry h
  obtain ⟨M, d, e, g, R, hr, r1, r2, ⟨a, rfl, q⟩, k⟩ := h
  cases r1
  unfold qIx at q
  split at q
  next xs e1 =>
    obtain ⟨b, vs, eb, h1, h2⟩ := vw_lst (.ref a) hr e1
    split at q
    next i =>
      obtain ⟨z, e2, q⟩ := got_ok q
      obtain ⟨v', e3, e4⟩ := rpAll_at h2 e2
      cases r2
      exact get_list pins s σ H _ _ v u Q I rx ry ⟨b, vs, i, v', eb, rfl, h1, e3, ql_now hr k e4 q⟩
    next => exact q.elim
  next xs e1 =>
    rcases vw_at g a with ⟨_, _, z⟩ | ⟨_, _, z⟩ | ⟨_, _, z⟩ | z <;> (rw [z] at e1; cases e1)
  next z e1 =>
    rcases vw_at g a with ⟨_, _, z⟩ | ⟨_, _, z⟩ | ⟨_, _, z⟩ | z <;> (rw [z] at e1; cases e1)
  next kvs e1 =>
    obtain ⟨z, e2, q⟩ := got_ok q
    obtain ⟨j, e3, e4⟩ := bind_some e2
    obtain ⟨b, vs, eb, h1, h2⟩ := vw_dct (.ref a) hr e1
    obtain rfl := kOf_ok r2 e3
    obtain ⟨v', e5, e6⟩ := (h2.val (k := j)).1 z e4
    exact get_dict hu pins s σ H _ _ v u Q I rx ry ⟨b, v', eb, by rw [← e5]; exact DGet.k h1, ql_now hr k e6 q⟩
  next kvs e1 =>
    split at q
    next ks =>
      obtain ⟨z, e2, q⟩ := got_ok q
      obtain ⟨j, e3, e4⟩ := bind_some e2
      obtain ⟨b, vs, eb, h1, h2⟩ := vw_dcT (.ref a) hr e1
      obtain ⟨c, ws, rfl, h3, h4⟩ := rp_tup r2
      obtain rfl := kOfs_ok h4 e3
      obtain ⟨v', e5, e6⟩ := (h2.val (k := j)).1 z e4
      exact get_dict hu pins s σ H _ _ v u Q I rx ry ⟨b, v', eb, by rw [← e5]; exact DGet.t h1 h3, ql_now hr k e6 q⟩
    next => exact q.elim
  next b e1 =>
    split at q
    next o us kvs ea =>
      obtain ⟨_, e9⟩ := vw_ref (K := ⟨X.K, M⟩) (H := H) (.ref a) e1
      cases e9
      obtain ⟨h1, h2⟩ := mo_lck hr ea
      obtain ⟨z, e2, q⟩ := got_ok q
      obtain ⟨j, e3, e4⟩ := bind_some e2
      obtain rfl := kOf_ok r2 e3
      obtain ⟨v', e5, e6⟩ := (h2.val (k := j)).1 z e4
      exact get_dict hu pins s σ H _ _ v u Q I rx ry ⟨a, v', rfl, .inl ⟨us, j, .inr ⟨o, h1⟩, rfl, e5.symm⟩, ql_now hr k e6 q⟩
    next o us kvs ea =>
      split at q
      next ks =>
        obtain ⟨_, e9⟩ := vw_ref (K := ⟨X.K, M⟩) (H := H) (.ref a) e1
        cases e9
        obtain ⟨h1, h2⟩ := mo_lckT hr ea
        obtain ⟨z, e2, q⟩ := got_ok q
        obtain ⟨j, e3, e4⟩ := bind_some e2
        obtain ⟨c, ws, rfl, h3, h4⟩ := rp_tup r2
        obtain rfl := kOfs_ok h4 e3
        obtain ⟨v', e5, e6⟩ := (h2.val (k := j)).1 z e4
        exact get_dict hu pins s σ H _ _ v u Q I rx ry ⟨a, v', rfl, .inr ⟨us, j, c, .inr ⟨o, h1⟩, rfl, h3, e5.symm⟩, ql_now hr k e6 q⟩
      next => exact q.elim
    next => exact q.elim
  next => exact q.elim
theorem ds_augS {op : Operator} (hu : X.A.units + 1 < cLine) (ho : PE X o (lE K W Do)) (hi : PE X i (lE K W Di)) (hq : OpR X (inplaceOp op) (lR K q)) (he : PE X e (lE K W De')) (hK : X.K = K := by rfl)
    (ha : ∀ ov iv new, augStore i ov iv new = (do holding [new, ov, iv] (setItem ov iv new); release [new, ov, iv] []; pure .next) := by intros; rfl) : PS X (.AugAssign (.Subscript o i tpos) op e pos) (lS K W (sAugS Do Di q De')) :=
  psm (ps_augS (tip := lR K q) ho hi (gj_get hu hK) he hq (sj_set (K := K) hu) ha) fun E σ H ⟨M, ev, g, P, c, d, l⟩ => ⟨M, ev, g, _, _, c, d, fun v1 d1 g1 H1 hr1 s1 r1 k1 => ⟨M, ev, g1, _, _, c.go hr1 s1, k1, fun v2 d2 g2 H2 hr2 s2 r2 k2 =>
    ⟨M, d1, d2, g2, _, hr2, r1.go s2, r2, k2, fun v3 d3 g3 H3 hr3 s3 r3 k3 => ⟨M, ev, g3, _, _, c.go hr3 ((s1.trans s2).trans s3), k3, fun v4 d4 g4 H4 hr4 s4 r4 k4 => ⟨M, d3, d4, g4, _, hr4, r3.go s4, r4, k4, fun v5 d5 g5 H5 hr5 s5 r5 k5 =>
      ⟨M, d1, d2, d5, g5, _, hr5, r1.go (((s2.trans s3).trans s4).trans s5), r2.go ((s3.trans s4).trans s5), r5, k5, fun g6 H6 hr6 s6 k6 => l.nx _ _ _ _ (c.go hr6 (((((s1.trans s2).trans s3).trans s4).trans s5).trans s6)) (((((s1.trans s2).trans s3).trans s4).trans s5).trans s6) k6⟩⟩,
        (l.go ((s1.trans s2).trans s3)).xl (c.go hr3 ((s1.trans s2).trans s3))⟩⟩, (l.go s1).xl (c.go hr1 s1)⟩, l.xl c⟩
theorem ds_fl {P' : Addr → Prop} {f : Str} (hP : ∀ C, P' C → Cls K C ∧ NoAttr K C f) (ho : PE X o (lE K W Do)) (he : PE X e (lE K W De')) (hs : swapsWith e (some (.Attribute o f pos')) pos.line X.env = pure false := by rfl) (hK : X.K = K := by rfl) : PS X (.Assign [.Attribute o f pos'] e pos) (lS K W (sFl P' Do De' f)) := by
  subst hK
  exact psm (ps_fld ho he hs) fun E σ H ⟨M, ev, g, P, c, d, l⟩ => ⟨M, ev, g, _, _, c, d, fun v1 d1 g1 H1 hr1 s1 r1 k1 => ⟨M, ev, g1, _, _, c.go hr1 s1, k1, fun v2 d2 g2 H2 hr2 s2 r2 k2 => by
    obtain ⟨p, C, fs, rfl, h1, h2, h3, k⟩ := k2
    cases r2
    obtain ⟨dx, vs, h4, h5⟩ := mo_ins hr2 h1
    exact ⟨p, C, dx, vs, rfl, h4, (hP C h2).1, (hP C h2).2, by rw [h5.length]; exact h3, l.nx _ _ _ _ (c.go (hr_put (m := .ins C _) (o := .ins C dx _) hr2 (.inr (mo_ne h1)) ⟨rfl, h5.putF (r1.go s2)⟩) ((s1.trans s2).trans (stp_put hr2 (.inr (mo_ne h1))))) ((s1.trans s2).trans (stp_put hr2 (.inr (mo_ne h1)))) k⟩,
      (l.go s1).xl (c.go hr1 s1)⟩, l.xl c⟩
theorem ds_fla {P' : Addr → Prop} {f : Str} {op : Operator} (hP : ∀ C, P' C → Cls K C ∧ NoAttr K C f) (ho : PE X o (lE K W Do)) (hq : OpR X (inplaceOp op) (lR K q)) (he : PE X e (lE K W De')) (hK : X.K = K := by rfl) : PS X (.AugAssign (.Attribute o f tpos) op e pos) (lS K W (sFlA P' Do q De' f)) := by
  subst hK
  exact psm (ps_fldaug (rd := lR X.K q) ho he hq) fun E σ H ⟨M, ev, g, P, c, d, l⟩ => ⟨M, ev, g, _, _, c, d, fun v1 d1 g1 H1 hr1 s1 r1 k1 => by
    obtain ⟨p, C, fs, z, rfl, h1, h2, h3, k⟩ := k1
    cases r1
    obtain ⟨dx, vs, h4, h5⟩ := mo_ins hr1 h1
    obtain ⟨w, h6, h7⟩ := h5.look.1 z h3
    refine ⟨p, C, dx, vs, w, rfl, h4, (hP C h2).1, (hP C h2).2, h6, M, ev, g1, _, _, c.go hr1 s1, k, fun v2 d2 g2 H2 hr2 s2 r2 k2 => ⟨M, z, d2, g2, _, hr2, h7.go s2, r2, k2, fun v3 d3 g3 H3 hr3 s3 r3 k3 => ?_⟩, (l.go s1).xl (c.go hr1 s1)⟩
    obtain ⟨fs', h8, h9, k⟩ := k3
    obtain ⟨dx', vs', h10, h11⟩ := mo_ins hr3 h8
    have s4 := ((s1.trans s2).trans s3).trans (stp_put (m := .ins C (putFD f d3 fs')) (o := .ins C dx' (L2.putF f v3 vs')) hr3 (.inr (mo_ne h8)))
    exact ⟨dx', vs', h10, by rw [h11.length]; exact h9, l.nx _ _ _ _ (c.go (hr_put (m := .ins C _) (o := .ins C dx' _) hr3 (.inr (mo_ne h8)) ⟨rfl, h11.putF r3⟩) s4) s4 k⟩, l.xl c⟩
theorem ds_rs {x m : Str} {j : Nat} {p p2 : Pos} {C : Addr} (hc : X.calm = true) (tk : Takes X W) (g : X.mg x = some (.ref C))
    (h : PySem.W.excIn X.K C He.veBase "ValueError.__new__" = true ∧ PySem.W.keepIn X.K (.ref C) = true ∧ PySem.W.subIn X.K (.ref C) (.type "BaseException") = some true ∧ PySem.W.typeIn X.K (.ref C) = some (.type "type"))
    (hg : Gl X x) (hdb : (x == ("__debug__" : Str)) = false := by decide) : PS X (.Raise (some (.Call (.Name x p) [.Constant (.str m) j p2] [] pos')) none pos) (lS K W (sRs C)) :=
  psm (ps_rz hc tk g h hg hdb) fun E σ H ⟨M, ev, g, P, c, d, l⟩ => l.ex _ _ _ _ _ _ _ c .refl ⟨rfl, .inl ⟨rfl, rfl⟩⟩ d
end
/-! in place -/
def qIAdd : DR2 := fun d e g R => match d, e with
  | .int i, .int j => R (.int (i + j)) g
  | .str x, .str y => x.length + y.length ≤ sizeLine ∧ R (.str (x ++ y)) g
  | .ref a, _ => (∃ xs ys, g a = some (.lst xs) ∧ vl g e = .lst ys ∧ xs.length + ys.length ≤ sizeLine ∧ R (.ref a) (ups g a (.lst (xs ++ ys))))
  | _, _ => False
section
variable {X : Cx} (K : PySem.W.Frag)
theorem oj_iadd : OpR X (inplaceOp .Add) (lR K qIAdd) := opm (iop_add.or (iop_add_str.or iop_ext)) fun x y H Q ⟨M, d, e, g, R, hr, rx, ry, q, k⟩ => by
  unfold qIAdd at q
  split at q
  next i j => cases rx; cases ry; exact .inl ⟨i, j, rfl, rfl, ql_now hr k (.int _) q⟩
  next i j => cases rx; cases ry; exact .inr (.inl ⟨i, j, rfl, rfl, q.1, ql_now hr k (.str _) q.2⟩)
  next a =>
    obtain ⟨xs, ys, h1, h2, h3, q⟩ := q
    cases rx
    obtain ⟨vs, h4, h5⟩ := mo_lst hr h1
    obtain ⟨b, ws, rfl, h6, h7⟩ := vl_lst ry hr h2
    exact .inr (.inr ⟨a, b, vs, ws, rfl, rfl, h4, h6, by rw [h5.length, h7.length]; exact h3, lst_putL hr (mo_ne h1) (h5.append h7) k (.ref a) q⟩)
  next => exact q.elim
theorem oj_isub : OpR X (inplaceOp .Sub) (lR K (qI0 fun i j => .int (i - j))) := oj_i0 K iop_sub
theorem oj_imul : OpR X (inplaceOp .Mult) (lR K (qI CMul fun i j => .int (i * j))) := oj_i K iop_mul
theorem oj_ifdiv : OpR X (inplaceOp .FloorDiv) (lR K (qI CDiv fun i j => .int (i / j))) := oj_i K iop_fdiv
theorem oj_imod : OpR X (inplaceOp .Mod) (lR K (qI (fun _ j => 0 < j) fun i j => .int (i % j))) := oj_i K iop_mod
theorem oj_ixor : OpR X (inplaceOp .BitXor) (lR K (qI0 fun i j => .int (Builtin.bitXor i j))) := oj_i0 K iop_xor
end
/-! ### what loops walk -/
def ItR (K : KM) (g : Ah) (H : Hp) (J : It) (xs : List Dv) (inv : Ah → Prop) : Prop := ∀ M' g' H', (∀ a ∈ K.M, a ∈ M') → (∀ a ∈ M', a ∈ K.M ∨ H a = none) → HR ⟨K.K, M'⟩ g' H' → Stp g H g' H' → inv g' →
  (∀ (i : Nat) d, xs[i]? = some d → J.go i H' ∧ ∀ v H'', J.yld i H' v H'' → HR ⟨K.K, M'⟩ g' H'' ∧ Stp g' H' g' H'' ∧ Rp ⟨K.K, M'⟩ g' H'' v d) ∧ J.stop xs.length H'
def lI (K : PySem.W.Frag) (W : WX) (D : DI) : TI := fun σ H R => ∃ M ev g Rd Y, Cn ⟨K, M⟩ σ H ev g ∧ D Y ev g Rd ∧ (∀ J xs inv g' H', HR ⟨K, M⟩ g' H' → Stp g H g' H' → ItR ⟨K, M⟩ g' H' J xs inv → Rd xs inv g' → R J H') ∧ XL ⟨K, M⟩ W σ g H Y
def yes : Ah → Prop := fun _ => True
def invOf (g : Ah) (d : Dv) : Ah → Prop := match d with
  | .ref a => fun g' => g' a = g a
  | _ => yes
def diSeq (a : DE) : DI := fun X ev g R => a X ev g fun d g1 => match vw g1 d with
  | .lst xs => R xs (invOf g1 d) g1
  | .tup xs => R xs yes g1
  | _ => False
/-- lo, lo + 1, .. -/
def rngD (lo : Int) : Nat → List Dv
  | 0 => []
  | n + 1 => .int lo :: rngD (lo + 1) n
theorem rngD_len (lo : Int) (n : Nat) : (rngD lo n).length = n := by
  induction n generalizing lo with
  | zero => rfl
  | succ n ih => show (rngD (lo + 1) n).length + 1 = _; rw [ih]
theorem rngD_get (lo : Int) (n i : Nat) : (rngD lo n)[i]? = if i < n then some (.int (lo + i)) else none := by
  induction n generalizing lo i with
  | zero => rfl
  | succ n ih =>
    cases i with
    | zero => simp [rngD]
    | succ i =>
      show (rngD (lo + 1) n)[i]? = _
      rw [ih]
      by_cases h : i < n
      · rw [if_pos h, if_pos (by omega)]
        congr 2
        omega
      · rw [if_neg h, if_neg (by omega)]
theorem rngD_map (lo : Int) (n : Nat) : rngD lo n = (List.range n).map fun i : Nat => Dv.int (lo + (i : Int)) := by
  apply List.ext_getElem?
  intro i
  rw [rngD_get, List.getElem?_map]
  by_cases h : i < n
  · rw [if_pos h, List.getElem?_range h]; rfl
  · rw [if_neg h, List.getElem?_eq_none (by simpa using h)]; rfl
def diR1 (t : DA) : DI := fun X ev g R => t X ev g fun ds g1 => match ds with
  | [.int j] => -(2 ^ 62) ≤ j ∧ j < 2 ^ 62 ∧ R (rngD 0 j.toNat) yes g1
  | _ => False
def diR2 (t : DA) : DI := fun X ev g R => t X ev g fun ds g1 => match ds with
  | [.int i, .int j] => (-(2 ^ 62) ≤ i ∧ i < 2 ^ 62 ∧ -(2 ^ 62) ≤ j ∧ j < 2 ^ 62) ∧ R (rngD i (j - i).toNat) yes g1
  | _ => False
def diR3 (t : DA) : DI := fun X ev g R => t X ev g fun ds g1 => match ds with
  | [.int i, .int j, .int c] => ∃ n, RgC i j c n ∧ R ((List.range n).map fun k : Nat => Dv.int (i + (k : Nat) * c)) yes g1
  | _ => False
def enumD (n : Nat) : List Dv → List Dv
  | [] => []
  | d :: ds => .tup [.int (n : Nat), d] :: enumD (n + 1) ds
theorem enumD_len (n : Nat) (ds : List Dv) : (enumD n ds).length = ds.length := by
  induction ds generalizing n with
  | nil => rfl
  | cons d ds ih => show (enumD (n + 1) ds).length + 1 = _; rw [ih]; rfl
theorem enumD_get (n : Nat) (ds : List Dv) (i : Nat) : (enumD n ds)[i]? = (ds[i]?).map fun d => .tup [.int ((n + i : Nat) : Int), d] := by
  induction ds generalizing n i with
  | nil => rfl
  | cons d ds ih =>
    cases i with
    | zero => rfl
    | succ i =>
      show (enumD (n + 1) ds)[i]? = _
      rw [ih, show n + 1 + i = n + (i + 1) by omega]
      rfl
def diEnum (a : DA) : DI := fun X ev g R => a X ev g fun ds g1 => match ds with
  | [d] => (match vw g1 d with
    | .lst xs => R (enumD 0 xs) (invOf g1 d) g1
    | _ => False)
  | _ => False
def zipD : List Dv → List Dv → List Dv
  | x :: xs, y :: ys => .tup [x, y] :: zipD xs ys
  | _, _ => []
theorem zipD_eq (xs ys : List Dv) : zipD xs ys = List.zipWith (fun x y => .tup [x, y]) xs ys := by
  induction xs generalizing ys with
  | nil => cases ys <;> rfl
  | cons x xs ih =>
    cases ys with
    | nil => rfl
    | cons y ys => show _ :: zipD xs ys = _; rw [ih]; rfl
def diZip (a : DA) : DI := fun X ev g R => a X ev g fun ds g1 => match ds with
  | [d, e] => (match vw g1 d, vw g1 e with
    | .lst xs, .lst ys => R (zipD xs ys) (fun g' => invOf g1 d g' ∧ invOf g1 e g') g1
    | .tup xs, .tup ys => R (zipD xs ys) yes g1
    | _, _ => False)
  | _ => False
def diStr (a : DE) : DI := fun X ev g R => a X ev g fun d g1 => match d with
  | .str x => R (x.cps.toList.map fun c => .str ⟨#[c]⟩) yes g1
  | _ => False
def diRev (a : DA) : DI := fun X ev g R => a X ev g fun ds g1 => match ds with
  | [d] => (match vw g1 d with
    | .lst xs => R xs.reverse (invOf g1 d) g1
    | _ => False)
  | _ => False
section
variable {K : KM} {g g' : Ah} {H H' : Hp} {M' : List Addr} {d : Dv} {xs : List Dv} {v : V}
theorem re_of (h1 : ∀ a ∈ M', a ∈ K.M ∨ H a = none) (s : Stp g H g' H') : ∀ a o, g a = none → a ∉ K.M → H a = some o → a ∉ M' ∧ H a = some o := fun a o h k e => ⟨fun z => (h1 a z).elim k fun z => (nomatch z.symm.trans e), e⟩
theorem RpAll.away {vs : List V} {xs : List Dv} (r : RpAll K g H vs xs) (h1 : ∀ a ∈ M', a ∈ K.M ∨ H a = none) (s : Stp g H g' H') : RpAll ⟨K.K, M'⟩ g' H' vs xs := RpAll.go s (r.re (re_of h1 s))
theorem Rp.away {v : V} {d : Dv} (r : Rp K g H v d) (h1 : ∀ a ∈ M', a ∈ K.M ∨ H a = none) (s : Stp g H g' H') : Rp ⟨K.K, M'⟩ g' H' v d := Rp.go s (r.re (re_of h1 s))
theorem hr_less (h : ∀ a ∈ K.M, a ∈ M') (r : HR ⟨K.K, M'⟩ g H) : HR K g H := by
  have := r.re (M' := K.M) (H' := H) (fun a o _ k e => ⟨fun z => k (h a z), e⟩) (fun _ _ => rfl) fun a z => r.2 a (h a z)
  exact this
/-- a list that is walked, seen later -/
theorem seq_later (r : Rp K g H v d) (hr : HR K g H) (e : vw g d = .lst xs) : ∃ a vs, v = .ref a ∧ SqL K.K H a vs ∧ RpAll K g H vs xs ∧ ∀ M' g' H', (∀ a ∈ K.M, a ∈ M') → (∀ a ∈ M', a ∈ K.M ∨ H a = none) → HR ⟨K.K, M'⟩ g' H' → Stp g H g' H' → invOf g d g' → ∃ vs', SqL K.K H' a vs' ∧ RpAll ⟨K.K, M'⟩ g' H' vs' xs := by
  cases r with
  | ref a =>
    rcases vw_at g a with ⟨ys, e1, q⟩ | ⟨_, _, q⟩ | ⟨_, _, q⟩ | q <;> rw [q] at e <;> cases e
    obtain ⟨vs, h1, h2⟩ := mo_lst hr e1
    refine ⟨a, vs, rfl, SqL.of h1, h2, fun M' g' H' _ _ hr' s i => ?_⟩
    obtain ⟨vs', h3, h4⟩ := mo_lst hr' ((show g' a = g a from i).trans e1)
    exact ⟨vs', SqL.of h3, h4⟩
  | lst h1 h2 h3 r =>
    cases e
    refine ⟨_, _, rfl, SqL.of h3, r, fun M' g' H' _ k hr' s _ => ⟨_, SqL.of (s.keep _ _ h1 h3).1, r.away k s⟩⟩
  | kl h r =>
    cases e
    exact ⟨_, _, rfl, h.sq H, r, fun M' g' H' _ k hr' s _ => ⟨_, h.sq H', r.away k s⟩⟩
  | fz h1 h2 h3 r =>
    cases e
    exact ⟨_, _, rfl, .inl (.inr ⟨_, h3⟩), r, fun M' g' H' _ k hr' s _ => ⟨_, .inl (.inr ⟨_, (s.keep _ _ h1 h3).1⟩), r.away k s⟩⟩
  | fk h r =>
    cases e
    exact ⟨_, _, rfl, .inr h, r, fun M' g' H' _ k hr' s _ => ⟨_, .inr h, r.away k s⟩⟩
  | _ => cases e
theorem seqT_later (r : Rp K g H v d) (e : vw g d = .tup xs) : ∃ a vs, v = .ref a ∧ SqT K.K H a vs ∧ RpAll K g H vs xs ∧ ∀ M' g' H', (∀ a ∈ M', a ∈ K.M ∨ H a = none) → Stp g H g' H' → SqT K.K H' a vs ∧ RpAll ⟨K.K, M'⟩ g' H' vs xs := by
  cases r with
  | ref a => rcases vw_at g a with ⟨_, _, q⟩ | ⟨_, _, q⟩ | ⟨_, _, q⟩ | q <;> (rw [q] at e; cases e)
  | tup h1 h2 h3 r =>
    cases e
    exact ⟨_, _, rfl, SqT.of h3, r, fun M' g' H' k s => ⟨SqT.of (s.keep _ _ h1 h3).1, r.away k s⟩⟩
  | kt h r =>
    cases e
    exact ⟨_, _, rfl, .inr h, r, fun M' g' H' k s => ⟨.inr h, r.away k s⟩⟩
  | tq h1 h2 h3 _ r =>
    cases e
    exact ⟨_, _, rfl, .inl (.inr ⟨_, h3⟩), r, fun M' g' H' k s => ⟨.inl (.inr ⟨_, (s.keep _ _ h1 h3).1⟩), r.away k s⟩⟩
  | _ => cases e
end
/-! the walks -/
def iSeq (K : PySem.W.Frag) (tl : TE) : TI := fun σ H R => tl σ H fun x H1 => ∃ a, x = .ref a ∧ (((∃ xs, SqL K H1 a xs) ∧ R (Itl K a) H1) ∨ ((∃ xs, SqT K H1 a xs) ∧ R (Itt K a) H1))
theorem pi_seq {X : Cx} {tg l : Expr} {tl : TE} (hl : PE X l tl) : PI X tg l (iSeq X.K tl) := by
  refine ⟨fun pins s σ H R I h => ?_⟩
  refine thn (hl.run pins s σ H _ I h) fun v s1 ⟨x, H1, I1, r1, q1⟩ => ?_
  obtain ⟨a, e, q⟩ := q1
  subst e
  cases r1
  rcases q with ⟨⟨xs, hq⟩, q⟩ | ⟨⟨xs, hq⟩, q⟩
  · obtain ⟨its, rv, p, hz⟩ := I1.list hq
    refine wpAny_pyIter_list p.isList ?_
    refine ⟨s1.heap.objs.size, [s1.heap.objs.size], _, _, H1, rfl, I1.kept (t' := s1.toks) fun b o e => Heap.get?_push_of_some _ e, turn_list a _, ⟨_, Heap.get?_push_size _ rfl, rfl, rfl⟩, fun b hb => ?_, q⟩
    have e : b = s1.heap.objs.size := by simpa using hb
    subst e
    exact I1.fpOk (Nat.le_refl _) (I1.hok.fresh (Nat.le_refl _))
  · obtain ⟨its, rv, p, hz⟩ := I1.tuple hq
    refine wpAny_pyIter_tuple (show s1.heap.IsTuple a its.toArray from p) ?_
    refine ⟨s1.heap.objs.size, [s1.heap.objs.size], _, _, H1, rfl, I1.kept (t' := s1.toks) fun b o e => Heap.get?_push_of_some _ e, turn_tuple a _, ⟨_, Heap.get?_push_size _ rfl, rfl, rfl⟩, fun b hb => ?_, q⟩
    have e : b = s1.heap.objs.size := by simpa using hb
    subst e
    exact I1.fpOk (Nat.le_refl _) (I1.hok.fresh (Nat.le_refl _))
theorem pim {X : Cx} {tg e : Expr} {t t' : TI} (h : PI X tg e t) (k : ∀ σ H R, t' σ H R → t σ H R) : PI X tg e t' := ⟨fun pins s σ H R I q => h.run pins s σ H R I (k _ _ _ q)⟩
section
variable {X : Cx} {W : WX} {K : PySem.W.Frag} {tg e e2 : Expr} {Da : DE} {Dt : DA} {pos p : Pos}
theorem di_seq (h : PE X e (lE K W Da)) (hK : X.K = K := by rfl) : PI X tg e (lI K W (diSeq Da)) := by
  subst hK
  exact pim (pi_seq h) fun σ H R ⟨M, ev, g, Rd, Y, c, d, q, x⟩ => ⟨M, ev, g, _, Y, c, d, fun v d g1 H1 hr s r k => by
    (try dsimp only at k)
    split at k
    next xs e1 =>
      obtain ⟨a, vs, rfl, h1, h2, h3⟩ := seq_later r hr e1
      refine ⟨a, rfl, .inl ⟨⟨vs, h1⟩, q _ _ _ _ _ hr s (fun M' g' H' m1 m2 hr' s' i => ?_) k⟩⟩
      obtain ⟨vs', h4, h5⟩ := h3 M' g' H' m1 m2 hr' s' i
      refine ⟨fun i d hd => ?_, ⟨vs', h4, by rw [h5.length]; exact Nat.le_refl _⟩⟩
      obtain ⟨u, h6, h7⟩ := h5.get hd
      refine ⟨⟨vs', u, h4, h6⟩, fun v H'' ⟨e, y⟩ => ?_⟩
      subst e
      have := y vs' h4
      rw [h6] at this
      cases this
      exact ⟨hr', .refl, h7⟩
    next xs e1 =>
      obtain ⟨a, vs, rfl, h1, h2, h3⟩ := seqT_later r e1
      refine ⟨a, rfl, .inr ⟨⟨vs, h1⟩, q _ _ _ _ _ hr s (fun M' g' H' m1 m2 hr' s' i => ?_) k⟩⟩
      obtain ⟨h4, h5⟩ := h3 M' g' H' m2 s'
      refine ⟨fun i d hd => ?_, ⟨vs, h4, by rw [h5.length]; exact Nat.le_refl _⟩⟩
      obtain ⟨u, h6, h7⟩ := h5.get hd
      refine ⟨⟨vs, u, h4, h6⟩, fun v H'' ⟨e, y⟩ => ?_⟩
      subst e
      have := y vs h4
      rw [h6] at this
      cases this
      exact ⟨hr', .refl, h7⟩
    next => exact k.elim, x⟩
theorem rng_it {K : KM} {g : Ah} {H : Hp} (lo : Int) (n : Nat) : ItR K g H (Itr lo n) (rngD lo n) yes := fun M' g' H' _ _ hr s _ => by
  refine ⟨fun i d hd => ?_, by rw [rngD_len]; exact Nat.le_refl n⟩
  rw [rngD_get] at hd
  split at hd
  next h =>
    cases hd
    exact ⟨h, fun v H'' ⟨e, y⟩ => by subst e y; exact ⟨hr, .refl, .int _⟩⟩
  next => cases hd
theorem di_r1 {a : Expr} (hg : Gl X "range") (hm : X.mg "range" = none) (ha : PA X [a] (lA K W Dt)) (hs : starEach [a] X.env = [(false, eval a X.env)] := by rfl) : PI X tg (.Call (.Name "range" p) [a] [] pos) (lI K W (diR1 Dt)) :=
  pim (pi_range1 hg hm ha hs) fun σ H R ⟨M, ev, g, Rd, Y, c, d, q, x⟩ => ⟨M, ev, g, _, Y, c, d, fun vs ds g1 H1 hr s r k => by
    (try dsimp only at k)
    split at k
    next j =>
      obtain ⟨v, rfl, r0⟩ := rp1 r
      clear r
      have r := r0
      clear r0
      cases r
      exact ⟨j, rfl, k.1, k.2.1, q _ _ _ _ _ hr s (rng_it 0 _) k.2.2⟩
    next => exact k.elim, x⟩
theorem di_r2 {a b : Expr} (hg : Gl X "range") (hm : X.mg "range" = none) (ha : PA X [a, b] (lA K W Dt)) (hs : starEach [a, b] X.env = [(false, eval a X.env), (false, eval b X.env)] := by rfl) (hs2 : starEach [b] X.env = [(false, eval b X.env)] := by rfl) : PI X tg (.Call (.Name "range" p) [a, b] [] pos) (lI K W (diR2 Dt)) :=
  pim (pi_range2 hg hm ha hs hs2) fun σ H R ⟨M, ev, g, Rd, Y, c, d, q, x⟩ => ⟨M, ev, g, _, Y, c, d, fun vs ds g1 H1 hr s r k => by
    (try dsimp only at k)
    split at k
    next i j =>
      obtain ⟨v, u, rfl, r0, r2⟩ := rp2 r
      clear r
      have r := r0
      clear r0
      cases r
      cases r2
      exact ⟨i, j, rfl, k.1, q _ _ _ _ _ hr s (rng_it i _) k.2⟩
    next => exact k.elim, x⟩
theorem di_r3 {a b c' : Expr} (hg : Gl X "range") (hm : X.mg "range" = none) (ha : PA X [a, b, c'] (lA K W Dt)) (hs : starEach [a, b, c'] X.env = (false, eval a X.env) :: starEach [b, c'] X.env := by rfl) (hpl : (backTo pos (starEach [b, c'] X.env)).any (·.1) = false := by rfl) :
    PI X tg (.Call (.Name "range" p) [a, b, c'] [] pos) (lI K W (diR3 Dt)) :=
  pim (pi_range3 hg hm ha hs hpl) fun σ H R ⟨M, ev, g, Rd, Y, c, d, q, x⟩ => ⟨M, ev, g, _, Y, c, d, fun vs ds g1 H1 hr s r k => by
    (try dsimp only at k)
    split at k
    next i j l =>
      obtain ⟨n, h1, k⟩ := k
      cases r with
      | cons r1 r =>
        obtain ⟨v, u, rfl, r2, r3⟩ := rp2 r
        cases r1
        cases r2
        cases r3
        refine ⟨i, j, l, n, rfl, h1, q _ _ _ _ _ hr s (fun M' g' H' _ _ hr' s' _ => ⟨fun t d hd => ?_, ?_⟩) k⟩
        · rw [List.getElem?_map] at hd
          cases e : (List.range n)[t]? with
          | none => rw [e] at hd; cases hd
          | some z =>
            rw [e] at hd
            cases hd
            have hz : t < n ∧ z = t := by
              rw [List.getElem?_eq_some_iff] at e
              obtain ⟨h, e⟩ := e
              simp at h e
              exact ⟨h, e.symm⟩
            obtain ⟨h, rfl⟩ := hz
            exact ⟨h, fun v H'' ⟨e, y⟩ => by subst e y; exact ⟨hr', .refl, .int _⟩⟩
        · rw [List.length_map, List.length_range]; exact Nat.le_refl n
    next => exact k.elim, x⟩
theorem di_str (h : PE X e (lE K W Da)) : PI X tg e (lI K W (diStr Da)) :=
  pim (pi_str h) fun σ H R ⟨M, ev, g, Rd, Y, c, d, q, x⟩ => ⟨M, ev, g, _, Y, c, d, fun v d g1 H1 hr s r k => by
    (try dsimp only at k)
    split at k
    next z =>
      cases r
      refine ⟨z, rfl, q _ _ _ _ _ hr s (fun M' g' H' _ _ hr' s' _ => ⟨fun i d hd => ?_, ?_⟩) k⟩
      · rw [List.getElem?_map, Array.getElem?_toList] at hd
        obtain ⟨c, e1, rfl⟩ := map_some hd
        refine ⟨(Array.getElem?_eq_some_iff.mp e1).1, fun v H'' ⟨e, c', e2, y⟩ => ?_⟩
        subst e y
        rw [e1] at e2
        cases e2
        exact ⟨hr', .refl, .str _⟩
      · rw [List.length_map, Array.length_toList]; exact Nat.le_refl z.cps.size
    next => exact k.elim, x⟩
theorem tup2 {K : KM} {g : Ah} {H : Hp} {T : Addr} {u w : V} {a b : Dv} (hr : HR K g H) (hT : H T = none) (r1 : Rp K g H u a) (r2 : Rp K g H w b) : HR K g (upd H T (.tup [u, w])) ∧ Stp g H g (upd H T (.tup [u, w])) ∧ Rp K g (upd H T (.tup [u, w])) (.ref T) (.tup [a, b]) :=
  ⟨hr_new hr hT, stp_new hr hT, .tup (hr_off hr hT) (hr_free hr hT) upd_same (RpAll.go (stp_new hr hT) (.cons r1 (.cons r2 .nil)))⟩
theorem di_enum {elts : List Expr} {kk : Nat} {tpos : Pos} (hg : Gl X "enumerate") (hm : X.mg "enumerate" = none) (ha : PA X [e] (lA K W Dt)) (hs : starEach [e] X.env = [(false, eval e X.env)] := by rfl) (hK : X.K = K := by rfl) :
    PI X (.Tuple elts kk tpos) (.Call (.Name "enumerate" p) [e] [] pos) (lI K W (diEnum Dt)) := by
  subst hK
  exact pim (pi_enum hg hm ha hs) fun σ H R ⟨M, ev, g, Rd, Y, c, d, q, x⟩ => ⟨M, ev, g, _, Y, c, d, fun vs ds g1 H1 hr s r k => by
    (try dsimp only at k)
    split at k
    next d =>
      obtain ⟨v, rfl, r0⟩ := rp1 r
      clear r
      have r := r0
      clear r0
      split at k
      next xs e1 =>
        obtain ⟨a, vs, rfl, h1, h2, h3⟩ := seq_later r hr e1
        refine ⟨a, vs, rfl, h1, q _ _ _ _ _ hr s (fun M' g' H' m1 m2 hr' s' i => ?_) k⟩
        obtain ⟨vs', h4, h5⟩ := h3 M' g' H' m1 m2 hr' s' i
        refine ⟨fun i d hd => ?_, ⟨vs', h4, by rw [h5.length, enumD_len]; exact Nat.le_refl _⟩⟩
        rw [enumD_get] at hd
        obtain ⟨z, e2, rfl⟩ := map_some hd
        obtain ⟨u, h6, h7⟩ := h5.get e2
        refine ⟨⟨vs', u, h4, h6⟩, fun v H'' ⟨T, w, ev, hT, eH, y⟩ => ?_⟩
        subst ev eH
        have := y vs' h4
        rw [h6] at this
        cases this
        rw [Nat.zero_add]
        exact tup2 hr' hT (.int _) h7
      next => exact k.elim
    next => exact k.elim, x⟩
theorem zipD_get (xs ys : List Dv) (i : Nat) {d : Dv} (h : (zipD xs ys)[i]? = some d) : ∃ a b, xs[i]? = some a ∧ ys[i]? = some b ∧ d = .tup [a, b] := by
  rw [zipD_eq, List.getElem?_zipWith] at h
  cases e1 : xs[i]? with
  | none => rw [e1] at h; cases h
  | some a =>
    cases e2 : ys[i]? with
    | none => rw [e1, e2] at h; cases h
    | some b => rw [e1, e2] at h; cases h; exact ⟨a, b, rfl, rfl, rfl⟩
theorem zipD_len (xs ys : List Dv) : (zipD xs ys).length = min xs.length ys.length := by rw [zipD_eq, List.length_zipWith]
theorem di_zip {elts : List Expr} {kk : Nat} {tpos : Pos} (hg : Gl X "zip") (hm : X.mg "zip" = none) (ha : PA X [e, e2] (lA K W Dt)) (hs : starEach [e, e2] X.env = (false, eval e X.env) :: starEach [e2] X.env := by rfl) (hpl : (backTo pos (starEach [e2] X.env)).any (·.1) = false := by rfl) (hK : X.K = K := by rfl) :
    PI X (.Tuple elts kk tpos) (.Call (.Name "zip" p) [e, e2] [] pos) (lI K W (diZip Dt)) := by
  subst hK
  exact pim (RZ.pi_zipA hg hm ha hs hpl) fun σ H R ⟨M, ev, g, Rd, Y, c, d, q, x⟩ => ⟨M, ev, g, _, Y, c, d, fun vs ds g1 H1 hr s r k => by
    (try dsimp only at k)
    split at k
    next d d2 =>
      obtain ⟨v, u, rfl, ra, rb⟩ := rp2 r
      split at k
      next xs ys e1 e2 =>
        obtain ⟨a, vs, rfl, h1, h2, h3⟩ := seq_later ra hr e1
        obtain ⟨b, ws, rfl, k1, k2, k3⟩ := seq_later rb hr e2
        refine ⟨a, b, vs, ws, rfl, .inl ⟨h1, k1, q _ _ _ _ _ hr s (fun M' g' H' m1 m2 hr' s' i => ?_) k⟩⟩
        obtain ⟨vs', h4, h5⟩ := h3 M' g' H' m1 m2 hr' s' i.1
        obtain ⟨ws', k4, k5⟩ := k3 M' g' H' m1 m2 hr' s' i.2
        refine ⟨fun i d hd => ?_, ⟨vs', ws', h4, k4, by rw [h5.length, k5.length, zipD_len]; omega⟩⟩
        obtain ⟨z1, z2, e3, e4, rfl⟩ := zipD_get _ _ _ hd
        obtain ⟨u1, h6, h7⟩ := h5.get e3
        obtain ⟨u2, k6, k7⟩ := k5.get e4
        refine ⟨⟨vs', ws', u1, u2, h4, k4, h6, k6⟩, fun v H'' ⟨T, w1, w2, ev, hT, eH, y1, y2⟩ => ?_⟩
        subst ev eH
        have z := y1 vs' h4
        rw [h6] at z
        cases z
        have z := y2 ws' k4
        rw [k6] at z
        cases z
        exact tup2 hr' hT h7 k7
      next xs ys e1 e2 =>
        obtain ⟨a, vs, rfl, h1, h2, h3⟩ := seqT_later ra e1
        obtain ⟨b, ws, rfl, k1, k2, k3⟩ := seqT_later rb e2
        refine ⟨a, b, vs, ws, rfl, .inr ⟨h1, k1, q _ _ _ _ _ hr s (fun M' g' H' m1 m2 hr' s' i => ?_) k⟩⟩
        obtain ⟨h4, h5⟩ := h3 M' g' H' m2 s'
        obtain ⟨k4, k5⟩ := k3 M' g' H' m2 s'
        refine ⟨fun i d hd => ?_, ⟨vs, ws, h4, k4, by rw [h5.length, k5.length, zipD_len]; omega⟩⟩
        obtain ⟨z1, z2, e3, e4, rfl⟩ := zipD_get _ _ _ hd
        obtain ⟨u1, h6, h7⟩ := h5.get e3
        obtain ⟨u2, k6, k7⟩ := k5.get e4
        refine ⟨⟨vs, ws, u1, u2, h4, k4, h6, k6⟩, fun v H'' ⟨T, w1, w2, ev, hT, eH, y1, y2⟩ => ?_⟩
        subst ev eH
        have z := y1 vs h4
        rw [h6] at z
        cases z
        have z := y2 ws k4
        rw [k6] at z
        cases z
        exact tup2 hr' hT h7 k7
      next => exact k.elim
    next => exact k.elim, x⟩
theorem di_rev (hg : Gl X "reversed") (hm : X.mg "reversed" = none) (ha : PA X [e] (lA K W Dt)) (hs : starEach [e] X.env = [(false, eval e X.env)] := by rfl) (hK : X.K = K := by rfl) : PI X tg (.Call (.Name "reversed" p) [e] [] pos) (lI K W (diRev Dt)) := by
  subst hK
  exact pim (pi_reversed hg hm ha hs) fun σ H R ⟨M, ev, g, Rd, Y, c, d, q, x⟩ => ⟨M, ev, g, _, Y, c, d, fun vs ds g1 H1 hr s r k => by
    (try dsimp only at k)
    split at k
    next d =>
      obtain ⟨v, rfl, r0⟩ := rp1 r
      clear r
      have r := r0
      clear r0
      split at k
      next xs e1 =>
        obtain ⟨a, vs, rfl, h1, h2, h3⟩ := seq_later r hr e1
        refine ⟨a, vs, rfl, h1, q _ _ _ _ _ hr s (fun M' g' H' m1 m2 hr' s' i => ?_) k⟩
        obtain ⟨vs', h4, h5⟩ := h3 M' g' H' m1 m2 hr' s' i
        have hl : vs.length = xs.length := h2.length
        refine ⟨fun i d hd => ?_, by show vs.length ≤ _; rw [List.length_reverse, hl]; exact Nat.le_refl _⟩
        have hi : i < xs.length := by
          have := (List.getElem?_eq_some_iff.mp hd).1
          simpa using this
        rw [List.getElem?_reverse hi] at hd
        obtain ⟨u, h6, h7⟩ := h5.get hd
        refine ⟨⟨by rw [hl]; exact hi, vs', u, h4, by rw [hl]; exact h6⟩, fun v H'' ⟨e, y⟩ => ?_⟩
        subst e
        have := y vs' h4
        rw [hl, h6] at this
        cases this
        exact ⟨hr', .refl, h7⟩
      next => exact k.elim
    next => exact k.elim, x⟩
end
/-! ### for -/
def dLoop (G : Dv → Ev → Ah → (Ev → Ah → Prop) → Prop) (B : DS) (P : De) (inv : Ah → Prop) : List Dv → Ev → Ah → Prop
  | [], ev, g => inv g ∧ P.nx ev g
  | x :: xs, ev, g => inv g ∧ G x ev g fun ev1 g1 => B { P with nx := dLoop G B P inv xs, ct := dLoop G B P inv xs, bk := P.nx } ev1 g1
def sFor (it : DI) (G : DGt) (B : DS) : DS := fun P ev g => it (fun x g => P.ex x ev g) ev g fun xs inv g1 => dLoop (G P.ex) B P inv xs ev g1
section
variable {X : Cx} {W : WX} {K : PySem.W.Frag} {tg iter : Expr} {body : List Stmt} {di : DI} {G : DGt} {B : DS} {pos : Pos}
theorem dLoop_inv {G : Dv → Ev → Ah → (Ev → Ah → Prop) → Prop} {B : DS} {P : De} {inv : Ah → Prop} {xs : List Dv} {ev : Ev} {g : Ah} (h : dLoop G B P inv xs ev g) : inv g := by
  cases xs <;> exact h.1
theorem ds_for (hp : PassesOwn (model X.prog X.w) X.A X.env X.xe) (hc : X.calm = true) (hi : PI X tg iter (lI K W di)) (hg : PG X tg (lG K W G)) (hb : PSs X body (lS K W B)) (hs : ∀ x, foldedSetIterable iter X.env x = pure x := by intro _; rfl) : PS X (.For tg iter body [] pos) (lS K W (sFor di G B)) :=
  psm (ps_for hp hc hi hg hb hs) fun E σ H ⟨M, ev, g, P, c, d, l⟩ => ⟨M, ev, g, _, _, c, d, fun J xs inv g1 H1 hr s it k => by
    refine ⟨fun i m σ' H' => m = xs.length - i ∧ i ≤ xs.length ∧ ∃ ev' g', Cn ⟨K, M⟩ σ' H' ev' g' ∧ Stp g1 H1 g' H' ∧ dLoop (G P.ex) B P inv (xs.drop i) ev' g', ⟨xs.length, by simp, Nat.zero_le _, ev, g1, c.go hr s, .refl, k⟩, ?_⟩
    rintro i m σ1 H2 ⟨rfl, hle, ev1, g2, c1, s1, k1⟩
    have ok := it M g2 H2 (fun _ h => h) (fun _ h => .inl h) c1.hr s1 (dLoop_inv k1)
    by_cases hi : i < xs.length
    · have hx : xs[i]? = some xs[i] := List.getElem?_eq_getElem hi
      obtain ⟨go, yl⟩ := ok.1 i _ hx
      rw [List.drop_eq_getElem_cons hi] at k1
      refine .inr ⟨go, fun σ' H' => ∃ ev' g', Cn ⟨K, M⟩ σ' H' ev' g' ∧ Stp g1 H1 g' H' ∧ dLoop (G P.ex) B P inv (xs.drop (i + 1)) ev' g', fun σ' H' ⟨ev', g', c', s', k'⟩ => ⟨xs.length - (i + 1), by omega, rfl, hi, ev', g', c', s', k'⟩, fun v H3 y => ?_⟩
      obtain ⟨hr3, s3, r3⟩ := yl v H3 y
      have s13 := s1.trans s3
      have l3 := l.go (s.trans s13)
      refine ⟨M, xs[i], ev1, g2, _, P.ex, c1.go hr3 s3, r3, k1.2, fun σ4 ev4 g4 H4 c4 s4 k4 => ?_, fun x cls d σ' ev' g' H' cn t => l3.ex x cls d σ' ev' g' H' cn t⟩
      have l4 := l3.go s4
      have s14 := s13.trans s4
      exact ⟨M, ev4, g4, _, c4, k4, ⟨fun σ' ev' g' H' cn t z => ⟨ev', g', cn, s14.trans t, z⟩, l4.rt, fun σ' ev' g' H' cn t z => l4.nx _ _ _ _ cn t z, fun σ' ev' g' H' cn t z => ⟨ev', g', cn, s14.trans t, z⟩, l4.ex⟩⟩
    · have e : i = xs.length := by omega
      subst e
      rw [List.drop_length] at k1
      exact .inl ⟨ok.2, l.nx _ _ _ _ c1 (s.trans s1) k1.2⟩, l.xl c⟩
end
/-! ### comprehensions -/
def Y0 : Xc := fun _ _ => False
abbrev DTn := Dv → Ev → (Ev → Prop) → Prop
def tN (j : Nat) : DTn := fun d ev k => k (ev.set j (some d))
def setAll : Ev → List Nat → List Dv → Ev
  | ev, j :: js, d :: ds => setAll (ev.set j (some d)) js ds
  | ev, _, _ => ev
def tT (js : List Nat) : DTn := fun d ev k => match d with
  | .tup ds => ds.length = js.length ∧ k (setAll ev js ds)
  | .kt ds => ds.length = js.length ∧ k (setAll ev js ds)
  | .tq ds => ds.length = js.length ∧ k (setAll ev js ds)
  | _ => False
def dCo (T : DTn) (t : DTs) (e : DE) (inv : Ah → Prop) : List Dv → List Dv → Ev → Ah → (List Dv → Ah → Prop) → Prop
  | [], acc, _, g, k => inv g ∧ k acc g
  | x :: xs, acc, ev, g, k => inv g ∧ T x ev fun ev1 => t Y0 ev1 g fun b g1 => if b = true then e Y0 ev1 g1 fun d g2 => acc.length < sizeLine ∧ dCo T t e inv xs (acc ++ [d]) ev g2 k else dCo T t e inv xs acc ev g1 k
def dtYes : DTs := fun _ _ g R => R true g
def dLc (n : Nw) (vs : List Nat) (it : DI) (T : DTn) (t : DTs) (e : DE) : DE := fun X ev g R => it X ev g fun xs inv g1 => dCo T t e inv xs [] (wipeE ev vs) g1 fun ds g2 => n ds g2 R
/-- a target of names -/
def LT (K : PySem.W.Frag) (gt : TG) (T : DTn) (vs : List Nat) : Prop := ∀ M g H v d ev σ (k : Ev → Prop) (Q : L2.St → Hp → Prop), Cn ⟨K, M⟩ σ H ev g → Rp ⟨K, M⟩ g H v d → T d ev k → (∀ σ' ev', Cn ⟨K, M⟩ σ' H ev' g → wipe σ' vs = wipe σ vs → k ev' → Q σ' H) → gt v σ H Q
theorem wipe_get (σ : L2.St) : ∀ (vs : List Nat) (i : Nat), (wipe σ vs)[i]? = if i ∈ vs then (if i < σ.length then some none else none) else σ[i]?
  | [], i => by simp [wipe]
  | v :: vs, i => by
    show ((wipe σ vs).set v none)[i]? = _
    by_cases e : v = i
    · subst e
      by_cases h : v < σ.length
      · rw [List.getElem?_set_self (by rw [wipe_length]; exact h)]; simp [h]
      · rw [List.getElem?_eq_none (by rw [List.length_set, wipe_length]; omega)]; simp [h]
    · rw [List.getElem?_set_ne e, wipe_get σ vs i]
      have e' : i ≠ v := fun z => e z.symm
      simp [e']
theorem wipe_set {σ : L2.St} {vs : List Nat} {j : Nat} (h : j ∈ vs) (x : Option V) : wipe (σ.set j x) vs = wipe σ vs := by
  apply List.ext_getElem?
  intro i
  rw [wipe_get, wipe_get, List.length_set]
  by_cases e : i ∈ vs
  · rw [if_pos e, if_pos e]
  · rw [if_neg e, if_neg e, List.getElem?_set_ne (by rintro rfl; exact e h)]
theorem lt_n {K : PySem.W.Frag} {j : Nat} {vs : List Nat} (h : j ∈ vs := by simp) : LT K (gName j) (tN j) vs := fun M g H v d ev σ k Q c r t q => q _ _ (c.set r j) (wipe_set h _) t
def gNs : List Nat → TGs
  | [] => gNil
  | j :: js => gCons (gName j) (gNs js)
theorem gNs_ok {K : KM} {g : Ah} {H : Hp} {vs : List Nat} {k : Ev → Prop} {Q : L2.St → Hp → Prop} : ∀ {js : List Nat} {us : List V} {ds : List Dv} {σ : L2.St} {ev : Ev}, (∀ j ∈ js, j ∈ vs) → RpAll K g H us ds → ds.length = js.length → Cn K σ H ev g → k (setAll ev js ds) → (∀ σ' ev', Cn K σ' H ev' g → wipe σ' vs = wipe σ vs → k ev' → Q σ' H) → gNs js us σ H Q
  | [], _, _, σ, ev, _, .nil, _, c, t, q => ⟨rfl, q _ _ c rfl t⟩
  | j :: js, _, _, σ, ev, h, .cons r rr, hl, c, t, q => ⟨_, _, rfl, gNs_ok (fun i hi => h i (List.mem_cons_of_mem _ hi)) rr (Nat.succ.inj hl) (c.set r j) t fun σ' ev' c' w k' => q _ _ c' (by rw [w, wipe_set (h j (List.mem_cons_self ..))]) k'⟩
theorem lt_t {K : PySem.W.Frag} {js vs : List Nat} (h : ∀ j ∈ js, j ∈ vs := by simp) : LT K (gTup K js.length (gNs js)) (tT js) vs := fun M g H v d ev σ k Q c r t q => by
  unfold tT at t
  split at t
  next ds =>
    obtain ⟨a, us, rfl, h1, h2⟩ := rp_tup r
    exact ⟨a, us, rfl, SqT.of h1, by rw [h2.length]; exact t.1, gNs_ok h h2 t.1 c t.2 q⟩
  next ds =>
    cases r with
    | kt p r => exact ⟨_, _, rfl, .inr p, by rw [r.length]; exact t.1, gNs_ok h r t.1 c t.2 q⟩
  next ds =>
    cases r with
    | tq h1 h2 h3 _ r => exact ⟨_, _, rfl, .inl (.inr ⟨_, h3⟩), by rw [r.length]; exact t.1, gNs_ok h r t.1 c t.2 q⟩
  next => exact t.elim
theorem Cn.away {K : PySem.W.Frag} {M M' : List Addr} {σ : L2.St} {H H' : Hp} {ev : Ev} {g g' : Ah} (c : Cn ⟨K, M⟩ σ H ev g) (h1 : ∀ a ∈ M', a ∈ M ∨ H a = none) (s : Stp g H g' H') (hr : HR ⟨K, M'⟩ g' H') : Cn ⟨K, M'⟩ σ H' ev g' := ⟨c.len, fun i d e => by
  obtain ⟨v, h2, h3⟩ := c.vars i d e
  exact ⟨v, h2, h3.away (K := ⟨K, M⟩) h1 s⟩, hr⟩
theorem stp_hid {g g' : Ah} {H1 H : Hp} {D : Addr} {o : HO} (s : Stp g H1 g' H) (h : H1 D = none) : Stp g H1 g' (upd H D o) := ⟨fun b u k e => by
  obtain ⟨h1, h2⟩ := s.keep b u k e
  exact ⟨by rw [upd_ne (ne_of_none e h)]; exact h1, h2⟩, fun b k => there_upd b (s.there b k)⟩
section
variable {X : Cx} {W : WX} {K : PySem.W.Frag} {elt tg iter : Expr} {ifs : List Expr} {scope : Scope} {own : List (Str × Nat)} {pos : Pos} {di : DI} {gt : TG} {T : DTn} {Dt : DTs} {De' : DE} {n : Nw}
theorem co_inv {inv : Ah → Prop} {xs acc : List Dv} {ev : Ev} {g : Ah} {k : List Dv → Ah → Prop} (h : dCo T Dt De' inv xs acc ev g k) : inv g := by
  cases xs <;> exact h.1
theorem lc_ok {vs : List Nat} (hn : NwOk n) (lt : LT K gt T vs) {σ : L2.St} {H : Hp} {Q : VK} (h : lE K W (dLc n vs di T Dt De') σ H Q) : tLc (lI K W di) gt (lT K W0 Dt) (lE K W0 De') vs σ H Q := by
  obtain ⟨M, ev, g, R, Y, c, d, q, x⟩ := h
  refine ⟨M, ev, g, _, Y, c, d, fun J xs inv g1 H1 hr s it k => ?_, x⟩
  intro D hD
  have hHD : H D = none := by
    cases e : H D with
    | none => rfl
    | some o => exact absurd hD (s.there D (by rw [e]; exact fun z => nomatch z))
  have hsub : ∀ a ∈ D :: M, a ∈ M ∨ H a = none := fun a ha => (List.mem_cons.mp ha).elim (fun e => .inr (e ▸ hHD)) .inl
  have hsub1 : ∀ a ∈ D :: M, a ∈ M ∨ H1 a = none := fun a ha => (List.mem_cons.mp ha).elim (fun e => .inr (e ▸ hD)) .inl
  have hne : ∀ a, a ∉ D :: M → a ≠ D := fun a h e => h (by rw [e]; exact List.mem_cons_self ..)
  let PW : Nat → Hp → Prop := fun i H' => ∃ g' acc us, HR ⟨K, D :: M⟩ g' H' ∧ Stp g1 H1 g' H' ∧ H' D = some (.lst us) ∧ RpAll ⟨K, D :: M⟩ g' H' us acc ∧ dCo T Dt De' inv (xs.drop i) acc (wipeE ev vs) g' fun ds g2 => n ds g2 R
  refine ⟨fun i m H' => m = xs.length - i ∧ i ≤ xs.length ∧ PW i H', ⟨xs.length, by simp, Nat.zero_le _, g1, [], [], ?_, stp_hid .refl hD, upd_same, .nil, k⟩, ?_⟩
  · refine hr.re (K := ⟨K, M⟩) (fun a o _ h e => ⟨fun z => ?_, by rw [upd_ne (ne_of_none e hD)]; exact e⟩) (fun a h => upd_ne fun e => h (e ▸ hr_off hr hD)) fun a ha => ?_
    · rcases List.mem_cons.mp z with z | z
      · rw [z, hD] at e; cases e
      · exact h z
    · rcases List.mem_cons.mp ha with z | z
      · rw [z]; exact ⟨hr_off hr hD, by rw [upd_same]; trivial⟩
      · exact ⟨(hr.2 a z).1, (hr.2 a z).2.upd fun _ => trivial⟩
  rintro i m H2 ⟨rfl, hle, g2, acc, us, hr2, s2, eD, ra, k2⟩
  have ok := it (D :: M) g2 H2 (fun a h => List.mem_cons_of_mem _ h) hsub1 hr2 s2 (co_inv k2)
  have gD : g2 D = none := (hr2.2 D (List.mem_cons_self ..)).1
  by_cases hi : i < xs.length
  · have hx : xs[i]? = some xs[i] := List.getElem?_eq_getElem hi
    obtain ⟨go, yl⟩ := ok.1 i _ hx
    rw [List.drop_eq_getElem_cons hi] at k2
    refine .inr ⟨go, PW (i + 1), fun H' p => ⟨xs.length - (i + 1), by omega, rfl, hi, p⟩, fun v H3 y => ?_⟩
    obtain ⟨hr3, s3, r3⟩ := yl v H3 y
    have c3 : Cn ⟨K, D :: M⟩ (wipe σ vs) H3 (wipeE ev vs) g2 := (c.away hsub (s.trans (s2.trans s3)) hr3).wipe vs
    refine lt (D :: M) g2 H3 v _ _ _ _ _ c3 r3 k2.2 fun σ' ev' c' w' k' => ⟨?_, ?_⟩
    · rw [w']
      apply List.ext_getElem?
      intro z
      rw [wipe_get, wipe_get, wipe_length]
      split <;> rfl
    refine ⟨D :: M, ev', g2, _, Y0, c', k', fun b g4 H4 hr4 s4 kb => ?_, fun _ _ _ _ _ _ _ _ z => z.elim⟩
    have s24 := (s2.trans s3).trans s4
    have e4 : H4 D = some (.lst us) := ((s3.trans s4).keep D _ gD eD).1
    cases b with
    | false =>
      rw [if_neg (by decide)] at kb
      refine iteF ?_
      exact ⟨g4, acc, us, hr4, s24, e4, ra.go (s3.trans s4), kb⟩
    | true =>
      rw [if_pos rfl] at kb
      refine iteT ?_
      refine ⟨D :: M, ev', g4, _, Y0, c'.go hr4 s4, kb, fun v5 d5 g5 H5 hr5 s5 r5 k5 => ?_, fun _ _ _ _ _ _ _ _ z => z.elim⟩
      have s25 := s24.trans s5
      have e5 : H5 D = some (.lst us) := (((s3.trans s4).trans s5).keep D _ gD eD).1
      have g5D : g5 D = none := (hr5.2 D (List.mem_cons_self ..)).1
      refine ⟨us, e5, by rw [ra.length]; exact k5.1, g5, acc ++ [d5], us ++ [v5], ?_, stp_hid s25 hD, upd_same, ?_, k5.2⟩
      · refine hr5.re (K := ⟨K, D :: M⟩) (fun a o _ h e => ⟨h, by rw [upd_ne (hne _ h)]; exact e⟩) (fun a h => upd_ne fun e => h (e ▸ g5D)) fun a ha => ⟨(hr5.2 a ha).1, (hr5.2 a ha).2.upd fun _ => trivial⟩
      · have r6 : RpAll ⟨K, D :: M⟩ g5 H5 (us ++ [v5]) (acc ++ [d5]) := (ra.go ((s3.trans s4).trans s5)).append (.one r5)
        exact r6.re (K := ⟨K, D :: M⟩) fun a o _ h e => ⟨h, by rw [upd_ne (hne _ h)]; exact e⟩
  · have e : i = xs.length := by omega
    subst e
    rw [List.drop_length] at k2
    refine .inl ⟨ok.2, ?_⟩
    -- the list as if it were new
    have hH : H2 = upd (fun b => if b = D then none else H2 b) D (.lst us) := by
      funext b
      by_cases z : b = D
      · rw [z, upd_same]; exact eD
      · rw [upd_ne z]; exact (if_neg z).symm
    have nD : D ∉ M := fun z => (hr.2 D z).2.ne hD
    have hrm : HR ⟨K, M⟩ g2 (fun b => if b = D then none else H2 b) := by
      refine hr2.re (K := ⟨K, D :: M⟩) (M' := M) (fun a o _ h e => ⟨fun z => h (List.mem_cons_of_mem _ z), by rw [if_neg (hne _ h)]; exact e⟩) (fun a h => ?_) fun a ha => ?_
      · have : a ≠ D := fun e => h (by rw [e]; exact gD)
        exact if_neg this
      · have : a ≠ D := fun e => nD (by rw [← e]; exact ha)
        refine ⟨(hr2.2 a (List.mem_cons_of_mem _ ha)).1, ?_⟩
        rw [if_neg this]
        exact (hr2.2 a (List.mem_cons_of_mem _ ha)).2
    have sm : Stp g H g2 (fun b => if b = D then none else H2 b) := ⟨fun b o kb e => by
      obtain ⟨h1, h2⟩ := (s.trans s2).keep b o kb e
      exact ⟨by rw [if_neg (ne_of_none e hHD)]; exact h1, h2⟩, fun b kb => by
      rw [if_neg (fun z => kb (by rw [z]; exact hHD))]
      exact (s.trans s2).there b kb⟩
    have rm : RpAll ⟨K, M⟩ g2 (fun b => if b = D then none else H2 b) us acc := ra.re (K := ⟨K, D :: M⟩) (M' := M) fun a o _ h e => ⟨fun z => h (List.mem_cons_of_mem _ z), by rw [if_neg (hne _ h)]; exact e⟩
    rw [hH]
    exact hn ⟨K, M⟩ g2 _ R Q D us acc hrm (if_pos rfl) rm k2.2 (q.go sm)
theorem de_lc (hc : X.calm = true) (hn : NwOk n) (hN : X.N.Nodup) (hi : PI X tg iter (lI K W di)) (ok : BlkOk X.N X.env.scope scope own) (lt : LT K gt T (own.map (·.2)))
    (hg : ∀ (s : Shared) (H : Hp) (C : Addr) (cl : List (Str × Addr)) (fp : List Addr), PG (X.blk s H scope (compEnvC scope cl C X.env) fp) tg gt) (ht : ∀ (s : Shared) (H : Hp) (C : Addr) (cl : List (Str × Addr)) (fp : List Addr), PTs (X.blk s H scope (compEnvC scope cl C X.env) fp) ifs (lT K W0 Dt))
    (he : ∀ (s : Shared) (H : Hp) (C : Addr) (cl : List (Str × Addr)) (fp : List Addr), PE (X.blk s H scope (compEnvC scope cl C X.env) fp) elt (lE K W0 De')) (hs : ∀ x, foldedSetIterable iter X.env x = pure x := by intro _; rfl) :
    PE X (.ListComp elt [⟨tg, iter, ifs, 0⟩] scope pos) (lE K W (dLc n (own.map (·.2)) di T Dt De')) := pem (pe_lc hc hN hi ok hg ht he hs) fun σ H Q h => lc_ok hn lt h
theorem ds_setLc {i : Nat} {y : Str} {py spos : Pos} (hc : X.calm = true) (hn : NwOk n) (hN : X.N.Nodup) (hy : X.N[i]? = some y) (hyl : X.env.scope.names.lookup y = some .local)
    (hsw : swapsWith (.ListComp elt [⟨tg, iter, ifs, 0⟩] scope pos) (some (.Name y py)) spos.line X.env = pure true) (hi : PI X tg iter (lI K W di)) (ok : BlkOk X.N X.env.scope scope own) (lt : LT K gt T (own.map (·.2)))
    (hg : ∀ (s : Shared) (H : Hp) (C : Addr) (cl : List (Str × Addr)) (fp : List Addr), PG (X.blk s H scope (compEnvC scope cl C X.env) fp) tg gt) (ht : ∀ (s : Shared) (H : Hp) (C : Addr) (cl : List (Str × Addr)) (fp : List Addr), PTs (X.blk s H scope (compEnvC scope cl C X.env) fp) ifs (lT K W0 Dt))
    (he : ∀ (s : Shared) (H : Hp) (C : Addr) (cl : List (Str × Addr)) (fp : List Addr), PE (X.blk s H scope (compEnvC scope cl C X.env) fp) elt (lE K W0 De')) (hs : ∀ x, foldedSetIterable iter X.env x = pure x := by intro _; rfl) :
    PS X (.Assign [.Name y py] (.ListComp elt [⟨tg, iter, ifs, 0⟩] scope pos) spos) (lS K W (sAsg (dLc n (own.map (·.2)) di T Dt De') (gNm i))) :=
  psm (ps_setLc hc hN hy hyl hsw hi ok hg ht he hs) fun E σ H ⟨M, ev, g, P, c, d, l⟩ => lc_ok hn lt ⟨M, ev, g, _, _, c, d, fun v d g' H' hr s r k => l.nx _ _ _ _ ((c.go hr s).set r i) s k, l.xl c⟩
end
theorem dts_nil {X : Cx} {K : PySem.W.Frag} {W : WX} : PTs X [] (lT K W dtYes) := ⟨fun pins s σ H Q I ⟨M, ev, g, R, Y, c, d, q, x⟩ => pts_nil.run pins s σ H Q I (q true g H c.hr .refl d)⟩
/-! ### try -/
/-- try: B except C [as slot i]: S; what is caught is made -/
def sTry (K : PySem.W.Frag) (C made : Addr) (i : Option Nat) (B : DS) (S : Addr → DS) : DS := fun P ev g => B { P with ex := fun x ev1 g1 => ∃ b, PySem.W.exmOne K (.ref x.cls) (.ref C) = some b ∧
  (b = true → x = ⟨made, []⟩ ∧ ∀ a, match i with
    | some i => S a { P with nx := fun ev2 g2 => P.nx (ev2.set i none) g2, bk := fun ev2 g2 => P.bk (ev2.set i none) g2, ct := fun ev2 g2 => P.ct (ev2.set i none) g2, ex := fun _ _ _ => False } (ev1.set i (some (.ref a))) g1
    | none => S a { P with ex := fun _ _ _ => False } ev1 g1) ∧ (b = false → P.ex x ev1 g1) } ev g
section
variable {X : Cx} {W : WX} {K : PySem.W.Frag} {x n : Str} {C made : Addr} {i : Nat} {body suite : List Stmt} {b₀ : Stmt} {B : DS} {S : Addr → DS} {np pos pos' : Pos} {j : Nat}
theorem Bn.tr (b : Bn j X W) {pn : List (Addr × Obj)} {xe : Value → Shared → Prop} {W' : WX} (tk : Takes (X.tr pn xe) W') (po : PassesOwn (model X.prog X.w) X.A X.env xe) : Bn j (X.tr pn xe) W' := ⟨b.calm, tk, po, b.hr, b.gd⟩
theorem suite_el {M : List Addr} {g : Ah} {H : Hp} {P : De} {E : Ends} (l : EL ⟨K, M⟩ W g H P E) : EL ⟨K, M⟩ W0 g H { P with ex := fun _ _ _ => False } E := ⟨l.nx, l.rt, l.bk, l.ct, fun _ _ _ _ _ _ _ _ _ _ z => z.elim⟩
theorem ds_tryOnly (b : Bn j X W) (hs : X.stack = X.env :: X.outer) (hf : X.env.frame = some X.env.locals) (hc : Names X x (.ref C))
    (hb : ∀ (W' : WX) (pn : List (Addr × Obj)) (xe : Value → Shared → Prop), Bn j (X.tr pn xe) W' → PSs (X.tr pn xe) body (lS K W' B))
    (hsu : ∀ (a : Addr) (oe : Obj) (cls : Value) (d : Option Addr) (pn : List (Addr × Obj)), Zc cls d oe → (∃ vs, oe.data = .fields vs) → cls = .ref made ∧ d = none → PSs (X.suite a ((a, oe) :: pn)) (b₀ :: suite) (lS K W0 (S a))) (hK : X.K = K := by rfl) :
    PS X (.Try body [.ExceptHandler (some (.Name x np)) none (b₀ :: suite) pos'] [] [] pos) (lS K W (sTry K C made none B S)) := by
  subst hK
  refine psm (ps_try_only (tb := fun W' => lS X.K W' B) (ts := fun a cls d => fun D σ H => (cls = .ref made ∧ d = none) ∧ lS X.K W0 (S a) D σ H) hs hf hc b.tk (fun W' pn xe tk po => hb W' pn xe (b.tr tk po)) (fun a oe cls d pn hz hf => pss_given fun q => hsu a oe cls d pn hz hf q)) fun E σ H h => ?_
  obtain ⟨M, ev, g, P, c, d, l⟩ := h
  refine ⟨M, ev, g, _, c, d, ⟨l.nx, l.rt, l.bk, l.ct, fun x cls d σ' ev' g' H' cn s xr k => ?_⟩⟩
  obtain ⟨rfl, xr⟩ := xr
  obtain ⟨b, e, h1, h2⟩ := k
  refine ⟨b, e, fun hb a ha => ?_, fun hb => l.ex _ _ _ _ _ _ _ cn s ⟨rfl, xr⟩ (h2 hb)⟩
  obtain ⟨rfl, h3⟩ := h1 hb
  rcases xr with ⟨_, rfl⟩ | ⟨dx, fs, ne, _⟩
  · exact ⟨⟨rfl, rfl⟩, M, ev', g', _, cn, h3 a, suite_el (l.go s)⟩
  · exact absurd rfl ne
theorem ds_tryAs (b : Bn j X W) (hs : X.stack = X.env :: X.outer) (hf : X.env.frame = some X.env.locals) (hN : X.N.Nodup) (hi : X.N[i]? = some n) (hln : X.env.kindOf n = some .local) (hc : Names X x (.ref C))
    (hb : ∀ (W' : WX) (pn : List (Addr × Obj)) (xe : Value → Shared → Prop), Bn j (X.tr pn xe) W' → PSs (X.tr pn xe) body (lS K W' B))
    (hsu : ∀ (a : Addr) (oe : Obj) (cls : Value) (d : Option Addr) (pn : List (Addr × Obj)), Zc cls d oe → (∃ vs, oe.data = .fields vs) → cls = .ref made ∧ d = none → PSs (X.suite a ((a, oe) :: pn)) (b₀ :: suite) (lS K W0 (S a))) (hK : X.K = K := by rfl) :
    PS X (.Try body [.ExceptHandler (some (.Name x np)) (some n) (b₀ :: suite) pos'] [] [] pos) (lS K W (sTry K C made (some i) B S)) := by
  subst hK
  refine psm (ps_try_as (i := i) (tb := fun W' => lS X.K W' B) (ts := fun a cls d => fun D σ H => (cls = .ref made ∧ d = none) ∧ lS X.K W0 (S a) D σ H) hs hf hN hi hln hc b.tk (fun W' pn xe tk po => hb W' pn xe (b.tr tk po)) (fun a oe cls d pn hz hf => pss_given fun q => hsu a oe cls d pn hz hf q)) fun E σ H h => ?_
  obtain ⟨M, ev, g, P, c, d, l⟩ := h
  refine ⟨M, ev, g, _, c, d, ⟨l.nx, l.rt, l.bk, l.ct, fun x cls d σ' ev' g' H' cn s xr k => ?_⟩⟩
  obtain ⟨rfl, xr⟩ := xr
  obtain ⟨b, e, h1, h2⟩ := k
  refine ⟨b, e, fun hb a ha => ?_, fun hb => l.ex _ _ _ _ _ _ _ cn s ⟨rfl, xr⟩ (h2 hb)⟩
  obtain ⟨rfl, h3⟩ := h1 hb
  rcases xr with ⟨_, rfl⟩ | ⟨dx, fs, ne, _⟩
  · have l2 := l.go s
    exact ⟨⟨rfl, rfl⟩, M, _, g', _, cn.set (.ref a) i, h3 a, ⟨fun σ2 ev2 g2 H2 c2 s2 z => l2.nx _ _ _ _ (c2.unset i none) s2 z, l2.rt, fun σ2 ev2 g2 H2 c2 s2 z => l2.bk _ _ _ _ (c2.unset i none) s2 z, fun σ2 ev2 g2 H2 c2 s2 z => l2.ct _ _ _ _ (c2.unset i none) s2 z, fun _ _ _ _ _ _ _ _ _ _ z => z.elim⟩⟩
  · exact absurd rfl ne
/-- isinstance(e, c), e the exception that the suite holds -/
def dIsE (a : Addr) (i : Nat) (b : Bool) : DE := fun _ ev g R => gv ev i fun d => d = .ref a ∧ R (.bl b) g
theorem de_isE {e : Str} {c : Expr} {a : Addr} {oe : Obj} {pn : List (Addr × Obj)} {b : Bool} {u : V} {cv : Value} {W' : WX} {p pos ep : Pos} {i : Nat} (xc : ExcC X.K made) {cls : Value} {d : Option Addr} (q : cls = .ref made ∧ d = none) (hz : Zc cls d oe) (hf : ∃ vs, oe.data = .fields vs)
    (hg : Gl (X.suite a ((a, oe) :: pn)) "isinstance") (hm : X.mg "isinstance" = none) (kit : PySem.W.kitOne X.K (.ref made) cv = some b) (hcv : ∀ w, RelV u w → w = cv)
    (he : PE (X.suite a ((a, oe) :: pn)) (.Name e ep) (tVar i)) (hc : PE (X.suite a ((a, oe) :: pn)) c (tC u))
    (h1 : starEach [.Name e ep, c] (X.suite a ((a, oe) :: pn)).env = (false, eval (.Name e ep) (X.suite a ((a, oe) :: pn)).env) :: starEach [c] (X.suite a ((a, oe) :: pn)).env := by rfl) (h2 : starEach [c] (X.suite a ((a, oe) :: pn)).env = (false, eval c (X.suite a ((a, oe) :: pn)).env) :: starEach [] (X.suite a ((a, oe) :: pn)).env := by rfl)
    (hpl : (backTo pos (starEach [c] (X.suite a ((a, oe) :: pn)).env)).any (·.1) = false := by rfl) :
    PE (X.suite a ((a, oe) :: pn)) (.Call (.Name "isinstance" p) [.Name e ep, c] [] pos) (lE K W' (dIsE a i b)) := by
  refine pem (pe_callB (call_isE xc (zc_of q hz) hf) hg hm (by decide +kernel) (pa_cons he (pa_cons hc pa_nil h2) h1) (by decide) (by decide) h1 hpl) fun σ H Q h => ?_
  obtain ⟨M, ev, g, R, Y, cn, d, k, x⟩ := h
  obtain ⟨d0, e0, rfl, d⟩ := gv_ok d
  obtain ⟨v, e1, r⟩ := cn.vars _ _ e0
  cases r
  exact ⟨_, e1, u, cv, b, rfl, hcv, kit, ql_now cn.hr k (.bl b) d⟩
end
/-! what was hidden, as if it were not there -/
def rem (H : Hp) (p : Addr) : Hp := fun b => if b = p then none else H b
theorem rem_same {H : Hp} {p : Addr} : rem H p p = none := if_pos rfl
theorem rem_ne {H : Hp} {p b : Addr} (h : b ≠ p) : rem H p b = H b := if_neg h
theorem rem_upd {H : Hp} {p : Addr} {o : HO} : upd (rem H p) p o = upd H p o := by
  funext b
  by_cases e : b = p
  · rw [e, upd_same, upd_same]
  · rw [upd_ne e, upd_ne e, rem_ne e]
theorem unhide {K : PySem.W.Frag} {M : List Addr} {g g2 : Ah} {H H2 : Hp} {p : Addr} (hr2 : HR ⟨K, p :: M⟩ g2 H2) (hp : H p = none) (nM : p ∉ M) (s : Stp g H g2 H2) : HR ⟨K, M⟩ g2 (rem H2 p) ∧ Stp g H g2 (rem H2 p) := by
  have hne : ∀ a, a ∉ p :: M → a ≠ p := fun a h e => h (by rw [e]; exact List.mem_cons_self ..)
  have gp : g2 p = none := (hr2.2 p (List.mem_cons_self ..)).1
  refine ⟨hr2.re (K := ⟨K, p :: M⟩) (M' := M) (fun a o _ h e => ⟨fun z => h (List.mem_cons_of_mem _ z), by rw [rem_ne (hne _ h)]; exact e⟩) (fun a h => rem_ne fun e => h (by rw [e]; exact gp)) fun a ha => ?_, fun b o kb e => ?_, fun b kb => ?_⟩
  · have z : a ≠ p := fun e => nM (by rw [← e]; exact ha)
    rw [rem_ne z]
    exact hr2.2 a (List.mem_cons_of_mem _ ha)
  · obtain ⟨h1, h2⟩ := s.keep b o kb e
    exact ⟨by rw [rem_ne (ne_of_none e hp)]; exact h1, h2⟩
  · rw [rem_ne fun z => kb (by rw [z]; exact hp)]
    exact s.there b kb
/-! ### dict displays -/
abbrev Nd := List (Key × Dv) → Ah → DQ → Prop
def dF : Nd := fun kvs g R => R (.dct kvs) g
def dM : Nd := fun kvs g R => ∀ a, g a = none → R (.ref a) (ups g a (.dct kvs))
def NdOk (f : Nd) : Prop := ∀ (K : KM) (g : Ah) (H : Hp) (R : DQ) (Q : VK) (p : Addr) (vs : List (Key × V)) (xs : List (Key × Dv)), HR K g H → H p = none → RpP K g H vs xs → f xs g R → QL K g H R Q → Q (.ref p) (upd H p (.dK vs))
theorem dF_ok : NdOk dF := fun K g H R Q p vs xs hr hp r h q => q _ _ _ _ (hr_new hr hp) (stp_new hr hp) (.dct (hr_off hr hp) (hr_free hr hp) upd_same (RpP.go (stp_new hr hp) r)) h
theorem dM_ok : NdOk dM := fun K g H R Q p vs xs hr hp r h q => q _ _ _ _ (hr_put (m := .dct xs) (o := .dK vs) hr (.inl hp) r) (stp_put hr (.inl hp)) (.ref p) (h p (hr_off hr hp))
def dD0 (n : Nd) : DE := fun _ _ g R => n [] g R
/-- {} whose keys will be tuples -/
def dD0T : DE := fun _ _ g R => ∀ a, g a = none → R (.ref a) (ups g a (.dcT []))
section
variable {X : Cx} {W : WX} {K : PySem.W.Frag} {pos : Pos} {n : Nd}
theorem de_d0 (hn : NdOk n) : PE X (.Dict [] [] pos) (lE K W (dD0 n)) := pem pe_dnewK fun σ H Q ⟨M, ev, g, R, Y, c, d, q, x⟩ p hp => hn _ _ _ _ _ _ _ _ c.hr hp .nil d q
theorem de_d0T : PE X (.Dict [] [] pos) (lE K W dD0T) := pem pe_dnewT fun σ H Q ⟨M, ev, g, R, Y, c, d, q, x⟩ p hp => q _ _ _ _ (hr_put (m := .dcT []) (o := .dT []) c.hr (.inl hp) .nil) (stp_put c.hr (.inl hp)) (.ref p) (d p (hr_off c.hr hp))
end
def dPrs : List (DE × DE) → Xc → Ev → Ah → (List (Dv × Dv) → Ah → Prop) → Prop
  | [], _, _, g, k => k [] g
  | (a, b) :: r, X, ev, g, k => a X ev g fun x g1 => b X ev g1 fun y g2 => dPrs r X ev g2 fun ps g3 => k ((x, y) :: ps) g3
def dDsp (n : Nd) (ps : List (DE × DE)) : DE := fun X ev g R => dPrs ps X ev g fun ps g1 => ∃ kvs : List (Key × Dv), ps = kvs.map (fun kv => (kD kv.1, kv.2)) ∧ kvs.length ≤ 15 ∧ n (kvs.foldl (fun acc kv => putD acc kv.1 kv.2) []) g1 R
section
variable {X : Cx} {W : WX} {K : PySem.W.Frag} {pos : Pos} {n : Nd}
abbrev lPs (K : PySem.W.Frag) (W : WX) (ps : List (DE × DE)) : List (TE × TE) := ps.map fun p => (lE K W p.1, lE K W p.2)
inductive RpPP (K : KM) (g : Ah) (H : Hp) : List (V × V) → List (Dv × Dv) → Prop
  | nil : RpPP K g H [] []
  | cons {u v : V} {a b : Dv} {us : List (V × V)} {as : List (Dv × Dv)} : Rp K g H u a → Rp K g H v b → RpPP K g H us as → RpPP K g H ((u, v) :: us) ((a, b) :: as)
theorem prs_ok : ∀ {ps : List (DE × DE)} {M : List Addr} {σ : L2.St} {H : Hp} {ev : Ev} {g : Ah} {Y : Xc} {k : List (Dv × Dv) → Ah → Prop} {Q : List (V × V) → Hp → Prop}, Cn ⟨K, M⟩ σ H ev g → dPrs ps Y ev g k → XL ⟨K, M⟩ W σ g H Y →
    (∀ us as g' H', HR ⟨K, M⟩ g' H' → Stp g H g' H' → RpPP ⟨K, M⟩ g' H' us as → k as g' → Q us H') → tPairs (lPs K W ps) σ H Q
  | [], M, σ, H, ev, g, Y, k, Q, c, d, x, q => q [] [] g H c.hr .refl .nil d
  | (a, b) :: r, M, σ, H, ev, g, Y, k, Q, c, d, x, q => ⟨M, ev, g, _, Y, c, d, fun v1 d1 g1 H1 hr1 s1 r1 k1 => ⟨M, ev, g1, _, Y, c.go hr1 s1, k1, fun v2 d2 g2 H2 hr2 s2 r2 k2 =>
      prs_ok (ps := r) (c.go hr2 (s1.trans s2)) k2 (x.go (s1.trans s2)) fun us as g3 H3 hr3 s3 r3 k3 => q _ _ _ _ hr3 ((s1.trans s2).trans s3) (.cons (r1.go (s2.trans s3)) (r2.go s3) r3) k3, x.go s1⟩, x⟩
theorem keys_ok {K : KM} {g : Ah} {H : Hp} : ∀ {us : List (V × V)} {kvs : List (Key × Dv)}, RpPP K g H us (kvs.map fun kv => (kD kv.1, kv.2)) → ∃ ws : List (Key × V), us = ws.map (fun kv => (kV kv.1, kv.2)) ∧ RpP K g H ws kvs
  | _, [], .nil => ⟨[], rfl, .nil⟩
  | _, (k, d) :: kvs, .cons h1 h2 r => by
    obtain ⟨ws, rfl, r'⟩ := keys_ok r
    obtain rfl := kOf_ok (k := k) h1 (by cases k <;> rfl)
    exact ⟨(k, _) :: ws, rfl, .cons h2 r'⟩
theorem de_dsp {keys : List (Option Expr)} {values : List Expr} {ps : List (DE × DE)} (hn : NdOk n) (h : PPs X pos keys values (lPs K W ps)) (hall : keys.all (·.isSome) = true := by rfl) (hl : keys.length = values.length := by rfl) (h0 : keys ≠ [] := by exact fun z => nomatch z)
    (h15 : keys.length ≤ 15 := by decide) : PE X (.Dict keys values pos) (lE K W (dDsp n ps)) :=
  pem (pe_disp h hall hl h0 h15) fun σ H Q ⟨M, ev, g, R, Y, c, d, q, x⟩ p hp => by
    have hsub : ∀ a ∈ p :: M, a ∈ M ∨ H a = none := fun a ha => (List.mem_cons.mp ha).elim (fun e => .inr (e ▸ hp)) .inl
    have hne : ∀ a, a ∉ p :: M → a ≠ p := fun a h e => h (by rw [e]; exact List.mem_cons_self ..)
    have hr0 : HR ⟨K, p :: M⟩ g (upd H p (.dK [])) := by
      refine c.hr.re (K := ⟨K, M⟩) (fun a o _ h e => ⟨fun z => ?_, by rw [upd_ne (ne_of_none e hp)]; exact e⟩) (fun a h => upd_ne fun e => h (e ▸ hr_off c.hr hp)) fun a ha => ?_
      · rcases List.mem_cons.mp z with z | z
        · rw [z, hp] at e; cases e
        · exact h z
      · rcases List.mem_cons.mp ha with z | z
        · rw [z]; exact ⟨hr_off c.hr hp, by rw [upd_same]; trivial⟩
        · exact ⟨(c.hr.2 a z).1, (c.hr.2 a z).2.upd fun _ => trivial⟩
    have s0 : Stp g H g (upd H p (.dK [])) := stp_hid .refl hp
    have c0 : Cn ⟨K, p :: M⟩ σ (upd H p (.dK [])) ev g := c.away hsub s0 hr0
    refine prs_ok (Y := Y) c0 d (fun z cls dd g' H' hr' s' xr k => ?_) fun us as g2 H2 hr2 s2 r2 k2 => ?_
    · refine x z cls dd g' H' (hr_less (K := ⟨K, M⟩) (fun a ha => List.mem_cons_of_mem _ ha) hr') (s0.trans s') ?_ k
      obtain ⟨e, xr⟩ := xr
      refine ⟨e, xr.imp id fun ⟨dx, fs, h1, h2, h3, h4, h5⟩ => ⟨dx, fs, h1, h2, h3, h4, h5.re (K := ⟨K, p :: M⟩) (M' := M) fun a o _ h e => ⟨fun z => h (List.mem_cons_of_mem _ z), e⟩⟩⟩
    · obtain ⟨kvs, rfl, hl, k2⟩ := k2
      obtain ⟨ws, rfl, r3⟩ := keys_ok r2
      have gp : g p = none := hr_off c.hr hp
      have e2 : H2 p = some (.dK []) := (s2.keep p _ gp upd_same).1
      refine ⟨e2, ws, rfl, by rw [r3.length]; exact hl, ?_⟩
      rw [← rem_upd (H := H2) (p := p)]
      obtain ⟨h1, h2⟩ := unhide (K := K) (M := M) hr2 hp (hr_free c.hr hp) (s0.trans s2)
      refine hn ⟨K, M⟩ g2 (rem H2 p) R Q p _ _ h1 rem_same (RpP.merge (r3.re (K := ⟨K, p :: M⟩) (M' := M) fun a o _ h e => ⟨fun z => h (List.mem_cons_of_mem _ z), by rw [rem_ne (hne _ h)]; exact e⟩) .nil) k2 (q.go h2)
end
/-! ### more -/
abbrev qSub : DR2 := qI0 fun i j => .int (i - j)
abbrev qMod : DR2 := qI (fun _ j => 0 < j) fun i j => .int (i % j)
abbrev qFdiv : DR2 := qI CDivW fun i j => .int (i / j)
abbrev qPow : DR2 := qI CPow fun i j => .int (i ^ j.toNat)
abbrev qXor : DR2 := qI0 fun i j => .int (Builtin.bitXor i j)
abbrev qBand : DR2 := qI0 fun i j => .int (Builtin.bitAnd i j)
abbrev qBor : DR2 := qI0 fun i j => .int (Builtin.bitOr i j)
abbrev qShl : DR2 := qI CPow fun i j => .int (i * 2 ^ j.toNat)
abbrev qShr : DR2 := qI (fun _ j => 0 ≤ j) fun i j => .int (i / 2 ^ j.toNat)
abbrev qIMul : DR2 := qI CMul fun i j => .int (i * j)
abbrev qIFdiv : DR2 := qI CDiv fun i j => .int (i / j)
def qNeg : Dv → Ah → DQ → Prop := fun d g R => match d with
  | .int i => R (.int (-i)) g
  | _ => False
def qRev (n : Nw) : Dv → Ah → DQ → Prop := fun d g R => match vw g d with
  | .lst xs => n xs.reverse g R
  | _ => False
def vD : V → Dv
  | .non => .non
  | .bl b => .bl b
  | .int i => .int i
  | .str x => .str x
  | .byt b => .byt b
  | .flt _ => .non
  | .ref a => .ref a
  | .ty n => .ty n
def noFlt : V → Bool
  | .flt _ => false
  | _ => true
theorem flat_rp {K : KM} {g : Ah} {H : Hp} : ∀ vs : List V, vs.all noFlt = true → RpAll K g H vs (vs.map vD)
  | [], _ => .nil
  | v :: vs, h => by
    rw [List.all_cons, Bool.and_eq_true] at h
    refine .cons ?_ (flat_rp vs h.2)
    cases v <;> first | exact .non | exact .bl _ | exact .int _ | exact .str _ | exact .byt _ | exact .ref _ | exact .ty _ | (cases h.1)
/-- a, b = e1, e2 -/
def sPar (i j : Nat) (t : DA) : DS := fun P ev g => t (fun x g => P.ex x ev g) ev g fun ds g1 => ∃ a b, ds = [a, b] ∧ P.nx ((ev.set i (some a)).set j (some b)) g1
section
variable {X : Cx} {W : WX} {K : PySem.W.Frag} {a : Expr} {es : List Expr} {Da : DE} {Dt : DA} {pos p1 p2 p3 : Pos} {n : Nw}
theorem de_neg (h : PE X a (lE K W Da)) : PE X (.UnaryOp .USub a pos) (lE K W (dUn qNeg Da)) := pem (pe_un un_neg h) fun σ H Q ⟨M, ev, g, R, Y, c, d, q, x⟩ => ⟨M, ev, g, _, Y, c, d, fun v d g1 H1 hr s r k => by
  unfold qNeg at k
  dsimp only at k
  split at k
  next i => cases r; exact ⟨i, rfl, q _ _ _ _ hr s (.int _) k⟩
  next => exact k.elim, x⟩
theorem de_rev {k : Nat} (hn : NwOk n) (h : PE X a (lE K W Da)) (hK : X.K = K := by rfl) : PE X (.Subscript a (.Slice none none (some (.UnaryOp .USub (.Constant (.int 1) k p1) p2)) p3) pos) (lE K W (dUn (qRev n) Da)) := pem (pe_revLK K h hK) fun σ H Q ⟨M, ev, g, R, Y, c, d, q, x⟩ => ⟨M, ev, g, _, Y, c, d, fun v d g1 H1 hr s r k => by
  unfold qRev at k
  dsimp only at k
  split at k
  next xs e =>
    obtain ⟨a, vs, rfl, h1, h2⟩ := vw_lst r hr e
    exact ⟨a, vs, rfl, h1, fun p hp => hn _ _ _ _ _ _ _ _ hr hp h2.rev k (q.go s)⟩
  next => exact k.elim, x⟩
theorem ds_par {i j : Nat} {x y : Str} {a b : Expr} {px py pt : Pos} {kt k2 pt2} (hc : X.calm = true) (hN : X.N.Nodup) (hi : X.N[i]? = some x) (hj : X.N[j]? = some y) (hij : i ≠ j)
    (hx : X.env.scope.names.lookup x = some .local) (hy : X.env.scope.names.lookup y = some .local) (ha : PA X [a, b] (lA K W Dt))
    (hw : swappedStores [.Tuple [.Name x px, .Name y py] kt pt] (.Tuple [a, b] k2 pt2) X.env = pure (some [x, y]) := by rfl)
    (hs : swapsWithSole [.Tuple [.Name x px, .Name y py] kt pt] (.Tuple [a, b] k2 pt2) pos.line X.env = pure false := by rfl) :
    PS X (.Assign [.Tuple [.Name x px, .Name y py] kt pt] (.Tuple [a, b] k2 pt2) pos) (lS K W (sPar i j Dt)) := psm (ps_par hc hN hi hj hij hx hy ha hw hs) fun E σ H ⟨M, ev, g, P, c, d, l⟩ => ⟨M, ev, g, _, _, c, d, fun vs ds g1 H1 hr s r k => by
  obtain ⟨u, w, rfl, k⟩ := k
  obtain ⟨v1, v2, rfl, r1, r2⟩ := rp2 r
  exact ⟨v1, v2, rfl, l.nx _ _ _ _ (((c.go hr s).set r1 i).set r2 j) s k⟩, l.xl c⟩
end
/-! ### the law's beginning -/
theorem law_spL {K : PySem.W.Frag} {a : Addr} {H : Hp} {ns : List Int} {S : FD} (hO : Only H) (hS : SqL K H a (ns.map V.int)) (h : S [.fz (ns.map Dv.int)] (fun _ => none) (fun d _ => d = .bl true) (fun _ _ => False)) : spL K S [.ref a] H (fun v _ => v = .bl true) E0 := by
  refine ⟨[], [.fz (ns.map Dv.int)], fun _ => none, _, _, .cons ?_ .nil, ⟨fun a m q => (nomatch q), fun a q => (nomatch q)⟩, h, fun v d g' H' _ _ r k => ?_, fun _ _ _ _ _ _ _ _ z => z.elim⟩
  · rcases hS with (h1 | ⟨o, h1⟩) | h1
    · rcases hO a with z | ⟨o, xs, z⟩ <;> (rw [h1] at z; cases z)
    · exact .fz rfl (by simp) h1 (ints_rp ns)
    · exact .fk h1 (ints_rp ns)
  · subst k
    cases r
    rfl
/-! ### reasoning on data -/
/-- what stays: all but the objects S -/
def Agr (S : List Addr) (g g' : Ah) : Prop := ∀ b, b ∉ S → g b ≠ none → g' b = g b
section
variable {S S' : List Addr} {g g' g'' : Ah} {a b : Addr} {m m' : Mo}
theorem Agr.refl : Agr S g g := fun _ _ _ => rfl
theorem Agr.get (h : Agr S g g') (hb : b ∉ S) (e : g b = some m) : g' b = some m := by rw [h b hb (by rw [e]; exact fun z => nomatch z)]; exact e
theorem Agr.trans (h : Agr S g g') (k : Agr S g' g'') : Agr S g g'' := fun b hb n => by
  have e := h b hb n
  rw [k b hb (by rw [e]; exact n), e]
theorem Agr.more (h : Agr S g g') (k : ∀ b ∈ S, b ∈ S') : Agr S' g g' := fun b hb n => h b (fun z => hb (k b z)) n
theorem Agr.ups (h : Agr S g g') (ha : a ∈ S) : Agr S g (ups g' a m) := fun b hb n => by rw [ups_ne (fun e => hb (by rw [e]; exact ha))]; exact h b hb n
theorem Agr.new (h : Agr S g g') (ha : g a = none) : Agr S g (Z.ups g' a m) := fun b hb n => by rw [ups_ne (fun e => n (by rw [e]; exact ha))]; exact h b hb n
theorem Agr.del (h : Agr S g g') (ha : a ∈ S) : Agr S g (del g' a) := fun b hb n => by rw [del_ne (fun e => hb (by rw [e]; exact ha))]; exact h b hb n
theorem Agr.delN (h : Agr S g g') (ha : g a = none) : Agr S g (Z.del g' a) := fun b hb n => by rw [del_ne (fun e => n (by rw [e]; exact ha))]; exact h b hb n
theorem mo_apart (h : g a = some m) (k : g b = some m') (d : m ≠ m') : a ≠ b := by
  rintro rfl
  rw [h] at k
  exact d (Option.some.inj k)
theorem new_ne (h : g a = some m) (k : g b = none) : a ≠ b := by
  rintro rfl
  rw [h] at k
  cases k
end
/-- a loop, by an invariant -/
theorem loop_inv {G : Dv → Ev → Ah → (Ev → Ah → Prop) → Prop} {B : DS} {P : De} {inv : Ah → Prop} (I : Nat → Ev → Ah → Prop) : ∀ {xs : List Dv} {ev : Ev} {g : Ah} (n : Nat), I n ev g → (∀ i ev g, I i ev g → inv g) →
    (∀ i x ev g (N : Ev → Ah → Prop), xs[i]? = some x → I (n + i) ev g → (∀ ev g, I (n + i + 1) ev g → N ev g) → G x ev g fun ev1 g1 => B { P with nx := N, ct := N, bk := P.nx } ev1 g1) → (∀ ev g, I (n + xs.length) ev g → P.nx ev g) → dLoop G B P inv xs ev g
  | [], ev, g, n, h0, hi, hs, hd => ⟨hi _ _ _ h0, hd _ _ h0⟩
  | x :: xs, ev, g, n, h0, hi, hs, hd => by
    refine ⟨hi _ _ _ h0, hs 0 x ev g _ rfl h0 fun ev g h => ?_⟩
    refine loop_inv I (n + 1) h hi (fun i y ev g N e h k => hs (i + 1) y ev g N (by simpa using e) (by rw [show n + (i + 1) = n + 1 + i by omega]; exact h) fun ev g h => k ev g ?_) (fun ev g h => hd ev g ?_)
    · rw [show n + 1 + i + 1 = n + (i + 1) + 1 by omega]; exact h
    · rw [List.length_cons, show n + (xs.length + 1) = n + 1 + xs.length by omega]; exact h
/-- a comprehension, by an invariant over what is made -/
theorem comp_inv {T : DTn} {t : DTs} {e : DE} {inv : Ah → Prop} {k : List Dv → Ah → Prop} {ev : Ev} (I : Nat → List Dv → Ah → Prop) : ∀ {xs acc : List Dv} {g : Ah} (n : Nat), I n acc g → (∀ i acc g, I i acc g → inv g) →
    (∀ i x acc g (N : Ah → Prop) (MM : Dv → Ah → Prop), xs[i]? = some x → I (n + i) acc g → (∀ g, I (n + i + 1) acc g → N g) → (∀ d g, acc.length < sizeLine ∧ I (n + i + 1) (acc ++ [d]) g → MM d g) → T x ev fun ev1 => t Y0 ev1 g fun b g1 => if b = true then e Y0 ev1 g1 MM else N g1) →
    (∀ acc g, I (n + xs.length) acc g → k acc g) → dCo T t e inv xs acc ev g k
  | [], acc, g, n, h0, hi, hs, hd => ⟨hi _ _ _ h0, hd _ _ h0⟩
  | x :: xs, acc, g, n, h0, hi, hs, hd => by
    have again : ∀ acc g, I (n + 0 + 1) acc g → dCo T t e inv xs acc ev g k := fun acc g h => by
      refine comp_inv I (n + 1) h hi (fun i y acc g N MM e h k1 k2 => hs (i + 1) y acc g N MM (by simpa using e) (by rw [show n + (i + 1) = n + 1 + i by omega]; exact h) (fun g h => k1 g ?_) fun d g h => k2 d g ⟨h.1, ?_⟩) (fun acc g h => hd acc g ?_)
      · rw [show n + 1 + i + 1 = n + (i + 1) + 1 by omega]; exact h
      · rw [show n + 1 + i + 1 = n + (i + 1) + 1 by omega]; exact h.2
      · rw [List.length_cons, show n + (xs.length + 1) = n + 1 + xs.length by omega]; exact h
    exact ⟨hi _ _ _ h0, hs 0 x acc g _ _ rfl h0 (fun g h => again acc g h) fun d g h => ⟨h.1, again _ g h.2⟩⟩
/-! ### readings of data, one step each -/
section
variable {X : Xc} {ev : Ev} {g : Ah} {R : DQ} {a b c o e f : DE} {t u : DTs} {RB : Bool → Ah → Prop} {q q' : DR2} {d d' x y v w : Dv} {ta : DA} {RA : List Dv → Ah → Prop} {P : De} {s1 s2 : DS} {n : Nw} {xs ys : List Dv} {p : Addr} {i j : Int} {k : Nat} {C : Addr} {fs : List (Str × Dv)} {m : Mo} {nm : Str} {z1 z2 : Str} {bb b1 b2 : Bool}
theorem r_var {i : Nat} (h : ev[i]? = some (some d)) (q : R d g) : dVar i X ev g R := by
  show gv ev i fun d => R d g
  induction ev generalizing i with
  | nil => simp at h
  | cons z ev ih =>
    cases i with
    | zero =>
      simp at h
      subst h
      exact q
    | succ i =>
      have := ih (i := i) (by simpa using h)
      cases z <;> exact this
theorem r_c (q : R d g) : dC d X ev g R := q
theorem r_op (h : a X ev g fun x g1 => b X ev g1 fun y g2 => q x y g2 R) : dOp q a b X ev g R := h
theorem r_un {q : Dv → Ah → DQ → Prop} (h : a X ev g fun x g1 => q x g1 R) : dUn q a X ev g R := h
theorem r_tru (h : a X ev g fun d g1 => tvw g1 d fun b => RB b g1) : dTru a X ev g RB := h
theorem r_tst (h : a X ev g (asB RB)) : dTst a X ev g RB := h
theorem r_asB (h : RB bb g) : asB RB (.bl bb) g := h
theorem r_tnot (h : t X ev g fun b g1 => RB (!b) g1) : dtNot t X ev g RB := h
theorem r_tand (h : t X ev g fun b g1 => if b = true then u X ev g1 RB else RB false g1) : dtAnd t u X ev g RB := h
theorem r_tor (h : t X ev g fun b g1 => if b = true then RB true g1 else u X ev g1 RB) : dtOr t u X ev g RB := h
theorem r_and (h : a X ev g fun d g1 => tvw g1 d fun k => if k = true then b X ev g1 R else R d g1) : dAnd a b X ev g R := h
theorem r_or (h : a X ev g fun d g1 => tvw g1 d fun k => if k = true then R d g1 else b X ev g1 R) : dOr a b X ev g R := h
theorem r_not (h : a X ev g fun d g1 => tvw g1 d fun k => R (.bl (!k)) g1) : dNot a X ev g R := h
theorem r_if (h : t X ev g fun k g1 => if k = true then a X ev g1 R else b X ev g1 R) : dIf t a b X ev g R := h
theorem r_nil (h : RA [] g) : dNil X ev g RA := h
theorem r_cons (h : a X ev g fun d g1 => ta X ev g1 fun ds g2 => RA (d :: ds) g2) : dCons a ta X ev g RA := h
/-- a new list: it is short -/
def nwQ (n : Nw) (ds : List Dv) (g : Ah) (R : DQ) : Prop := ds.length ≤ sizeLine ∧ n ds g R
def nwT (ds : List Dv) (g : Ah) (R : DQ) : Prop := ds.length ≤ sizeLine ∧ R (.tup ds) g
theorem r_lst (h : ta X ev g fun ds g1 => nwQ n ds g1 R) : dLst n ta X ev g R := h
theorem r_tup (h : ta X ev g fun ds g1 => nwT ds g1 R) : dTup ta X ev g R := h
theorem r_nw (hz : xs.length ≤ 1000) (h : n xs g R) : nwQ n xs g R := ⟨szl hz, h⟩
theorem r_nwT (hz : xs.length ≤ 1000) (h : R (.tup xs) g) : nwT xs g R := ⟨szl hz, h⟩
theorem r_nF (h : R (.lst xs) g) : nF xs g R := h
theorem r_chain (h : a X ev g fun x g1 => b X ev g1 fun y g2 => q x y g2 (asB fun k g3 => if k = true then c X ev g3 fun z g4 => q' y z g4 R else R (.bl false) g3)) : dChain q q' a b c X ev g R := h
theorem r_frz (h : a X ev g (frzQ R)) : dFrz a X ev g R := h
theorem r_frzL (h : g p = some (.lst xs)) (k : R (.lst xs) (del g p)) : frzQ R (.ref p) g := by
  show (match g p with | some (.lst xs) => R (.lst xs) (del g p) | some (.dct kvs) => R (.dct kvs) (del g p) | some (.dcT kvs) => R (.dcT kvs) (del g p) | _ => R (.ref p) g)
  rw [h]; exact k
theorem r_frzD {kvs : List (Key × Dv)} (h : g p = some (.dct kvs)) (k : R (.dct kvs) (del g p)) : frzQ R (.ref p) g := by
  show (match g p with | some (.lst xs) => R (.lst xs) (del g p) | some (.dct kvs) => R (.dct kvs) (del g p) | some (.dcT kvs) => R (.dcT kvs) (del g p) | _ => R (.ref p) g)
  rw [h]; exact k
theorem r_frzV (h : ∀ p, d ≠ .ref p) (k : R d g) : frzQ R d g := by
  unfold frzQ
  split
  next p => exact absurd rfl (h p)
  next => exact k
/-! values -/
theorem r_i0 {f : Int → Int → Dv} (h : R (f i j) g) : qI0 f (.int i) (.int j) g R := h
theorem r_i {C : Int → Int → Prop} {f : Int → Int → Dv} (hc : C i j) (h : R (f i j) g) : qI C f (.int i) (.int j) g R := ⟨hc, h⟩
theorem r_addI (h : R (.int (i + j)) g) : qAdd n (.int i) (.int j) g R := h
theorem r_addS (hz : z1.length + z2.length ≤ sizeLine) (h : R (.str (z1 ++ z2)) g) : qAdd n (.str z1) (.str z2) g R := ⟨hz, h⟩
theorem r_addT (hz : xs.length + ys.length ≤ 100000) (h : R (.tup (xs ++ ys)) g) : qAdd n (.tup xs) (.tup ys) g R := ⟨szL hz, h⟩
theorem r_addL (h1 : vm g d = .lst xs) (h2 : vm g d' = .lst ys) (hz : xs.length + ys.length ≤ 100000) (h : n (xs ++ ys) g R) : qAdd n d d' g R := by
  unfold qAdd
  rw [h1, h2]
  exact ⟨szL hz, h⟩
theorem r_mulI (hc : CMul i j ∨ CMulW i j) (h : R (.int (i * j)) g) : qMul' n (.int i) (.int j) g R := ⟨hc, h⟩
theorem r_mulL (h1 : vl g d = .lst xs) (h0 : -(2 ^ 62) ≤ j) (h2 : j ≤ 100000) (hz : xs.length * j.toNat ≤ 100000) (h : n (List.replicate j.toNat xs).flatten g R) : qMul' n d (.int j) g R := by
  unfold qMul'
  rw [h1]
  exact ⟨by omega, by omega, szL hz, h⟩
theorem r_mul0 {z : Dv} (h : qMul' n d d' g R) : qMul' n d d' g R := h
theorem r_neg (h : R (.int (-i)) g) : qNeg (.int i) g R := h
theorem r_rev (h1 : vw g d = .lst xs) (h : n xs.reverse g R) : qRev n d g R := by
  unfold qRev; rw [h1]; exact h
theorem r_eqI (h : R (.bl (decide (i = j))) g) : qEq true (.int i) (.int j) g R := .inr ⟨by simp [SeqAt.shaped, PyData.canLay0, PyData.depth], by simp [SeqAt.shaped, PyData.canLay0, PyData.depth], by have e : (i == j) = decide (i = j) := by { by_cases e : i = j <;> simp [e] }; simp only [PyData.eqv]; simpa [e] using h⟩
theorem r_neI (h : R (.bl (!decide (i = j))) g) : qEq false (.int i) (.int j) g R := .inr ⟨by simp [SeqAt.shaped, PyData.canLay0, PyData.depth], by simp [SeqAt.shaped, PyData.canLay0, PyData.depth], by have e : (i == j) = decide (i = j) := by { by_cases e : i = j <;> simp [e] }; simp only [PyData.eqv]; simpa [e] using h⟩
theorem r_eqB (h : R (.bl (decide (b1 = b2))) g) : qEq true (.bl b1) (.bl b2) g R := .inr ⟨by simp [SeqAt.shaped, PyData.canLay0, PyData.depth], by simp [SeqAt.shaped, PyData.canLay0, PyData.depth], by cases b1 <;> cases b2 <;> simpa [PyData.eqv] using h⟩
theorem r_neB (h : R (.bl (!decide (b1 = b2))) g) : qEq false (.bl b1) (.bl b2) g R := .inr ⟨by simp [SeqAt.shaped, PyData.canLay0, PyData.depth], by simp [SeqAt.shaped, PyData.canLay0, PyData.depth], by cases b1 <;> cases b2 <;> simpa [PyData.eqv] using h⟩
theorem r_eqNI (h : R (.bl false) g) : qEq true .non (.int i) g R := .inr ⟨by simp [SeqAt.shaped, PyData.canLay0, PyData.depth], by simp [SeqAt.shaped, PyData.canLay0, PyData.depth], by simp only [PyData.eqv]; simpa using h⟩
theorem r_eqD {p1 p2 : PyData} (h1 : pvw g d = some p1) (h2 : pvw g d' = some p2) (s1 : SeqAt.shaped p1 = true) (s2 : SeqAt.shaped p2 = true) (h : R (.bl (PyData.eqv p1 p2)) g) : qEq true d d' g R := by
  unfold qEq; rw [h1, h2]; exact .inr ⟨s1, s2, by rw [show (PyData.eqv p1 p2 == true) = PyData.eqv p1 p2 by simp]; exact h⟩
theorem r_neD {p1 p2 : PyData} (h1 : pvw g d = some p1) (h2 : pvw g d' = some p2) (s1 : SeqAt.shaped p1 = true) (s2 : SeqAt.shaped p2 = true) (h : R (.bl (!PyData.eqv p1 p2)) g) : qEq false d d' g R := by
  unfold qEq; rw [h1, h2]; exact .inr ⟨s1, s2, by rw [show (PyData.eqv p1 p2 == false) = !PyData.eqv p1 p2 by cases PyData.eqv p1 p2 <;> rfl]; exact h⟩
theorem r_eqS (h : R (.bl (z1 == z2)) g) : qEq true (.str z1) (.str z2) g R := .inl ⟨z1, z2, rfl, rfl, by rw [show ((z1 == z2) == true) = (z1 == z2) by simp]; exact h⟩
theorem r_neS (h : R (.bl (z1 != z2)) g) : qEq false (.str z1) (.str z2) g R := .inl ⟨z1, z2, rfl, rfl, by rw [show ((z1 == z2) == false) = (z1 != z2) by unfold bne; cases (z1 == z2) <;> rfl]; exact h⟩
theorem r_eqNS (h : R (.bl false) g) (k : PyData.strOk z1 = true) : qEq true .non (.str z1) g R := .inr ⟨by simp [SeqAt.shaped, PyData.canLay0, PyData.depth], by simp [SeqAt.shaped, PyData.canLay0, PyData.depth, k], by simp only [PyData.eqv]; simpa using h⟩
theorem r_isN (h : R (.bl true) g) : qIs true .non .non g R := h
theorem r_isI (h : R (.bl false) g) : qIs true (.int i) .non g R := h
theorem r_isB (h : R (.bl false) g) : qIs true (.bl bb) .non g R := h
theorem r_isS (h : R (.bl false) g) : qIs true (.str z1) .non g R := h
theorem r_isL (h : R (.bl false) g) : qIs true (.lst xs) .non g R := h
theorem r_isT (h : R (.bl false) g) : qIs true (.tup xs) .non g R := h
theorem r_isR (h : R (.bl false) g) : qIs true (.ref p) .non g R := h
theorem r_nisN (h : R (.bl false) g) : qIs false .non .non g R := h
theorem r_nisI (h : R (.bl true) g) : qIs false (.int i) .non g R := h
theorem r_nisB (h : R (.bl true) g) : qIs false (.bl bb) .non g R := h
theorem r_nisS (h : R (.bl true) g) : qIs false (.str z1) .non g R := h
theorem r_nisL (h : R (.bl true) g) : qIs false (.lst xs) .non g R := h
theorem r_nisT (h : R (.bl true) g) : qIs false (.tup xs) .non g R := h
theorem r_nisR (h : R (.bl true) g) : qIs false (.ref p) .non g R := h
theorem r_ltI (h : R (.bl (decide (i < j))) g) : qLt false false (.int i) (.int j) g R := h
theorem r_gtI (h : R (.bl (decide (j < i))) g) : qLt true false (.int i) (.int j) g R := h
theorem r_geI (h : R (.bl (decide (j ≤ i))) g) : qLt false true (.int i) (.int j) g R := by
  show R (.bl (!decide (i < j))) g
  rw [show (!decide (i < j)) = decide (j ≤ i) by by_cases h : i < j <;> simp [h] <;> omega]
  exact h
theorem r_leI (h : R (.bl (decide (i ≤ j))) g) : qLt true true (.int i) (.int j) g R := by
  show R (.bl (!decide (j < i))) g
  rw [show (!decide (j < i)) = decide (i ≤ j) by by_cases h : j < i <;> simp [h] <;> omega]
  exact h
theorem r_ltS (h : R (.bl (decide (z1.cps.toList < z2.cps.toList))) g) : qLt false false (.str z1) (.str z2) g R := h
theorem r_gtS (h : R (.bl (decide (z2.cps.toList < z1.cps.toList))) g) : qLt true false (.str z1) (.str z2) g R := h
theorem r_ltT {ps qs : List PyData} {oo : Ordering} (h1 : pds xs = some ps) (h2 : pds ys = some qs) (hc : Cm (.tuple ps) (.tuple qs) oo) (s1 : SeqAt.shaped (.tuple ps) = true) (s2 : SeqAt.shaped (.tuple qs) = true) (h : R (.bl (oo == .lt)) g) : qLt false false (.tup xs) (.tup ys) g R := ⟨rfl, ps, qs, oo, h1, h2, hc, s1, s2, h⟩
theorem t_non {R : Bool → Prop} (h : R false) : tvw g .non R := h
theorem t_bl {R : Bool → Prop} (h : R bb) : tvw g (.bl bb) R := h
theorem t_int {R : Bool → Prop} (h : R (i != 0)) : tvw g (.int i) R := h
theorem t_str {R : Bool → Prop} (hz : z1.length ≤ sizeLine) (h : R ((z1.length : Int) != 0)) : tvw g (.str z1) R := ⟨hz, h⟩
theorem t_tup {R : Bool → Prop} (h : R (!xs.isEmpty)) : tvw g (.tup xs) R := h
theorem t_lst {R : Bool → Prop} (h1 : vw g d = .lst xs) (h : R (!xs.isEmpty)) : tvw g d R := by unfold tvw; rw [h1]; exact h
theorem r_ixL (h1 : vw g d = .lst xs) (h2 : atI xs i = some x) (h : R x g) : qIx d (.int i) g R := by
  unfold qIx; rw [h1]; show got (atI xs i) _; rw [h2]; exact h
theorem r_ixT (h1 : vw g d = .tup xs) (h2 : atI xs i = some x) (h : R x g) : qIx d (.int i) g R := by
  unfold qIx; rw [h1]; show got (atI xs i) _; rw [h2]; exact h
theorem r_ixD {kvs : List (Key × Dv)} {ky : Key} (h1 : vw g d = .dct kvs) (hk : kOf d' = some ky) (h2 : valD kvs ky = some x) (h : R x g) : qIx d d' g R := by
  unfold qIx; rw [h1]; show got ((kOf d').bind _) _; rw [hk]; show got (valD kvs ky) _; rw [h2]; exact h
theorem r_ixS {cc : Nat} (hz : z1.length ≤ sizeLine) (h2 : atI z1.cps.toList i = some cc) (h : R (.str ⟨#[cc]⟩) g) : qIx (.str z1) (.int i) g R := ⟨hz, cc, h2, h⟩
theorem r_inD {kvs : List (Key × Dv)} {ky : Key} (h1 : vw g d' = .dct kvs) (hk : kOf d = some ky) (h : R (.bl (valD kvs ky).isSome) g) : qIn true d d' g R := by
  unfold qIn; rw [h1]; exact ⟨ky, hk, by simpa using h⟩
theorem r_ninD {kvs : List (Key × Dv)} {ky : Key} (h1 : vw g d' = .dct kvs) (hk : kOf d = some ky) (h : R (.bl (!(valD kvs ky).isSome)) g) : qIn false d d' g R := by
  unfold qIn; rw [h1]; exact ⟨ky, hk, by simpa using h⟩
theorem r_sl {l h' : DO} {qs : DSq} (h : a X ev g fun d g1 => l X ev g1 fun lo g2 => h' X ev g2 fun hi g3 => qs d lo hi g3 R) : dSl qs a l h' X ev g R := h
theorem r_doNo {RO : Option Int → Ah → Prop} (h : RO none g) : doNo X ev g RO := h
def qPart (d : Dv) (RO : Option Int → Ah → Prop) (g : Ah) : Prop := match d with
  | .int i => RO (some i) g
  | _ => False
theorem r_doI {RO : Option Int → Ah → Prop} (h : a X ev g fun d g1 => qPart d RO g1) : doI a X ev g RO := h
theorem r_part {RO : Option Int → Ah → Prop} (h : RO (some i) g) : qPart (.int i) RO g := h
theorem r_slL {lo hi : Option Int} (h1 : vs' g d = .lst xs) (h : n (cutX xs lo hi) g R) : qSl n d lo hi g R := by unfold qSl; rw [h1]; exact h
theorem r_slT {lo hi : Option Int} (h : R (.tup (cutX xs lo hi)) g) : qSl n (.tup xs) lo hi g R := h
theorem r_slS {lo hi : Option Int} (hz : z1.length ≤ sizeLine) (h : R (.str (cutS z1 lo hi)) g) : qSl n (.str z1) lo hi g R := ⟨hz, h⟩
/-! objects -/
def fldQ (P : Addr → Prop) (f : Str) (R : DQ) (d : Dv) (g : Ah) : Prop := ∃ p C fs v, d = .ref p ∧ g p = some (.ins C fs) ∧ P C ∧ fs.lookup f = some v ∧ R v g
theorem r_fld {P : Addr → Prop} (h : a X ev g (fldQ P nm R)) : dFld P a nm X ev g R := h
theorem r_fldA {P : Addr → Prop} (h : g p = some (.ins C fs)) (hP : P C) (hl : fs.lookup nm = some v) (k : R v g) : fldQ P nm R (.ref p) g := ⟨p, C, fs, v, rfl, h, hP, hl, k⟩
def setQ (P' : Addr → Prop) (f : Str) (v : Dv) (R : Ah → Prop) (d : Dv) (g : Ah) : Prop := ∃ p C fs, d = .ref p ∧ g p = some (.ins C fs) ∧ P' C ∧ fs.length < 1000 ∧ R (ups g p (.ins C (putFD f v fs)))
theorem r_sfl {P' : Addr → Prop} (h : e (fun x g => P.ex x ev g) ev g fun v g1 => o (fun x g => P.ex x ev g) ev g1 (setQ P' nm v fun g2 => P.nx ev g2)) : sFl P' o e nm P ev g := h
theorem r_setA {P' : Addr → Prop} {R : Ah → Prop} (h : g p = some (.ins C fs)) (hP : P' C) (hl : fs.length < 1000) (k : R (ups g p (.ins C (putFD nm v fs)))) : setQ P' nm v R (.ref p) g := ⟨p, C, fs, rfl, h, hP, hl, k⟩
def setB (C p : Addr) (f : Str) (v : Dv) (R : Ah → Prop) (g : Ah) : Prop := ∃ fs', g p = some (.ins C fs') ∧ fs'.length < 1000 ∧ R (ups g p (.ins C (putFD f v fs')))
def augQ (P' : Addr → Prop) (f : Str) (q : DR2) (E : Ah → DQ → Prop) (R : Ah → Prop) (d : Dv) (g : Ah) : Prop := ∃ p C fs v, d = .ref p ∧ g p = some (.ins C fs) ∧ P' C ∧ fs.lookup f = some v ∧ E g fun y g2 => q v y g2 (fun z g3 => setB C p f z R g3)
theorem r_sfla {P' : Addr → Prop} (h : o (fun x g => P.ex x ev g) ev g (augQ P' nm q (fun g R => e (fun x g => P.ex x ev g) ev g R) fun g2 => P.nx ev g2)) : sFlA P' o q e nm P ev g := h
theorem r_augA {P' : Addr → Prop} {E : Ah → DQ → Prop} {R : Ah → Prop} (h : g p = some (.ins C fs)) (hP : P' C) (hl : fs.lookup nm = some v) (k : E g fun y g2 => q v y g2 (fun z g3 => setB C p nm z R g3)) : augQ P' nm q E R (.ref p) g := ⟨p, C, fs, v, rfl, h, hP, hl, k⟩
theorem r_setB {R : Ah → Prop} (h : g p = some (.ins C fs)) (hl : fs.length < 1000) (k : R (ups g p (.ins C (putFD nm v fs)))) : setB C p nm v R g := ⟨fs, h, hl, k⟩
def methQ (C : Addr) (m : Str) (E : Dv → Ah → Prop) (d : Dv) (g : Ah) : Prop := ∃ p fs, d = .ref p ∧ g p = some (.ins C fs) ∧ fs.lookup m = none ∧ E (.ref p) g
theorem r_meth {S : FD} (h : o X ev g (methQ C nm fun d g1 => ta X ev g1 fun ds g2 => S (d :: ds) g2 R X)) : dMeth C nm S o ta X ev g R := by
  refine h
theorem r_methA {E : Dv → Ah → Prop} (h : g p = some (.ins C fs)) (hl : fs.lookup nm = none) (k : E (.ref p) g) : methQ C nm E (.ref p) g := ⟨p, fs, rfl, h, hl, k⟩
theorem r_call {S : FD} (h : ta X ev g fun ds g1 => S ds g1 R X) : dCall S ta X ev g R := h
theorem r_make {S : FD} (h : ta X ev g fun ds g1 => ∀ p, g1 p = none → S (.ref p :: ds) (ups g1 p (.ins C [])) (fun v g2 => v = .non ∧ R (.ref p) g2) X) : dMake C S ta X ev g R := h
theorem r_b {q : DCq} (h : ta X ev g fun ds g1 => q ds g1 R) : dB q ta X ev g R := h
theorem r_mt {q : DMq} {ty : Ah → Dv → Prop} (h : o X ev g fun d g1 => ty g1 d ∧ ta X ev g1 fun ds g2 => q d ds g2 R) : dMt ty q o ta X ev g R := h
theorem r_isLv (h : vw g d = .lst xs) {A : Prop} (k : A) : isL g d ∧ A := ⟨by unfold isL; rw [h]; exact trivial, k⟩
theorem r_isSv {A : Prop} (k : A) : (fun (_ : Ah) d => isS d) g (.str z1) ∧ A := ⟨trivial, k⟩
theorem r_isDv {kvs : List (Key × Dv)} (h : vw g d = .dct kvs) {A : Prop} (k : A) : isD g d ∧ A := ⟨by unfold isD; rw [h]; exact trivial, k⟩
theorem r_isDkv {kvs : List (Key × Dv)} (h : vw g d = .dct kvs) {A : Prop} (k : A) : isDk g d ∧ A := ⟨.inl (by unfold isD; rw [h]; exact trivial), k⟩
theorem r_get1 (h : o X ev g fun d g1 => isDk g1 d ∧ e X ev g1 fun k g2 => ∃ r, dget g2 d k = some r ∧ R (r.getD .non) g2) : dGet1 o e X ev g R := h
theorem r_get2 (h : o X ev g fun d g1 => isDk g1 d ∧ e X ev g1 fun k g2 => f X ev g2 fun z g3 => ∃ r, dget g3 d k = some r ∧ R (r.getD z) g3) : dGet2 o e f X ev g R := h
theorem dget_of {kvs : List (Key × Dv)} {ky : Key} (h : vw g d = .dct kvs) (hk : kOf d' = some ky) : dget g d d' = some (valD kvs ky) := by unfold dget; rw [h]; show (kOf d').map _ = _; rw [hk]; rfl
theorem r_app (h : g p = some (.lst xs)) (hz : xs.length < 100000) (k : R .non (ups g p (.lst (xs ++ [x])))) : mAppend (.ref p) [x] g R := ⟨p, xs, x, rfl, rfl, h, szl' (Nat.le_of_lt hz), k⟩
theorem r_ext (h : g p = some (.lst xs)) (h2 : vl g d = .lst ys) (hz : xs.length + ys.length ≤ 100000) (k : R .non (ups g p (.lst (xs ++ ys)))) : mExtend (.ref p) [d] g R := ⟨p, xs, d, ys, rfl, rfl, h, h2, szL hz, k⟩
theorem r_len (h1 : vw g d = .lst xs) (h : xs.length ≤ 1152921504606846976 → R (.int xs.length) g) : cLen [d] g R := by
  show (match vw g d with | .lst xs => _ | .tup xs => _ | .str z => _ | .byt z => _ | .dct xs => _ | _ => False); rw [h1]; exact h
theorem r_lenT (h1 : vw g d = .tup xs) (h : xs.length ≤ 1152921504606846976 → R (.int xs.length) g) : cLen [d] g R := by
  show (match vw g d with | .lst xs => _ | .tup xs => _ | .str z => _ | .byt z => _ | .dct xs => _ | _ => False); rw [h1]; exact h
theorem r_lenD {kvs : List (Key × Dv)} (h1 : vw g d = .dct kvs) (h : R (.int kvs.length) g) : cLen [d] g R := by
  show (match vw g d with | .lst xs => _ | .tup xs => _ | .str z => _ | .byt z => _ | .dct xs => _ | _ => False); rw [h1]; exact h
theorem r_lenS (hz : z1.length ≤ sizeLine) (h : R (.int z1.length) g) : cLen [.str z1] g R := ⟨hz, h⟩
theorem r_intI (h : R (.int i) g) : cInt [.int i] g R := h
theorem r_intB (h : R (.int (if bb then 1 else 0)) g) : cInt [.bl bb] g R := h
theorem r_boolI (h : R (.bl (i != 0)) g) : cBool [.int i] g R := h
theorem r_boolB (h : R (.bl bb) g) : cBool [.bl bb] g R := h
theorem r_absI (h : R (.int (if i < 0 then -i else i)) g) : cAbs [.int i] g R := h
theorem r_max (h : R (.int (if j > i then j else i)) g) : cMax [.int i, .int j] g R := h
theorem r_min (h : R (.int (if j < i then j else i)) g) : cMin [.int i, .int j] g R := h
theorem r_list (h1 : vw g d = .lst xs) (h : n xs g R) : cList n [d] g R := by
  show (match vw g d with | .lst xs => _ | .tup xs => _ | .dct kvs => _ | _ => False); rw [h1]; exact h
theorem r_listT (h1 : vw g d = .tup xs) (h : n xs g R) : cList n [d] g R := by
  show (match vw g d with | .lst xs => _ | .tup xs => _ | .dct kvs => _ | _ => False); rw [h1]; exact h
theorem r_listD {kvs : List (Key × Dv)} (h1 : vw g d = .dct kvs) (h : n (kvs.map fun kv => kD kv.1) g R) : cList n [d] g R := by
  show (match vw g d with | .lst xs => _ | .tup xs => _ | .dct kvs => _ | _ => False); rw [h1]; exact h
theorem r_sortI {ns : List Int} (h1 : vw g d = .lst (ns.map Dv.int)) (h : ∀ ns' : List Int, ns'.Perm ns → ns'.Pairwise (· ≤ ·) → n (ns'.map Dv.int) g R) : cSorted n [d] g R := by
  show (match vw g d with | .lst xs => _ | .dct kvs => _ | _ => False); rw [h1]; exact .inl ⟨ns, rfl, h⟩
theorem r_sortS {zs : List Str} (h1 : vw g d = .lst (zs.map Dv.str)) (hl : zs.length < 64) (h : ∀ ns' : List Str, ns'.Perm zs → sortedS ns' = true → n (ns'.map Dv.str) g R) : cSorted n [d] g R := by
  show (match vw g d with | .lst xs => _ | .dct kvs => _ | _ => False); rw [h1]; exact .inr ⟨zs, rfl, hl, h⟩
theorem r_sortDI {ns : List Int} {kvs : List (Key × Dv)} (h1 : vw g d = .dct kvs) (hk : kvs.map (·.1) = ns.map Sum.inl) (hl : ns.length < 64) (h : ∀ ns' : List Int, ns'.Perm ns → ns'.Pairwise (· ≤ ·) → n (ns'.map Dv.int) g R) : cSorted n [d] g R := by
  show (match vw g d with | .lst xs => _ | .dct kvs => _ | _ => False); rw [h1]; exact .inl ⟨ns, hk, hl, h⟩
theorem r_sortDS {zs : List Str} {kvs : List (Key × Dv)} (h1 : vw g d = .dct kvs) (hk : kvs.map (·.1) = zs.map Sum.inr) (hl : zs.length < 64) (h : ∀ ns' : List Str, ns'.Perm zs → sortedS ns' = true → n (ns'.map Dv.str) g R) : cSorted n [d] g R := by
  show (match vw g d with | .lst xs => _ | .dct kvs => _ | _ => False); rw [h1]; exact .inr ⟨zs, hk, hl, h⟩
theorem r_tuple (h1 : vs' g d = .lst xs) (h : R (.tup xs) g) : cTuple [d] g R := by
  show (match vs' g d with | .lst xs => _ | .tup xs => _ | _ => False); rw [h1]; exact h
theorem r_tupleT (h : R (.tup xs) g) : cTuple [.tup xs] g R := h
theorem r_isi {nn : String} (h1 : isiT (vw g d) nn = some bb) (h : R (.bl bb) g) : cIsi [d, .ty nn] g R := by
  show (match isiT (vw g d) nn with | some b => R (.bl b) g | none => False); rw [h1]; exact h
/-! statements -/
theorem r_nx (h : P.nx ev g) : sNx P ev g := h
theorem r_seq (h : s1 { P with nx := s2 P } ev g) : sSeq s1 s2 P ev g := h
theorem r_asg {G : DGt} (h : e (fun x g => P.ex x ev g) ev g fun d g1 => G P.ex d ev g1 P.nx) : sAsg e G P ev g := h
theorem r_drop (h : e (fun x g => P.ex x ev g) ev g fun _ g1 => P.nx ev g1) : sDrop e P ev g := h
theorem r_ret (h : e (fun x g => P.ex x ev g) ev g P.rt) : sRet e P ev g := h
theorem r_retN (h : P.rt .non g) : sRetN P ev g := h
theorem r_brk (h : P.bk ev g) : sBrk P ev g := h
theorem r_ct (h : P.ct ev g) : sCt P ev g := h
theorem r_sif (h : t (fun x g => P.ex x ev g) ev g fun k g1 => if k = true then s1 P ev g1 else s2 P ev g1) : sIf t s1 s2 P ev g := h
theorem r_aug {i : Nat} (h0 : ev[i]? = some (some d)) (h : e (fun x g => P.ex x ev g) ev g fun y g1 => q d y g1 fun z g2 => P.nx (ev.set i (some z)) g2) : sAug i q e P ev g := r_var (X := fun _ _ => False) (R := fun d _ => e (fun x g => P.ex x ev g) ev g fun y g1 => q d y g1 fun z g2 => P.nx (ev.set i (some z)) g2) (g := g) h0 h
theorem r_augS {i : DE} (h : o (fun x g => P.ex x ev g) ev g fun x g1 => i (fun x g => P.ex x ev g) ev g1 fun y g2 => qGet x y g2 fun v g3 => e (fun x g => P.ex x ev g) ev g3 fun w g4 => q v w g4 fun z g5 => putQ x y z g5 fun g6 => P.nx ev g6) : sAugS o i q e P ev g := h
theorem r_rs (h : P.ex ⟨C, []⟩ ev g) : sRs C P ev g := h
theorem r_iaddI (h : R (.int (i + j)) g) : qIAdd (.int i) (.int j) g R := h
theorem r_get (h : qIx (.ref p) d g R) : qGet (.ref p) d g R := ⟨p, rfl, h⟩
theorem r_putL {R : Ah → Prop} {j : Nat} (h1 : g p = some (.lst xs)) (h2 : ixN xs.length i = some j) (h : R (ups g p (.lst (xs.set j v)))) : putQ (.ref p) (.int i) v g R := ⟨p, rfl, by rw [h1]; exact (show ∃ k j, Dv.int i = .int k ∧ ixN xs.length k = some j ∧ R (ups g p (.lst (xs.set j v))) from ⟨i, j, rfl, h2, h⟩)⟩
theorem r_putD {R : Ah → Prop} {kvs : List (Key × Dv)} {ky : Key} (h1 : g p = some (.dct kvs)) (hk : kOf d = some ky) (hz : kvs.length < 100000) (h : R (ups g p (.dct (putD kvs ky v)))) : putQ (.ref p) d v g R := ⟨p, rfl, by rw [h1]; exact (show ∃ k, kOf d = some k ∧ kvs.length < sizeLine ∧ R (ups g p (.dct (putD kvs k v))) from ⟨ky, hk, szl' (Nat.le_of_lt hz), h⟩)⟩
theorem r_gnm {i : Nat} {Y : Xv} {R : Ev → Ah → Prop} (h : R (ev.set i (some d)) g) : gNm i Y d ev g R := h
theorem r_gtp {Gs : DGs} {m : Nat} {Y : Xv} {R : Ev → Ah → Prop} (h1 : vw g d = .tup xs) (hl : xs.length = m) (h : Gs Y xs ev g R) : gTp m Gs Y d ev g R := by
  unfold gTp; rw [h1]; exact ⟨hl, h⟩
theorem r_gco {G : DGt} {Gs : DGs} {Y : Xv} {R : Ev → Ah → Prop} (h : G Y d ev g fun ev1 g1 => Gs Y xs ev1 g1 R) : gCo G Gs Y (d :: xs) ev g R := h
theorem r_gni {Y : Xv} {R : Ev → Ah → Prop} (h : R ev g) : gNi Y [] ev g R := ⟨rfl, h⟩
theorem r_gsb {i : DE} {Y : Xv} {R : Ev → Ah → Prop} (h : o (fun x g => Y x ev g) ev g fun x g1 => i (fun x g => Y x ev g) ev g1 fun y g2 => putQ x y d g2 fun g3 => R ev g3) : gSb o i Y d ev g R := h
theorem r_par {i j : Nat} (h : ta (fun x g => P.ex x ev g) ev g fun ds g1 => ∃ a b, ds = [a, b] ∧ P.nx ((ev.set i (some a)).set j (some b)) g1) : sPar i j ta P ev g := h
theorem r_par2 {A : Dv → Dv → Prop} (h : A x y) : ∃ a b, [x, y] = [a, b] ∧ A a b := ⟨x, y, rfl, h⟩
/-- a loop, a comprehension: what is walked is known -/
def forQ (G : DGt) (B : DS) (P : De) (ev : Ev) (xs : List Dv) (inv : Ah → Prop) (g : Ah) : Prop := dLoop (G P.ex) B P inv xs ev g
theorem r_for {it : DI} {G : DGt} {B : DS} (h : it (fun x g => P.ex x ev g) ev g (forQ G B P ev)) : sFor it G B P ev g := h
def seqQ (Rd : List Dv → (Ah → Prop) → Ah → Prop) (d : Dv) (g : Ah) : Prop := match vw g d with
  | .lst xs => Rd xs (invOf g d) g
  | .tup xs => Rd xs yes g
  | _ => False
theorem r_seqI {Rd : List Dv → (Ah → Prop) → Ah → Prop} (h : a X ev g (seqQ Rd)) : diSeq a X ev g Rd := h
theorem r_seqL {Rd : List Dv → (Ah → Prop) → Ah → Prop} (h : Rd xs yes g) : seqQ Rd (.lst xs) g := h
theorem r_seqF {Rd : List Dv → (Ah → Prop) → Ah → Prop} (h : Rd xs yes g) : seqQ Rd (.fz xs) g := h
theorem r_seqK {Rd : List Dv → (Ah → Prop) → Ah → Prop} (h : Rd xs yes g) : seqQ Rd (.kl xs) g := h
theorem r_seqT {Rd : List Dv → (Ah → Prop) → Ah → Prop} (h : Rd xs yes g) : seqQ Rd (.tup xs) g := h
theorem r_seqKT {Rd : List Dv → (Ah → Prop) → Ah → Prop} (h : Rd xs yes g) : seqQ Rd (.kt xs) g := h
theorem r_seqR {Rd : List Dv → (Ah → Prop) → Ah → Prop} (h1 : g p = some (.lst xs)) (h : Rd xs (fun g' => g' p = g p) g) : seqQ Rd (.ref p) g := by
  unfold seqQ; rw [vw_refE, h1]; exact h
def rng1Q (Rd : List Dv → (Ah → Prop) → Ah → Prop) (ds : List Dv) (g1 : Ah) : Prop := match ds with
  | [.int j] => -(2 ^ 62) ≤ j ∧ j < 2 ^ 62 ∧ Rd (rngD 0 j.toNat) yes g1
  | _ => False
theorem r_rng1 {Rd : List Dv → (Ah → Prop) → Ah → Prop} (h : ta X ev g (rng1Q Rd)) : diR1 ta X ev g Rd := h
theorem r_rng1I {Rd : List Dv → (Ah → Prop) → Ah → Prop} (h1 : -(2 ^ 62) ≤ j) (h2 : j < 2 ^ 62) (h : Rd (rngD 0 j.toNat) yes g) : rng1Q Rd [.int j] g := ⟨h1, h2, h⟩
def rng2Q (Rd : List Dv → (Ah → Prop) → Ah → Prop) (ds : List Dv) (g1 : Ah) : Prop := match ds with
  | [.int i, .int j] => (-(2 ^ 62) ≤ i ∧ i < 2 ^ 62 ∧ -(2 ^ 62) ≤ j ∧ j < 2 ^ 62) ∧ Rd (rngD i (j - i).toNat) yes g1
  | _ => False
theorem r_rng2 {Rd : List Dv → (Ah → Prop) → Ah → Prop} (h : ta X ev g (rng2Q Rd)) : diR2 ta X ev g Rd := h
theorem r_rng2I {Rd : List Dv → (Ah → Prop) → Ah → Prop} (h1 : -(2 ^ 62) ≤ i ∧ i < 2 ^ 62 ∧ -(2 ^ 62) ≤ j ∧ j < 2 ^ 62) (h : Rd (rngD i (j - i).toNat) yes g) : rng2Q Rd [.int i, .int j] g := ⟨h1, h⟩
def lcQ (n : Nw) (T : DTn) (t : DTs) (e : DE) (ev : Ev) (R : DQ) (xs : List Dv) (inv : Ah → Prop) (g : Ah) : Prop := dCo T t e inv xs [] ev g fun ds g2 => n ds g2 R
theorem r_lc {vs : List Nat} {it : DI} {T : DTn} (h : it X ev g (lcQ n T t e (wipeE ev vs) R)) : dLc n vs it T t e X ev g R := h
theorem r_yes (h : RB true g) : dtYes X ev g RB := h
theorem r_tN {j : Nat} {k : Ev → Prop} (h : k (ev.set j (some d))) : tN j d ev k := h
theorem r_try {K : PySem.W.Frag} {C made : Addr} {i : Option Nat} {B : DS} {S : Addr → DS} (h : B { P with ex := fun x ev1 g1 => ∃ b, PySem.W.exmOne K (.ref x.cls) (.ref C) = some b ∧
  (b = true → x = ⟨made, []⟩ ∧ ∀ a, match i with
    | some i => S a { P with nx := fun ev2 g2 => P.nx (ev2.set i none) g2, bk := fun ev2 g2 => P.bk (ev2.set i none) g2, ct := fun ev2 g2 => P.ct (ev2.set i none) g2, ex := fun _ _ _ => False } (ev1.set i (some (.ref a))) g1
    | none => S a { P with ex := fun _ _ _ => False } ev1 g1) ∧ (b = false → P.ex x ev1 g1) } ev g) : sTry K C made i B S P ev g := h
theorem r_isE {a : Addr} {i : Nat} (h0 : ev[i]? = some (some (.ref a))) (h : R (.bl bb) g) : dIsE a i bb X ev g R := r_var (X := fun _ _ => False) (R := fun d _ => d = .ref a ∧ R (.bl bb) g) (g := g) h0 ⟨rfl, h⟩
theorem r_d0F (h : R (.dct []) g) : dD0 dF X ev g R := h
theorem r_d0M (h : ∀ a, g a = none → R (.ref a) (ups g a (.dct []))) : dD0 dM X ev g R := h
theorem r_d0T (h : ∀ a, g a = none → R (.ref a) (ups g a (.dcT []))) : dD0T X ev g R := h
def dspQ (n : Nd) (R : DQ) (ps : List (Dv × Dv)) (g : Ah) : Prop := ∃ kvs : List (Key × Dv), ps = kvs.map (fun kv => (kD kv.1, kv.2)) ∧ kvs.length ≤ 15 ∧ n (kvs.foldl (fun acc kv => putD acc kv.1 kv.2) []) g R
theorem r_dsp {n : Nd} {ps : List (DE × DE)} (h : dPrs ps X ev g (dspQ n R)) : dDsp n ps X ev g R := h
theorem r_prs0 {k : List (Dv × Dv) → Ah → Prop} (h : k [] g) : dPrs [] X ev g k := h
theorem r_prs1 {r : List (DE × DE)} {k : List (Dv × Dv) → Ah → Prop} (h : a X ev g fun x g1 => b X ev g1 fun y g2 => dPrs r X ev g2 fun ps g3 => k ((x, y) :: ps) g3) : dPrs ((a, b) :: r) X ev g k := h
end
theorem vw_lstE {g : Ah} {p : Addr} {xs : List Dv} (h : g p = some (.lst xs)) : vw g (.ref p) = .lst xs := by rw [vw_refE, h]; rfl
theorem vm_lstE {g : Ah} {p : Addr} {xs : List Dv} (h : g p = some (.lst xs)) : vm g (.ref p) = .lst xs := by rw [vm_refE, h]; rfl
theorem vl_lstE {g : Ah} {p : Addr} {xs : List Dv} (h : g p = some (.lst xs)) : vl g (.ref p) = .lst xs := by rw [show vl g (.ref p) = moL p (g p) from rfl, h]; rfl
theorem vs_lstE {g : Ah} {p : Addr} {xs : List Dv} (h : g p = some (.lst xs)) : vs' g (.ref p) = .lst xs := by rw [show vs' g (.ref p) = moL p (g p) from rfl, h]; rfl
theorem vw_dctE {g : Ah} {p : Addr} {xs : List (Key × Dv)} (h : g p = some (.dct xs)) : vw g (.ref p) = .dct xs := by rw [vw_refE, h]; rfl
/-! ### plain data of a known depth -/
def D1 (n : Nat) (d : Dv) : Prop := ∃ p, pd d = some p ∧ Sh n p
def DL (n : Nat) (xs : List Dv) : Prop := ∀ d ∈ xs, D1 n d
theorem pds_cons {d : Dv} {ds : List Dv} {p : PyData} {ps : List PyData} (h : pd d = some p) (k : pds ds = some ps) : pds (d :: ds) = some (p :: ps) := by
  unfold pds
  rw [h, k]
  rfl
theorem DL.pds {n : Nat} : ∀ {xs : List Dv}, DL n xs → ∃ ps, Z.pds xs = some ps ∧ ∀ p ∈ ps, Sh n p
  | [], _ => ⟨[], by unfold Z.pds; rfl, fun p h => nomatch h⟩
  | d :: xs, h => by
    obtain ⟨ps, e, hs⟩ := DL.pds (xs := xs) fun x hx => h x (List.mem_cons_of_mem _ hx)
    obtain ⟨p, e1, h1⟩ := h d List.mem_cons_self
    exact ⟨p :: ps, pds_cons e1 e, fun q hq => by
      rcases List.mem_cons.mp hq with rfl | hq
      · exact h1
      · exact hs q hq⟩
theorem Sh.up {n m : Nat} {p : PyData} (h : Sh n p) (k : n ≤ m) : Sh m p := ⟨h.1, Nat.le_trans h.2 k⟩
theorem D1.up {n m : Nat} {d : Dv} (h : D1 n d) (k : n ≤ m) : D1 m d := by
  obtain ⟨p, e, s⟩ := h
  exact ⟨p, e, s.up k⟩
theorem D1.int {n : Nat} (i : Int) : D1 n (.int i) := ⟨_, rfl, .int i⟩
theorem D1.bl {n : Nat} (i : Bool) : D1 n (.bl i) := ⟨_, rfl, .bl i⟩
theorem D1.non {n : Nat} : D1 n .non := ⟨_, rfl, .non⟩
theorem D1.str {n : Nat} {z : Str} (h : PyData.strOk z = true) : D1 n (.str z) := ⟨_, rfl, .str h⟩
theorem D1.tup {n : Nat} {xs : List Dv} (h : DL n xs) : D1 (n + 1) (.tup xs) := by
  obtain ⟨ps, e, k⟩ := h.pds
  exact ⟨.tuple ps, by unfold pd; rw [e]; rfl, .tuple k⟩
theorem D1.lst {n : Nat} {xs : List Dv} (h : DL n xs) : D1 (n + 1) (.lst xs) := by
  obtain ⟨ps, e, k⟩ := h.pds
  exact ⟨.list ps, by unfold pd; rw [e]; rfl, .list k⟩
theorem DL.nil {n : Nat} : DL n [] := fun d h => nomatch h
theorem DL.cons {n : Nat} {d : Dv} {xs : List Dv} (h : D1 n d) (k : DL n xs) : DL n (d :: xs) := fun x hx => by
  rcases List.mem_cons.mp hx with rfl | hx
  · exact h
  · exact k x hx
theorem DL.app {n : Nat} {xs ys : List Dv} (h : DL n xs) (k : DL n ys) : DL n (xs ++ ys) := fun x hx => by
  rcases List.mem_append.mp hx with hx | hx
  · exact h x hx
  · exact k x hx
theorem DL.sub {n : Nat} {xs ys : List Dv} (h : DL n xs) (k : ∀ x ∈ ys, x ∈ xs) : DL n ys := fun x hx => h x (k x hx)
section
variable {g : Ah} {R : DQ} {d d' x : Dv} {n : Nat}
/-- two readings of the same data -/
theorem r_eqSame (e1 : vl g d = x) (e2 : vl g d' = x) (h : D1 n x) (hn : n ≤ 64) (k : R (.bl true) g) : qEq true d d' g R := by
  obtain ⟨p, e, s⟩ := h
  refine r_eqD (p1 := p) (p2 := p) (by rw [pvw, e1, e]) (by rw [pvw, e2, e]) (s.ok hn) (s.ok hn) ?_
  rw [s.refl]
  exact k
theorem r_neSame (e1 : vl g d = x) (e2 : vl g d' = x) (h : D1 n x) (hn : n ≤ 64) (k : R (.bl false) g) : qEq false d d' g R := by
  obtain ⟨p, e, s⟩ := h
  refine r_neD (p1 := p) (p2 := p) (by rw [pvw, e1, e]) (by rw [pvw, e2, e]) (s.ok hn) (s.ok hn) ?_
  rw [s.refl]
  exact k
/-- what repr shows shortly -/
structure Prn (n w : Nat) (p : PyData) : Prop where
  s : Sh n p
  a : p.showable = true
  b : p.leavesShort 64 = true
  c : p.weight ≤ w
theorem Prn.int {w : Nat} {i : Int} (h1 : -999999999999 ≤ i) (h2 : i ≤ 999999999999) (hw : 60 ≤ w) : Prn n w (.int i) := by
  have hl : i.natAbs.log2 < 40 := by
    by_cases h0 : i.natAbs = 0
    · rw [h0]; decide
    · exact (Nat.log2_lt h0).mpr (by omega)
  refine ⟨.int i, ?_, ?_, ?_⟩
  · simp only [PyData.showable, decide_eq_true_eq]; omega
  · simp only [PyData.leavesShort, decide_eq_true_eq]; exact Nat.le_trans (PyData.shown_int_le2 h1 h2) (by decide)
  · simp only [PyData.weight]; split <;> omega
theorem Prn.big {w : Nat} {i : Int} (h : i.natAbs < 10 ^ 60) (hw : 201 ≤ w) : Prn n w (.int i) := by
  have hl : i.natAbs.log2 < 200 := by
    by_cases h0 : i.natAbs = 0
    · rw [h0]; decide
    · exact (Nat.log2_lt h0).mpr (Nat.lt_trans h (by decide))
  refine ⟨.int i, ?_, ?_, ?_⟩
  · simp only [PyData.showable, decide_eq_true_eq]; omega
  · simp only [PyData.leavesShort, decide_eq_true_eq]
    have e := int_text_length_le10 (k := 60) (by decide) h
    show (Str.ofString (toString i)).length ≤ 64
    rw [PySem.ofString_length]
    omega
  · simp only [PyData.weight]; split <;> omega
theorem Prn.bl {w : Nat} {b : Bool} : Prn n w (.bool b) := ⟨.bl b, by simp [PyData.showable], by simp [PyData.leavesShort], by simp [PyData.weight]⟩
theorem Prn.non {w : Nat} : Prn n w .none := ⟨.non, by simp [PyData.showable], by simp [PyData.leavesShort], by simp [PyData.weight]⟩
theorem showableAll_mem : ∀ {xs : List PyData}, (∀ p ∈ xs, p.showable = true) → PyData.showableAll xs = true
  | [], _ => by simp [PyData.showableAll]
  | x :: xs, h => by
    simp only [PyData.showableAll, Bool.and_eq_true]
    exact ⟨h x List.mem_cons_self, showableAll_mem fun p hp => h p (List.mem_cons_of_mem _ hp)⟩
theorem leavesAll_mem : ∀ {xs : List PyData}, (∀ p ∈ xs, p.leavesShort 64 = true) → PyData.leavesShortAll 64 xs = true
  | [], _ => by simp [PyData.leavesShortAll]
  | x :: xs, h => by
    simp only [PyData.leavesShortAll, Bool.and_eq_true]
    exact ⟨h x List.mem_cons_self, leavesAll_mem fun p hp => h p (List.mem_cons_of_mem _ hp)⟩
theorem weightAll_mem {w : Nat} : ∀ {xs : List PyData}, (∀ p ∈ xs, p.weight ≤ w) → PyData.weightAll xs ≤ xs.length * (w + 1)
  | [], _ => by simp [PyData.weightAll]
  | x :: xs, h => by
    have h1 := h x List.mem_cons_self
    have h2 := weightAll_mem fun p hp => h p (List.mem_cons_of_mem _ hp)
    simp only [PyData.weightAll, List.length_cons]
    rw [Nat.succ_mul]
    omega
theorem Prn.list {w W : Nat} {xs : List PyData} (h : ∀ p ∈ xs, Prn n w p) (hw : xs.length * (w + 1) ≤ W) : Prn (n + 1) W (.list xs) :=
  ⟨.list fun p hp => (h p hp).s, by simp only [PyData.showable]; exact showableAll_mem fun p hp => (h p hp).a, by simp only [PyData.leavesShort]; exact leavesAll_mem fun p hp => (h p hp).b,
   by simp only [PyData.weight]; exact Nat.le_trans (weightAll_mem fun p hp => (h p hp).c) hw⟩
theorem Prn.tuple {w W : Nat} {xs : List PyData} (h : ∀ p ∈ xs, Prn n w p) (hw : xs.length * (w + 1) ≤ W) : Prn (n + 1) W (.tuple xs) :=
  ⟨.tuple fun p hp => (h p hp).s, by simp only [PyData.showable]; exact showableAll_mem fun p hp => (h p hp).a, by simp only [PyData.leavesShort]; exact leavesAll_mem fun p hp => (h p hp).b,
   by simp only [PyData.weight]; exact Nat.le_trans (weightAll_mem fun p hp => (h p hp).c) hw⟩
theorem r_reprL {xs : List Dv} {ps : List PyData} {w : Nat} (e : pds xs = some ps) (h : Prn n w (.list ps)) (hn : n ≤ 40) (hw : w ≤ 1500) (k : R (.str (PyData.list ps).shown) g) : cRepr [.lst xs] g R :=
  ⟨.list ps, by unfold pd; rw [e]; rfl, h.a, PyData.hasDict_of_canLay _ h.s.1, Nat.le_trans h.s.2 hn, Nat.le_trans (PyData.shown_le 64 (by decide) _ h.b) (by have := h.c; omega), k⟩
theorem r_reprT {xs : List Dv} {ps : List PyData} {w : Nat} (e : pds xs = some ps) (h : Prn n w (.tuple ps)) (hn : n ≤ 40) (hw : w ≤ 1500) (k : R (.str (PyData.tuple ps).shown) g) : cRepr [.tup xs] g R :=
  ⟨.tuple ps, by unfold pd; rw [e]; rfl, h.a, PyData.hasDict_of_canLay _ h.s.1, Nat.le_trans h.s.2 hn, Nat.le_trans (PyData.shown_le 64 (by decide) _ h.b) (by have := h.c; omega), k⟩
end
theorem log2_small {i : Int} (h : i.natAbs < 2 ^ 70) : i.natAbs.log2 < 70 := by
  by_cases h0 : i.natAbs = 0
  · rw [h0]; decide
  · exact (Nat.log2_lt h0).mpr h
theorem cmul_small {i j : Int} (h1 : i.natAbs < 2 ^ 70) (h2 : j.natAbs < 2 ^ 70) : CMulW i j := by
  have := log2_small h1
  have := log2_small h2
  unfold CMulW
  omega
theorem cdiv_small {i j : Int} (h1 : 0 < j) (h2 : j < 2 ^ 70) : CDivW i j := by
  refine ⟨h1, ?_⟩
  have := log2_small (i := j) (by omega)
  omega
theorem cpow_small {i j : Int} (h1 : 0 ≤ j) (h2 : j ≤ 1000000) (h3 : i.natAbs < 2 ^ 64) : CPow i j := ⟨h1, h2, h3⟩
theorem r_dec {P : Prop} [Decidable P] {A B : Prop} (h1 : P → A) (h2 : ¬P → B) : if decide P = true then A else B := by
  by_cases h : P
  · rw [if_pos (decide_eq_true h)]; exact h1 h
  · rw [if_neg (by rw [decide_eq_true_eq]; exact h)]; exact h2 h
theorem r_ite {b : Bool} {A B : Prop} (h1 : b = true → A) (h2 : b = false → B) : if b = true then A else B := by
  cases b
  · rw [if_neg (fun z => nomatch z)]; exact h2 rfl
  · rw [if_pos rfl]; exact h1 rfl
theorem r_iteN {b : Bool} {A B : Prop} (h1 : b = false → A) (h2 : b = true → B) : if (!b) = true then A else B := by
  cases b
  · exact h1 rfl
  · exact h2 rfl
theorem r_ifT {b : Bool} {A B : Prop} (h : b = true) (k : A) : if b = true then A else B := by rw [if_pos h]; exact k
theorem r_ifF {b : Bool} {A B : Prop} (h : b = false) (k : B) : if b = true then A else B := by rw [if_neg (by rw [h]; exact fun z => nomatch z)]; exact k
/-- a statement up to what is known behind it -/
theorem r_cut {s1 s2 : DS} {P : De} {ev : Ev} {g : Ah} (M : Ev → Ah → Prop) (h1 : ∀ N : Ev → Ah → Prop, (∀ ev g, M ev g → N ev g) → s1 { P with nx := N } ev g) (h2 : ∀ ev g, M ev g → s2 P ev g) : sSeq s1 s2 P ev g := h1 (s2 P) h2
theorem r_neNil {g : Ah} {R : DQ} {d d' : Dv} {n : Nat} {xs : List Dv} (e1 : vl g d = .lst xs) (e2 : vl g d' = .lst []) (h : DL n xs) (hn : n < 64) (k : R (.bl (!xs.isEmpty)) g) : qEq false d d' g R := by
  obtain ⟨ps, e, s⟩ := h.pds
  refine r_neD (p1 := .list ps) (p2 := .list []) (by rw [pvw, e1]; unfold pd; rw [e]; rfl) (by rw [pvw, e2]; rfl) ((Sh.list (n := n) s).ok hn) ((Sh.list (n := 0) (ds := []) (by intro d hd; cases hd)).ok) ?_
  rw [show (!PyData.eqv (.list ps) (.list [])) = !xs.isEmpty by
    cases xs with
    | nil => unfold pds at e; cases e; simp [PyData.eqv, PyData.eqvAll]
    | cons x xs =>
      unfold pds at e
      cases q : pd x with
      | none => rw [q] at e; cases e
      | some p =>
        rw [q] at e
        obtain ⟨qs, e1, rfl⟩ := map_some e
        simp [PyData.eqv, PyData.eqvAll]]
  exact k
theorem r_pop0 {g : Ah} {R : DQ} {p : Addr} {x : Dv} {xs : List Dv} (h : g p = some (.lst (x :: xs))) (k : R x (ups g p (.lst xs))) : mPopAt (.ref p) [.int 0] g R :=
  ⟨p, x :: xs, 0, 0, x, rfl, rfl, h, by decide, by decide, by simp [seqIndex?], rfl, k⟩
theorem DL.ints {n : Nat} (ns : List Int) : DL n (ns.map Dv.int) := fun d h => by
  obtain ⟨i, _, rfl⟩ := List.mem_map.mp h
  exact .int i
theorem cutX_len (xs : List Dv) (lo hi : Option Int) : (cutX xs lo hi).length ≤ xs.length := by
  unfold cutX
  rw [List.length_take, List.length_drop]
  omega
theorem cutX_mem {xs : List Dv} {lo hi : Option Int} {x : Dv} (h : x ∈ cutX xs lo hi) : x ∈ xs := List.mem_of_mem_drop (List.mem_of_mem_take h)
theorem r_nM {g : Ah} {R : DQ} {xs : List Dv} (h : ∀ a, g a = none → R (.ref a) (ups g a (.lst xs))) : nM xs g R := h
theorem ups_none {g : Ah} {p a : Addr} {m : Mo} (h : ups g p m a = none) : a ≠ p ∧ g a = none := by
  by_cases e : a = p
  · subst e
    rw [ups_same] at h
    cases h
  · rw [ups_ne e] at h
    exact ⟨e, h⟩
theorem Agr.fresh {S : List Addr} {g g' : Ah} {a : Addr} (ag : Agr S g g') (h : g' a = none) : a ∈ S ∨ g a = none := by
  by_cases e : a ∈ S
  · exact .inl e
  · refine .inr ?_
    by_cases n : g a = none
    · exact n
    · rw [ag a e n] at h
      exact h
theorem Agr.fr {S : List Addr} {g g' : Ah} {a : Addr} {m : Mo} (h : Agr S g g') (hq : a ∈ S ∨ g a = Option.none) : Agr S g (Z.ups g' a m) := by
  rcases hq with z | z
  · exact h.ups z
  · exact h.new z
theorem ne_new {g : Ah} {p a : Addr} {m : Mo} (h : g p = some m) (k : g a = none) : a ≠ p := by
  rintro rfl
  rw [h] at k
  cases k
theorem r_isiL {g : Ah} {R : DQ} {d : Dv} {xs : List Dv} {nn : String} {bb : Bool} (h0 : vw g d = .lst xs) (h1 : isiT (.lst xs) nn = some bb) (h : R (.bl bb) g) : cIsi [d, .ty nn] g R := r_isi (by rw [h0]; exact h1) h
theorem r_isiV {g : Ah} {R : DQ} {d x : Dv} {nn : String} {bb : Bool} (h0 : vw g d = x) (h1 : isiT x nn = some bb) (h : R (.bl bb) g) : cIsi [d, .ty nn] g R := r_isi (by rw [h0]; exact h1) h
theorem r_isiD {g : Ah} {R : DQ} {d : Dv} {xs : List (Key × Dv)} {nn : String} {bb : Bool} (h0 : vw g d = .dct xs) (h1 : isiT (.dct xs) nn = some bb) (h : R (.bl bb) g) : cIsi [d, .ty nn] g R := r_isi (by rw [h0]; exact h1) h
theorem r_coC {T : DTn} {t : DTs} {e : DE} {inv : Ah → Prop} {x : Dv} {xs acc : List Dv} {ev : Ev} {g : Ah} {k : List Dv → Ah → Prop} (h0 : inv g) (h : T x ev fun ev1 => t Y0 ev1 g fun b g1 => if b = true then e Y0 ev1 g1 fun d g2 => acc.length < sizeLine ∧ dCo T t e inv xs (acc ++ [d]) ev g2 k else dCo T t e inv xs acc ev g1 k) : dCo T t e inv (x :: xs) acc ev g k := ⟨h0, h⟩
theorem r_coN {T : DTn} {t : DTs} {e : DE} {inv : Ah → Prop} {acc : List Dv} {ev : Ev} {g : Ah} {k : List Dv → Ah → Prop} (h0 : inv g) (h : k acc g) : dCo T t e inv [] acc ev g k := ⟨h0, h⟩
theorem r_dsp' {n : Nd} {R : DQ} {ps : List (Dv × Dv)} {g : Ah} (kvs : List (Key × Dv)) (h : ps = kvs.map (fun kv => (kD kv.1, kv.2))) (hl : kvs.length ≤ 15) (k : n (kvs.foldl (fun acc kv => putD acc kv.1 kv.2) []) g R) : dspQ n R ps g := ⟨kvs, h, hl, k⟩
theorem r_dM {g : Ah} {R : DQ} {kvs : List (Key × Dv)} (h : ∀ a, g a = none → R (.ref a) (ups g a (.dct kvs))) : dM kvs g R := h
theorem rngD_some {x : Dv} : ∀ {n i : Nat} {lo : Int}, (rngD lo n)[i]? = some x → x = .int (lo + i) ∧ i < n
  | 0, i, lo, h => by simp [rngD] at h
  | n + 1, 0, lo, h => by
    simp only [rngD, List.getElem?_cons_zero, Option.some.injEq] at h
    exact ⟨by rw [← h]; simp, Nat.succ_pos _⟩
  | n + 1, i + 1, lo, h => by
    simp only [rngD, List.getElem?_cons_succ] at h
    obtain ⟨e, l⟩ := rngD_some h
    exact ⟨by rw [e]; congr 1; push_cast; omega, Nat.succ_lt_succ l⟩
theorem r_repr {g : Ah} {R : DQ} {d : Dv} {p : PyData} {n w : Nat} (e : pd d = some p) (h : Prn n w p) (hn : n ≤ 40) (hw : w ≤ 1500) (k : R (.str p.shown) g) : cRepr [d] g R :=
  ⟨p, e, h.a, PyData.hasDict_of_canLay _ h.s.1, Nat.le_trans h.s.2 hn, Nat.le_trans (PyData.shown_le 64 (by decide) _ h.b) (by have := h.c; omega), k⟩
/-! ### objects beside each other -/
structure Ob where
  S : List Addr
  P : Ah → Prop
structure Ob.ok (o : Ob) (g : Ah) : Prop where
  p : o.P g
  al : ∀ a ∈ o.S, g a ≠ none
  st : ∀ g', (∀ a ∈ o.S, g' a = g a) → o.P g'
structure Wd (g : Ah) (os : List Ob) : Prop where
  ok : ∀ o ∈ os, o.ok g
  pw : List.Pairwise (fun (o q : Ob) => ∀ a ∈ o.S, a ∉ q.S) os
theorem Ob.ok.agr {o : Ob} {g g' : Ah} {T : List Addr} (h : o.ok g) (k : Agr T g g') (d : ∀ a ∈ o.S, a ∉ T) : o.ok g' := by
  have e : ∀ a ∈ o.S, g' a = g a := fun a ha => k a (d a ha) (h.al a ha)
  exact ⟨h.st g' e, fun a ha => by rw [e a ha]; exact h.al a ha, fun g2 h2 => h.st g2 fun a ha => by rw [h2 a ha, e a ha]⟩
theorem Wd.nil {g : Ah} : Wd g [] := ⟨(fun o h => by cases h), List.Pairwise.nil⟩
theorem Wd.agr0 {g g' : Ah} {os : List Ob} (h : Wd g os) (k : Agr [] g g') : Wd g' os := ⟨fun o ho => (h.ok o ho).agr k (fun _ _ z => nomatch z), h.pw⟩
theorem Wd.add {g g' : Ah} {os : List Ob} {o : Ob} (h : Wd g os) (k : Agr [] g g') (ho : o.ok g') (hn : ∀ a ∈ o.S, g a = none) : Wd g' (o :: os) := by
  refine ⟨fun q hq => ?_, List.pairwise_cons.mpr ⟨fun q hq a ha hb => (h.ok q hq).al a hb (hn a ha), h.pw⟩⟩
  rcases List.mem_cons.mp hq with rfl | hq
  · exact ho
  · exact (h.agr0 k).ok q hq
theorem Wd.chg {g g' : Ah} : ∀ {os : List Ob} {o o' : Ob} (i : Nat), Wd g os → os[i]? = some o → Agr o.S g g' → o'.ok g' → (∀ a ∈ o'.S, a ∈ o.S ∨ g a = none) → Wd g' (os.set i o')
  | [], _, _, _, _, e, _, _, _ => nomatch e
  | q :: os, o, o', 0, h, e, k, ho, hs => by
    cases e
    have hp := List.pairwise_cons.mp h.pw
    refine ⟨fun r hr => ?_, List.pairwise_cons.mpr ⟨fun r hr a ha hb => ?_, hp.2⟩⟩
    · rcases List.mem_cons.mp hr with rfl | hr
      · exact ho
      · exact (h.ok r (List.mem_cons_of_mem _ hr)).agr k fun a ha hb => hp.1 r hr a hb ha
    · rcases hs a ha with z | z
      · exact hp.1 r hr a z hb
      · exact (h.ok r (List.mem_cons_of_mem _ hr)).al a hb z
  | q :: os, o, o', i + 1, h, e, k, ho, hs => by
    have hp := List.pairwise_cons.mp h.pw
    have hm : o ∈ os := List.mem_of_getElem? (i := i) (by simpa using e)
    have t : Wd g' (os.set i o') := Wd.chg i ⟨fun r hr => h.ok r (List.mem_cons_of_mem _ hr), hp.2⟩ (by simpa using e) k ho hs
    refine ⟨fun r hr => ?_, List.pairwise_cons.mpr ⟨fun r hr a ha hb => ?_, t.pw⟩⟩
    · rcases List.mem_cons.mp hr with rfl | hr
      · exact (h.ok r List.mem_cons_self).agr k fun a ha hb => hp.1 o hm a ha hb
      · exact t.ok r hr
    · rcases List.mem_or_eq_of_mem_set hr with hr | rfl
      · exact hp.1 r hr a ha hb
      · rcases hs a hb with z | z
        · exact hp.1 o hm a ha z
        · exact (h.ok q List.mem_cons_self).al a ha z
theorem Wd.get {g : Ah} {os : List Ob} {o : Ob} (h : Wd g os) (i : Nat) (e : os[i]? = some o) : o.P g := (h.ok o (List.mem_of_getElem? e)).p
/-! ### lists of lists, each of which changes -/
section
variable {a r q : Addr} {rs : List Addr} {xss : List (List Dv)} {xs ys : List Dv} {g g' : Ah} {i : Nat}
structure LL (a : Addr) (rs : List Addr) (xss : List (List Dv)) (g : Ah) : Prop where
  h : g a = some (.lst (rs.map Dv.ref))
  l : rs.length = xss.length
  r : ∀ (i : Nat) (r : Addr) (xs : List Dv), rs[i]? = some r → xss[i]? = some xs → g r = some (.lst xs)
  n : a ∉ rs
  nd : rs.Nodup
def llO (a : Addr) (rs : List Addr) (xss : List (List Dv)) : Ob := ⟨a :: rs, LL a rs xss⟩
theorem LL.ok (h : LL a rs xss g) : (llO a rs xss).ok g := by
  refine ⟨h, fun b hb => ?_, fun g' e => ⟨?_, h.l, fun i r xs h1 h2 => ?_, h.n, h.nd⟩⟩
  · rcases List.mem_cons.mp hb with rfl | hb
    · rw [h.h]; exact fun z => nomatch z
    · obtain ⟨i, hi, e⟩ := List.getElem_of_mem hb
      have e1 : rs[i]? = some b := by rw [List.getElem?_eq_getElem hi, e]
      have hx : i < xss.length := by rw [← h.l]; exact hi
      rw [h.r i b _ e1 (List.getElem?_eq_getElem hx)]
      exact fun z => nomatch z
  · rw [e a List.mem_cons_self]; exact h.h
  · rw [e r (List.mem_cons_of_mem _ (List.mem_of_getElem? h1))]
    exact h.r i r xs h1 h2
theorem LL.at (h : LL a rs xss g) (e : xss[i]? = some xs) : ∃ r, rs[i]? = some r ∧ (rs.map Dv.ref)[i]? = some (.ref r) ∧ g r = some (.lst xs) ∧ r ≠ a ∧ r ∈ rs := by
  have hi : i < xss.length := by
    rcases Nat.lt_or_ge i xss.length with z | z
    · exact z
    · rw [List.getElem?_eq_none z] at e; cases e
  have hr : i < rs.length := by rw [h.l]; exact hi
  have e1 : rs[i]? = some rs[i] := List.getElem?_eq_getElem hr
  refine ⟨rs[i], e1, by rw [List.getElem?_map, e1]; rfl, h.r i _ _ e1 e, fun z => ?_, List.getElem_mem hr⟩
  have := List.getElem_mem hr
  rw [z] at this
  exact h.n this
theorem nodup_at {rs : List Addr} (h : rs.Nodup) {i j : Nat} {r : Addr} (h1 : rs[i]? = some r) (h2 : rs[j]? = some r) : i = j := by
  have hi : i < rs.length := by
    rcases Nat.lt_or_ge i rs.length with z | z
    · exact z
    · rw [List.getElem?_eq_none z] at h1; cases h1
  exact (List.getElem?_inj hi h).mp (h1.trans h2.symm)
/-- an inner list changes -/
theorem LL.inner (h : LL a rs xss g) (e : rs[i]? = some r) : LL a rs (xss.set i ys) (ups g r (.lst ys)) := by
  have hm : r ∈ rs := List.mem_of_getElem? e
  have ne : r ≠ a := fun z => h.n (z ▸ hm)
  refine ⟨(ups_ne (Ne.symm ne)).trans h.h, by rw [List.length_set]; exact h.l, fun j r' xs h1 h2 => ?_, h.n, h.nd⟩
  by_cases z : i = j
  · subst z
    rw [e] at h1
    cases h1
    have hl : i < xss.length := by
      rcases Nat.lt_or_ge i xss.length with z | z
      · exact z
      · rw [List.getElem?_eq_none (by rw [List.length_set]; exact z)] at h2; cases h2
    rw [List.getElem?_set_self hl] at h2
    cases h2
    exact ups_same
  · rw [List.getElem?_set_ne z] at h2
    rw [ups_ne fun w => z (nodup_at h.nd (by rw [e, ← w]) h1)]
    exact h.r j r' xs h1 h2
theorem nodup_set {rs : List Addr} (h : rs.Nodup) {q : Addr} (hq : q ∉ rs) (i : Nat) : (rs.set i q).Nodup := by
  induction rs generalizing i with
  | nil => exact h
  | cons x rs ih =>
    have h' := List.nodup_cons.mp h
    cases i with
    | zero => exact List.nodup_cons.mpr ⟨fun z => hq (List.mem_cons_of_mem _ z), h'.2⟩
    | succ i =>
      refine List.nodup_cons.mpr ⟨fun z => ?_, ih h'.2 (fun z => hq (List.mem_cons_of_mem _ z)) i⟩
      rcases List.mem_or_eq_of_mem_set z with z | z
      · exact h'.1 z
      · exact hq (z ▸ List.mem_cons_self)
/-- an inner list is another one now -/
theorem LL.swap (h : LL a rs xss g) (hq : g q = none) (hi : i < xss.length) : LL a (rs.set i q) (xss.set i ys) (ups (ups g q (.lst ys)) a (.lst ((rs.map Dv.ref).set i (.ref q)))) := by
  have na : q ≠ a := ne_new h.h hq
  have nr : ∀ (j : Nat) (r : Addr), rs[j]? = some r → q ≠ r := fun j r e => by
    have hj : j < rs.length := by
      rcases Nat.lt_or_ge j rs.length with z | z
      · exact z
      · rw [List.getElem?_eq_none z] at e; cases e
    exact ne_new (h.r j r _ e (List.getElem?_eq_getElem (by rw [← h.l]; exact hj))) hq
  have nm : q ∉ rs := fun z => by
    obtain ⟨j, hj, e⟩ := List.getElem_of_mem z
    exact nr j q (by rw [List.getElem?_eq_getElem hj, e]) rfl
  refine ⟨by rw [ups_same, List.map_set], by rw [List.length_set, List.length_set]; exact h.l, fun j r xs h1 h2 => ?_, fun z => ?_, nodup_set h.nd nm i⟩
  · by_cases e : i = j
    · subst e
      rw [List.getElem?_set_self hi] at h2
      rw [List.getElem?_set_self (by rw [h.l]; exact hi)] at h1
      cases h1; cases h2
      exact (ups_ne na).trans ups_same
    · rw [List.getElem?_set_ne e] at h1 h2
      have n1 : r ≠ a := fun z => h.n (z ▸ List.mem_of_getElem? h1)
      exact (ups_ne n1).trans ((ups_ne (Ne.symm (nr j r h1))).trans (h.r j r xs h1 h2))
  · rcases List.mem_or_eq_of_mem_set z with z | z
    · exact h.n z
    · exact na z.symm
/-- a further inner list -/
theorem LL.push (h : LL a rs xss g) (hq : g q = none) : LL a (rs ++ [q]) (xss ++ [ys]) (ups (ups g q (.lst ys)) a (.lst (rs.map Dv.ref ++ [.ref q]))) := by
  have na : q ≠ a := ne_new h.h hq
  have nr : ∀ (j : Nat) (r : Addr), rs[j]? = some r → q ≠ r := fun j r e => by
    have hj : j < rs.length := by
      rcases Nat.lt_or_ge j rs.length with z | z
      · exact z
      · rw [List.getElem?_eq_none z] at e; cases e
    exact ne_new (h.r j r _ e (List.getElem?_eq_getElem (by rw [← h.l]; exact hj))) hq
  have nm : q ∉ rs := fun z => by
    obtain ⟨j, hj, e⟩ := List.getElem_of_mem z
    exact nr j q (by rw [List.getElem?_eq_getElem hj, e]) rfl
  refine ⟨by rw [ups_same, List.map_append]; rfl, by rw [List.length_append, List.length_append, h.l]; rfl, fun j r xs h1 h2 => ?_, fun z => ?_, ?_⟩
  · by_cases e : j < rs.length
    · rw [List.getElem?_append_left e] at h1
      rw [List.getElem?_append_left (by rw [← h.l]; exact e)] at h2
      have n1 : r ≠ a := fun z => h.n (z ▸ List.mem_of_getElem? h1)
      exact (ups_ne n1).trans ((ups_ne (Ne.symm (nr j r h1))).trans (h.r j r xs h1 h2))
    · rw [List.getElem?_append_right (by omega)] at h1
      rw [List.getElem?_append_right (by rw [← h.l]; omega), ← h.l] at h2
      have z : j - rs.length = 0 := by
        rcases Nat.eq_zero_or_pos (j - rs.length) with z | z
        · exact z
        · rw [List.getElem?_eq_none (by show [q].length ≤ _; exact z)] at h1; cases h1
      rw [z] at h1 h2
      cases h1; cases h2
      exact (ups_ne na).trans ups_same
  · rcases List.mem_append.mp z with z | z
    · exact h.n z
    · exact na (List.mem_singleton.mp z).symm
  · refine List.nodup_append.mpr ⟨h.nd, List.nodup_cons.mpr ⟨(fun z => nomatch z), List.nodup_nil⟩, fun x hx y hy => ?_⟩
    cases List.mem_singleton.mp hy
    rintro rfl
    exact nm hx
end
/-! what changes at one place -/
def lstO (a : Addr) (xs : List Dv) : Ob := ⟨[a], fun g => g a = some (.lst xs)⟩
theorem lst_ok {a : Addr} {xs : List Dv} {g : Ah} (h : g a = some (.lst xs)) : (lstO a xs).ok g := by
  refine ⟨h, fun b hb => ?_, fun g' e => ?_⟩
  · cases List.mem_singleton.mp hb; rw [h]; exact fun z => nomatch z
  · show g' a = _
    rw [e a (List.mem_singleton.mpr rfl)]; exact h
theorem Wd.upd {g : Ah} {os : List Ob} {o o' : Ob} {a : Addr} {m : Mo} (w : Wd g os) (i : Nat) (e : os[i]? = some o) (ha : a ∈ o.S) (ho : o'.ok (ups g a m)) (hs : ∀ b ∈ o'.S, b ∈ o.S) : Wd (ups g a m) (os.set i o') :=
  w.chg i e (Agr.refl.ups ha) ho fun b hb => .inl (hs b hb)
theorem Wd.new {g : Ah} {os : List Ob} {a : Addr} {m : Mo} (w : Wd g os) (ha : g a = none) : Wd (ups g a m) os := w.agr0 (Agr.refl.new ha)
theorem Wd.inner {g : Ah} {os : List Ob} {a r : Addr} {rs : List Addr} {xss : List (List Dv)} {ys : List Dv} {j : Nat} (w : Wd g os) (i : Nat) (e : os[i]? = some (llO a rs xss)) (hr : rs[j]? = some r) : Wd (ups g r (.lst ys)) (os.set i (llO a rs (xss.set j ys))) :=
  w.upd i e (List.mem_cons_of_mem _ (List.mem_of_getElem? hr)) (LL.inner (w.get i e) hr).ok fun _ hb => hb
theorem Wd.swap {g : Ah} {os : List Ob} {a q : Addr} {rs : List Addr} {xss : List (List Dv)} {ys : List Dv} {j : Nat} (w : Wd g os) (i : Nat) (e : os[i]? = some (llO a rs xss)) (hq : g q = none) (hj : j < xss.length) : Wd (ups (ups g q (.lst ys)) a (.lst ((rs.map Dv.ref).set j (.ref q)))) (os.set i (llO a (rs.set j q) (xss.set j ys))) :=
  w.chg i e ((Agr.refl.new hq).ups List.mem_cons_self) (LL.swap (w.get i e) hq hj).ok fun b hb => by
    rcases List.mem_cons.mp hb with rfl | hb
    · exact .inl List.mem_cons_self
    · rcases List.mem_or_eq_of_mem_set hb with hb | rfl
      · exact .inl (List.mem_cons_of_mem _ hb)
      · exact .inr hq
theorem Wd.push {g : Ah} {os : List Ob} {a q : Addr} {rs : List Addr} {xss : List (List Dv)} {ys : List Dv} (w : Wd g os) (i : Nat) (e : os[i]? = some (llO a rs xss)) (hq : g q = none) : Wd (ups (ups g q (.lst ys)) a (.lst (rs.map Dv.ref ++ [.ref q]))) (os.set i (llO a (rs ++ [q]) (xss ++ [ys]))) :=
  w.chg i e ((Agr.refl.new hq).ups List.mem_cons_self) (LL.push (w.get i e) hq).ok fun b hb => by
    rcases List.mem_cons.mp hb with rfl | hb
    · exact .inl List.mem_cons_self
    · rcases List.mem_append.mp hb with hb | hb
      · exact .inl (List.mem_cons_of_mem _ hb)
      · cases List.mem_singleton.mp hb
        exact .inr hq
theorem Wd.drop {g : Ah} {o : Ob} {os : List Ob} (w : Wd g (o :: os)) : Wd g os := ⟨fun q hq => w.ok q (List.mem_cons_of_mem _ hq), (List.pairwise_cons.mp w.pw).2⟩
theorem LL.nil {a : Addr} {g : Ah} (h : g a = some (.lst [])) : LL a [] [] g := ⟨h, rfl, fun i r xs e => by simp at e, (fun z => nomatch z), List.nodup_nil⟩
theorem ixN_nat {n i : Nat} (h : i < n) : ixN n (i : Int) = some i := by
  unfold ixN
  rw [if_pos (by omega), if_pos (by omega)]
  rfl
/-! what is walked backwards, by pairs -/
def revQ (Rd : List Dv → (Ah → Prop) → Ah → Prop) (ds : List Dv) (g1 : Ah) : Prop := match ds with
  | [d] => (match vw g1 d with
    | .lst xs => Rd xs.reverse (invOf g1 d) g1
    | _ => False)
  | _ => False
section
variable {X : Xc} {ev : Ev} {g : Ah} {ta : DA} {Rd : List Dv → (Ah → Prop) → Ah → Prop} {d e : Dv} {p q : Addr} {xs ys : List Dv}
theorem r_revI (h : ta X ev g (revQ Rd)) : diRev ta X ev g Rd := h
theorem r_revR (h1 : g p = some (.lst xs)) (h : Rd xs.reverse (fun g' => g' p = g p) g) : revQ Rd [.ref p] g := by
  unfold revQ
  show (match vw g (.ref p) with | .lst xs => _ | _ => False)
  rw [vw_refE, h1]; exact h
theorem r_revL (h : Rd xs.reverse yes g) : revQ Rd [.lst xs] g := h
def zipQ (Rd : List Dv → (Ah → Prop) → Ah → Prop) (ds : List Dv) (g1 : Ah) : Prop := match ds with
  | [d, e] => (match vw g1 d, vw g1 e with
    | .lst xs, .lst ys => Rd (zipD xs ys) (fun g' => invOf g1 d g' ∧ invOf g1 e g') g1
    | .tup xs, .tup ys => Rd (zipD xs ys) yes g1
    | _, _ => False)
  | _ => False
theorem r_zipI (h : ta X ev g (zipQ Rd)) : diZip ta X ev g Rd := h
theorem r_zipRL (h1 : g p = some (.lst xs)) (h : Rd (zipD xs ys) (fun g' => g' p = g p ∧ True) g) : zipQ Rd [.ref p, .lst ys] g := by
  unfold zipQ
  show (match vw g (.ref p), vw g (.lst ys) with | .lst xs, .lst ys => _ | .tup xs, .tup ys => _ | _, _ => False)
  rw [vw_refE, h1]; exact h
end
/-- a loop, by what is known before the rest of its items -/
theorem loop_rec {G : Dv → Ev → Ah → (Ev → Ah → Prop) → Prop} {B : DS} {P : De} {inv : Ah → Prop} (J : List Dv → Ev → Ah → Prop) (h0 : ∀ ev g, J [] ev g → inv g ∧ P.nx ev g)
    (hs : ∀ x xs ev g (N : Ev → Ah → Prop), J (x :: xs) ev g → (∀ ev g, J xs ev g → N ev g) → inv g ∧ G x ev g fun ev1 g1 => B { P with nx := N, ct := N, bk := P.nx } ev1 g1) : ∀ {xs : List Dv} {ev : Ev} {g : Ah}, J xs ev g → dLoop G B P inv xs ev g
  | [], ev, g, h => h0 ev g h
  | x :: xs, ev, g, h => hs x xs ev g _ h fun _ _ h => loop_rec J h0 hs h
/-- a comprehension that changes nothing, by what it makes -/
theorem comp_to {T : DTn} {t : DTs} {e : DE} {inv : Ah → Prop} {k : List Dv → Ah → Prop} {ev : Ev} {xs : List Dv} {g : Ah} (ys : List Dv) (hl : ys.length = xs.length) (hz : xs.length ≤ 100000) (hi : inv g)
    (hs : ∀ (i : Nat) x y (N : Ah → Prop) (MM : Dv → Ah → Prop), xs[i]? = some x → ys[i]? = some y → MM y g → T x ev fun ev1 => t Y0 ev1 g fun b g1 => if b = true then e Y0 ev1 g1 MM else N g1) (hk : k ys g) : dCo T t e inv xs [] ev g k := by
  refine comp_inv (fun n acc g' => acc = ys.take n ∧ g' = g) 0 ⟨rfl, rfl⟩ (fun _ _ _ h => by rw [h.2]; exact hi) ?_ ?_
  · rintro i x acc g' N MM hx ⟨rfl, rfl⟩ hN hM
    rw [Nat.zero_add] at hM
    have h1 : i < xs.length := by
      rcases Nat.lt_or_ge i xs.length with z | z
      · exact z
      · rw [List.getElem?_eq_none z] at hx; cases hx
    have h2 : i < ys.length := by omega
    refine hs i x ys[i] _ _ hx (List.getElem?_eq_getElem h2) (hM _ _ ⟨?_, ?_, rfl⟩)
    · rw [List.length_take]
      exact szl' (by omega)
    · rw [List.take_add_one, List.getElem?_eq_getElem h2]
      rfl
  · rintro acc g' ⟨rfl, rfl⟩
    rw [Nat.zero_add, ← hl, List.take_length]
    exact hk
theorem rngD_at {lo : Int} {n i : Nat} (h : i < n) : (rngD lo n)[i]? = some (.int (lo + i)) := by rw [rngD_get, if_pos h]
/-- fresh lists, one behind the other -/
structure Rows (rs : List Addr) (xss : List (List Dv)) (g : Ah) : Prop where
  l : rs.length = xss.length
  r : ∀ (i : Nat) (r : Addr) (xs : List Dv), rs[i]? = some r → xss[i]? = some xs → g r = some (.lst xs)
  nd : rs.Nodup
theorem Rows.al {rs : List Addr} {xss : List (List Dv)} {g : Ah} (h : Rows rs xss g) {r : Addr} (hr : r ∈ rs) : ∃ xs, g r = some (.lst xs) := by
  obtain ⟨i, hi, e⟩ := List.getElem_of_mem hr
  have hx : i < xss.length := by rw [← h.l]; exact hi
  exact ⟨_, h.r i r _ (by rw [List.getElem?_eq_getElem hi, e]) (List.getElem?_eq_getElem hx)⟩
theorem Rows.push {rs : List Addr} {xss : List (List Dv)} {g : Ah} {q : Addr} {ys : List Dv} (h : Rows rs xss g) (hq : g q = none) : Rows (rs ++ [q]) (xss ++ [ys]) (ups g q (.lst ys)) := by
  have nm : q ∉ rs := fun z => by
    obtain ⟨xs, e⟩ := h.al z
    rw [e] at hq; cases hq
  refine ⟨by rw [List.length_append, List.length_append, h.l]; rfl, fun j r xs h1 h2 => ?_, ?_⟩
  · by_cases e : j < rs.length
    · rw [List.getElem?_append_left e] at h1
      rw [List.getElem?_append_left (by rw [← h.l]; exact e)] at h2
      have e1 := h.r j r xs h1 h2
      exact (ups_ne (Ne.symm (ne_new e1 hq))).trans e1
    · rw [List.getElem?_append_right (by omega)] at h1
      rw [List.getElem?_append_right (by rw [← h.l]; omega), ← h.l] at h2
      have z : j - rs.length = 0 := by
        rcases Nat.eq_zero_or_pos (j - rs.length) with z | z
        · exact z
        · rw [List.getElem?_eq_none (by show [q].length ≤ _; exact z)] at h1; cases h1
      rw [z] at h1 h2
      cases h1; cases h2
      exact ups_same
  · refine List.nodup_append.mpr ⟨h.nd, List.nodup_cons.mpr ⟨(fun z => nomatch z), List.nodup_nil⟩, fun x hx y hy => ?_⟩
    cases List.mem_singleton.mp hy
    rintro rfl
    exact nm hx
theorem Rows.LL {rs : List Addr} {xss : List (List Dv)} {g : Ah} {a : Addr} (h : Rows rs xss g) (ha : g a = none) : Z.LL a rs xss (ups g a (.lst (rs.map Dv.ref))) :=
  ⟨ups_same, h.l, fun i r xs h1 h2 => (ups_ne (Ne.symm (ne_new (h.r i r xs h1 h2) ha))).trans (h.r i r xs h1 h2), (fun z => by obtain ⟨xs, e⟩ := h.al z; rw [e] at ha; cases ha), h.nd⟩
theorem comp_rows {T : DTn} {t : DTs} {e : DE} {k : List Dv → Ah → Prop} {ev : Ev} {xs : List Dv} {g : Ah} (ys : List Dv) (n : Nat) (hl : xs.length = n) (hz : n ≤ 1000)
    (hs : ∀ x (g : Ah) (N : Ah → Prop) (MM : Dv → Ah → Prop), x ∈ xs → (∀ q, g q = none → MM (.ref q) (ups g q (.lst ys))) → T x ev fun ev1 => t Y0 ev1 g fun b g1 => if b = true then e Y0 ev1 g1 MM else N g1)
    (hk : ∀ rs g', Rows rs (List.replicate n ys) g' → Agr [] g g' → (∀ r ∈ rs, g r = none) → k (rs.map Dv.ref) g') : dCo T t e yes xs [] ev g k := by
  refine comp_inv (fun n acc g' => ∃ rs, acc = rs.map Dv.ref ∧ Rows rs (List.replicate n ys) g' ∧ Agr [] g g' ∧ ∀ r ∈ rs, g r = none) 0 ⟨[], rfl, ⟨rfl, fun i r xs h => by simp at h, List.nodup_nil⟩, .refl, fun r z => nomatch z⟩ (fun _ _ _ _ => trivial) ?_ ?_
  · rintro i x acc g' N MM hx ⟨rs, rfl, hr, ag, hn⟩ hN hM
    refine hs x g' _ _ (List.mem_of_getElem? hx) fun q hq => hM _ _ ⟨?_, rs ++ [q], by rw [List.map_append]; rfl, ?_, ag.fr (ag.fresh hq), fun r h => ?_⟩
    · rw [List.length_map, hr.l, List.length_replicate]
      have : i < xs.length := by
        rcases Nat.lt_or_ge i xs.length with z | z
        · exact z
        · rw [List.getElem?_eq_none z] at hx; cases hx
      exact szl' (by omega)
    · rw [List.replicate_succ']
      exact hr.push hq
    · rcases List.mem_append.mp h with h | h
      · exact hn r h
      · cases List.mem_singleton.mp h
        exact (ag.fresh hq).resolve_left (fun z => nomatch z)
  · rintro acc g' ⟨rs, rfl, hr, ag, hn⟩
    rw [Nat.zero_add, hl] at hr
    exact hk rs g' hr ag hn
def moO (a : Addr) (m : Mo) : Ob := ⟨[a], fun g => g a = some m⟩
theorem mo_ok {a : Addr} {m : Mo} {g : Ah} (h : g a = some m) : (moO a m).ok g := by
  refine ⟨h, fun b hb => ?_, fun g' e => ?_⟩
  · cases List.mem_singleton.mp hb; rw [h]; exact fun z => nomatch z
  · show g' a = _
    rw [e a (List.mem_singleton.mpr rfl)]; exact h
theorem Wd.rows {g g1 : Ah} {os : List Ob} {a : Addr} {rs : List Addr} {xss : List (List Dv)} (w : Wd g os) (hr : Rows rs xss g1) (ag : Agr [] g g1) (hn : ∀ r ∈ rs, g r = none) (ha : g1 a = none) : Wd (ups g1 a (.lst (rs.map Dv.ref))) (llO a rs xss :: os) :=
  w.add (ag.fr (ag.fresh ha)) (hr.LL ha).ok fun b hb => by
    rcases List.mem_cons.mp hb with rfl | hb
    · exact (ag.fresh ha).resolve_left (fun z => nomatch z)
    · exact hn b hb
theorem Wd.perm {g : Ah} {os os' : List Ob} (w : Wd g os) (h : os.Perm os') : Wd g os' :=
  ⟨fun o ho => w.ok o (h.mem_iff.mpr ho), (h.pairwise_iff (fun {o q} k a ha hb => k a hb ha)).mp w.pw⟩
theorem Wd.rev {g : Ah} {os : List Ob} (w : Wd g os) : Wd g os.reverse := w.perm (List.reverse_perm os).symm
theorem r_tT2 {i j : Nat} {a b : Dv} {ev : Ev} {k : Ev → Prop} (h : k ((ev.set i (some a)).set j (some b))) : tT [i, j] (.tup [a, b]) ev k := ⟨rfl, h⟩
theorem atI_last {xs : List Dv} {x : Dv} (h : xs.getLast? = some x) : atI xs (-1) = some x := by
  cases xs with
  | nil => cases h
  | cons y ys =>
    have e : ixN (y :: ys).length (-1) = some ys.length := by
      unfold ixN
      rw [if_neg (by decide), if_pos (by simp only [List.length_cons]; omega)]
      congr 1
      simp only [List.length_cons]
      omega
    unfold atI
    rw [e]
    rw [List.getLast?_eq_getElem?] at h
    simpa using h
/-- nothing is known (a def that calls itself, at its end) -/
def sAb : DS := fun _ _ _ => False
theorem ds_ab {X : Cx} {W : WX} {K : PySem.W.Frag} {sts : List Stmt} : PSs X sts (lS K W sAb) := ⟨fun pins s σ H E I h => by
  obtain ⟨M, ev, g, P, c, d, l⟩ := h
  exact d.elim⟩
/-! ### more: dicts made of dicts, dict comprehensions, tests that are known, values that may be named -/
def cDict (n : Nd) : DCq := fun ds g R => match ds with
  | [d] => (match vw g d with
    | .dct kvs => n kvs g R
    | _ => False)
  | _ => False
theorem cj_dict {X : Cx} (K : PySem.W.Frag) {n : Nd} (hn : NdOk n) : CallR X (.type "dict") (lC K (cDict n)) := ccm call_dictD fun vs H Q ⟨M, ds, g, R, hr, r, q, k⟩ => by
  unfold cDict at q
  split at q
  next d =>
    obtain ⟨v, rfl, r0⟩ := rp1 r
    split at q
    next kvs e =>
      obtain ⟨a, us, rfl, h1, h2⟩ := vw_dct r0 hr e
      exact ⟨a, us, rfl, .inl h1, fun p hp => hn _ _ _ _ _ _ _ _ hr hp h2 q k⟩
    next => exact q.elim
  next => exact q.elim
theorem r_dict {n : Nd} {g : Ah} {R : DQ} {d : Dv} {kvs : List (Key × Dv)} (h1 : vw g d = .dct kvs) (h : n kvs g R) : cDict n [d] g R := by
  show (match vw g d with | .dct kvs => _ | _ => False); rw [h1]; exact h
/-- what a dict comprehension makes -/
def dCd (T : DTn) (t : DTs) (ek e : DE) (inv : Ah → Prop) : List Dv → List (Key × Dv) → Ev → Ah → (List (Key × Dv) → Ah → Prop) → Prop
  | [], acc, _, g, k => inv g ∧ k acc g
  | x :: xs, acc, ev, g, k => inv g ∧ T x ev fun ev1 => t Y0 ev1 g fun b g1 => if b = true then ek Y0 ev1 g1 fun y g2 => e Y0 ev1 g2 fun d g3 => ∃ ky, kOf y = some ky ∧ acc.length < sizeLine ∧ dCd T t ek e inv xs (putD acc ky d) ev g3 k else dCd T t ek e inv xs acc ev g1 k
def dDc (n : Nd) (vs : List Nat) (it : DI) (T : DTn) (t : DTs) (ek e : DE) : DE := fun X ev g R => it X ev g fun xs inv g1 => dCd T t ek e inv xs [] (wipeE ev vs) g1 fun ds g2 => n ds g2 R
section
variable {X : Cx} {W : WX} {K : PySem.W.Frag} {kx vx tg iter : Expr} {ifs : List Expr} {scope : Scope} {own : List (Str × Nat)} {pos : Pos} {di : DI} {gt : TG} {T : DTn} {Dt : DTs} {De' Dk : DE} {n : Nd}
theorem cd_inv {inv : Ah → Prop} {xs : List Dv} {acc : List (Key × Dv)} {ev : Ev} {g : Ah} {k : List (Key × Dv) → Ah → Prop} (h : dCd T Dt Dk De' inv xs acc ev g k) : inv g := by
  cases xs <;> exact h.1
theorem RpP.re' {K : KM} {M' : List Addr} {g : Ah} {H H' : Hp} (h : ∀ a o, g a = none → a ∉ K.M → H a = some o → a ∉ M' ∧ H' a = some o) {vs : List (Key × V)} {ds : List (Key × Dv)} (r : RpP K g H vs ds) : RpP ⟨K.K, M'⟩ g H' vs ds := RpP.re h r
theorem dc_ok {vs : List Nat} (hn : NdOk n) (lt : LT K gt T vs) {σ : L2.St} {H : Hp} {Q : VK} (h : lE K W (dDc n vs di T Dt Dk De') σ H Q) : tDc (lI K W di) gt (lT K W0 Dt) (lE K W0 Dk) (lE K W0 De') vs σ H Q := by
  obtain ⟨M, ev, g, R, Y, c, d, q, x⟩ := h
  refine ⟨M, ev, g, _, Y, c, d, fun J xs inv g1 H1 hr s it k => ?_, x⟩
  intro D hD
  have hHD : H D = none := by
    cases e : H D with
    | none => rfl
    | some o => exact absurd hD (s.there D (by rw [e]; exact fun z => nomatch z))
  have hsub : ∀ a ∈ D :: M, a ∈ M ∨ H a = none := fun a ha => (List.mem_cons.mp ha).elim (fun e => .inr (e ▸ hHD)) .inl
  have hsub1 : ∀ a ∈ D :: M, a ∈ M ∨ H1 a = none := fun a ha => (List.mem_cons.mp ha).elim (fun e => .inr (e ▸ hD)) .inl
  have hne : ∀ a, a ∉ D :: M → a ≠ D := fun a h e => h (by rw [e]; exact List.mem_cons_self ..)
  let PW : Nat → Hp → Prop := fun i H' => ∃ g' acc us, HR ⟨K, D :: M⟩ g' H' ∧ Stp g1 H1 g' H' ∧ H' D = some (.dK us) ∧ RpP ⟨K, D :: M⟩ g' H' us acc ∧ dCd T Dt Dk De' inv (xs.drop i) acc (wipeE ev vs) g' fun ds g2 => n ds g2 R
  refine ⟨fun i m H' => m = xs.length - i ∧ i ≤ xs.length ∧ PW i H', ⟨xs.length, by simp, Nat.zero_le _, g1, [], [], ?_, stp_hid .refl hD, upd_same, .nil, k⟩, ?_⟩
  · refine hr.re (K := ⟨K, M⟩) (fun a o _ h e => ⟨fun z => ?_, by rw [upd_ne (ne_of_none e hD)]; exact e⟩) (fun a h => upd_ne fun e => h (e ▸ hr_off hr hD)) fun a ha => ?_
    · rcases List.mem_cons.mp z with z | z
      · rw [z, hD] at e; cases e
      · exact h z
    · rcases List.mem_cons.mp ha with z | z
      · rw [z]; exact ⟨hr_off hr hD, by rw [upd_same]; trivial⟩
      · exact ⟨(hr.2 a z).1, (hr.2 a z).2.upd fun _ => trivial⟩
  rintro i m H2 ⟨rfl, hle, g2, acc, us, hr2, s2, eD, ra, k2⟩
  have ok := it (D :: M) g2 H2 (fun a h => List.mem_cons_of_mem _ h) hsub1 hr2 s2 (cd_inv k2)
  have gD : g2 D = none := (hr2.2 D (List.mem_cons_self ..)).1
  by_cases hi : i < xs.length
  · have hx : xs[i]? = some xs[i] := List.getElem?_eq_getElem hi
    obtain ⟨go, yl⟩ := ok.1 i _ hx
    rw [List.drop_eq_getElem_cons hi] at k2
    refine .inr ⟨go, PW (i + 1), fun H' p => ⟨xs.length - (i + 1), by omega, rfl, hi, p⟩, fun v H3 y => ?_⟩
    obtain ⟨hr3, s3, r3⟩ := yl v H3 y
    have c3 : Cn ⟨K, D :: M⟩ (wipe σ vs) H3 (wipeE ev vs) g2 := (c.away hsub (s.trans (s2.trans s3)) hr3).wipe vs
    refine lt (D :: M) g2 H3 v _ _ _ _ _ c3 r3 k2.2 fun σ' ev' c' w' k' => ⟨?_, ?_⟩
    · rw [w']
      apply List.ext_getElem?
      intro z
      rw [wipe_get, wipe_get, wipe_length]
      split <;> rfl
    refine ⟨D :: M, ev', g2, _, Y0, c', k', fun b g4 H4 hr4 s4 kb => ?_, fun _ _ _ _ _ _ _ _ z => z.elim⟩
    have s24 := (s2.trans s3).trans s4
    have e4 : H4 D = some (.dK us) := ((s3.trans s4).keep D _ gD eD).1
    cases b with
    | false =>
      rw [if_neg (by decide)] at kb
      refine iteF ?_
      exact ⟨g4, acc, us, hr4, s24, e4, RpP.go (s3.trans s4) ra, kb⟩
    | true =>
      rw [if_pos rfl] at kb
      refine iteT ?_
      refine ⟨D :: M, ev', g4, _, Y0, c'.go hr4 s4, kb, fun v5 d5 g5 H5 hr5 s5 r5 k5 => ?_, fun _ _ _ _ _ _ _ _ z => z.elim⟩
      refine ⟨D :: M, ev', g5, _, Y0, (c'.go hr4 s4).go hr5 s5, k5, fun v6 d6 g6 H6 hr6 s6 r6 k6 => ?_, fun _ _ _ _ _ _ _ _ z => z.elim⟩
      obtain ⟨ky, hk, hz, k6⟩ := k6
      have s26 := (s24.trans s5).trans s6
      have e6 : H6 D = some (.dK us) := ((((s3.trans s4).trans s5).trans s6).keep D _ gD eD).1
      have g6D : g6 D = none := (hr6.2 D (List.mem_cons_self ..)).1
      refine ⟨us, ky, kOf_ok r5 hk, e6, by rw [RpP.length ra]; exact hz, g6, putD acc ky d6, putK us ky v6, ?_, stp_hid s26 hD, upd_same, ?_, k6⟩
      · refine hr6.re (K := ⟨K, D :: M⟩) (fun a o _ h e => ⟨h, by rw [upd_ne (hne _ h)]; exact e⟩) (fun a h => upd_ne fun e => h (e ▸ g6D)) fun a ha => ⟨(hr6.2 a ha).1, (hr6.2 a ha).2.upd fun _ => trivial⟩
      · have r7 : RpP ⟨K, D :: M⟩ g6 H6 (putK us ky v6) (putD acc ky d6) := RpP.put (RpP.go (((s3.trans s4).trans s5).trans s6) ra) r6
        exact RpP.re (K := ⟨K, D :: M⟩) (fun a o _ h e => ⟨h, by rw [upd_ne (hne _ h)]; exact e⟩) r7
  · have e : i = xs.length := by omega
    subst e
    rw [List.drop_length] at k2
    refine .inl ⟨ok.2, ?_⟩
    have hH : H2 = upd (fun b => if b = D then none else H2 b) D (.dK us) := by
      funext b
      by_cases z : b = D
      · rw [z, upd_same]; exact eD
      · rw [upd_ne z]; exact (if_neg z).symm
    have nD : D ∉ M := fun z => (hr.2 D z).2.ne hD
    have hrm : HR ⟨K, M⟩ g2 (fun b => if b = D then none else H2 b) := by
      refine hr2.re (K := ⟨K, D :: M⟩) (M' := M) (fun a o _ h e => ⟨fun z => h (List.mem_cons_of_mem _ z), by rw [if_neg (hne _ h)]; exact e⟩) (fun a h => ?_) fun a ha => ?_
      · have : a ≠ D := fun e => h (by rw [e]; exact gD)
        exact if_neg this
      · have : a ≠ D := fun e => nD (by rw [← e]; exact ha)
        refine ⟨(hr2.2 a (List.mem_cons_of_mem _ ha)).1, ?_⟩
        rw [if_neg this]
        exact (hr2.2 a (List.mem_cons_of_mem _ ha)).2
    have sm : Stp g H g2 (fun b => if b = D then none else H2 b) := ⟨fun b o kb e => by
      obtain ⟨h1, h2⟩ := (s.trans s2).keep b o kb e
      exact ⟨by rw [if_neg (ne_of_none e hHD)]; exact h1, h2⟩, fun b kb => by
      rw [if_neg (fun z => kb (by rw [z]; exact hHD))]
      exact (s.trans s2).there b kb⟩
    have rm : RpP ⟨K, M⟩ g2 (fun b => if b = D then none else H2 b) us acc := RpP.re (K := ⟨K, D :: M⟩) (M' := M) (fun a o _ h e => ⟨fun z => h (List.mem_cons_of_mem _ z), by rw [if_neg (hne _ h)]; exact e⟩) ra
    rw [hH]
    exact hn ⟨K, M⟩ g2 _ R Q D us acc hrm (if_pos rfl) rm k2.2 (q.go sm)
theorem de_dc (hc : X.calm = true) (hn : NdOk n) (hN : X.N.Nodup) (hi : PI X tg iter (lI K W di)) (ok : BlkOk X.N X.env.scope scope own) (lt : LT K gt T (own.map (·.2)))
    (hg : ∀ (s : Shared) (H : Hp) (C : Addr) (cl : List (Str × Addr)) (fp : List Addr), PG (X.blk s H scope (compEnvC scope cl C X.env) fp) tg gt) (ht : ∀ (s : Shared) (H : Hp) (C : Addr) (cl : List (Str × Addr)) (fp : List Addr), PTs (X.blk s H scope (compEnvC scope cl C X.env) fp) ifs (lT K W0 Dt))
    (hk : ∀ (s : Shared) (H : Hp) (C : Addr) (cl : List (Str × Addr)) (fp : List Addr), PE (X.blk s H scope (compEnvC scope cl C X.env) fp) kx (lE K W0 Dk))
    (he : ∀ (s : Shared) (H : Hp) (C : Addr) (cl : List (Str × Addr)) (fp : List Addr), PE (X.blk s H scope (compEnvC scope cl C X.env) fp) vx (lE K W0 De')) (hs : ∀ x, foldedSetIterable iter X.env x = pure x := by intro _; rfl) :
    PE X (.DictComp kx vx [⟨tg, iter, ifs, 0⟩] scope pos) (lE K W (dDc n (own.map (·.2)) di T Dt Dk De')) := pem (pe_dc hc hN hi ok hg ht hk he hs) fun σ H Q h => dc_ok hn lt h
theorem sw_dc {gs : List Comprehension} {py : Pos} {y : Str} {l : Nat} {env : Env} (h1 : env.scope.kind = .function) (h2 : env.scope.names.lookup y = some .local) (h3 : (py.line == pos.line) = true)
    (h4 : (scope.names.any fun (n, k) => n == y && (k == .local || k == .cell)) = false) : swapsWith (.DictComp kx vx gs scope pos) (some (.Name y py)) l env = pure true := by
  have k1 : env.kindOf y = some .local := h2
  have k2 : env.blockKind = .function := by unfold Env.blockKind; rw [h1]; rfl
  unfold swapsWith
  simp only [k2, k1, h4, Expr.pos, h3]
  rfl
theorem ds_setDc {i : Nat} {y : Str} {py spos : Pos} (hc : X.calm = true) (hn : NdOk n) (hN : X.N.Nodup) (hy : X.N[i]? = some y) (hyl : X.env.scope.names.lookup y = some .local)
    (hsw : swapsWith (.DictComp kx vx [⟨tg, iter, ifs, 0⟩] scope pos) (some (.Name y py)) spos.line X.env = pure true) (hi : PI X tg iter (lI K W di)) (ok : BlkOk X.N X.env.scope scope own) (lt : LT K gt T (own.map (·.2)))
    (hg : ∀ (s : Shared) (H : Hp) (C : Addr) (cl : List (Str × Addr)) (fp : List Addr), PG (X.blk s H scope (compEnvC scope cl C X.env) fp) tg gt) (ht : ∀ (s : Shared) (H : Hp) (C : Addr) (cl : List (Str × Addr)) (fp : List Addr), PTs (X.blk s H scope (compEnvC scope cl C X.env) fp) ifs (lT K W0 Dt))
    (hk : ∀ (s : Shared) (H : Hp) (C : Addr) (cl : List (Str × Addr)) (fp : List Addr), PE (X.blk s H scope (compEnvC scope cl C X.env) fp) kx (lE K W0 Dk))
    (he : ∀ (s : Shared) (H : Hp) (C : Addr) (cl : List (Str × Addr)) (fp : List Addr), PE (X.blk s H scope (compEnvC scope cl C X.env) fp) vx (lE K W0 De')) (hs : ∀ x, foldedSetIterable iter X.env x = pure x := by intro _; rfl) :
    PS X (.Assign [.Name y py] (.DictComp kx vx [⟨tg, iter, ifs, 0⟩] scope pos) spos) (lS K W (sAsg (dDc n (own.map (·.2)) di T Dt Dk De') (gNm i))) := by
  refine ⟨fun pins s σ H E I h => ?_⟩
  obtain ⟨M, ev, g, P, c, d, l⟩ := h
  have h' : tDc (lI K W di) gt (lT K W0 Dt) (lE K W0 Dk) (lE K W0 De') (own.map (·.2)) σ H (fun x H1 => gName i x σ H1 E.nx) := dc_ok hn lt ⟨M, ev, g, _, _, c, d, fun v d g' H' hr s r k => l.nx _ _ _ _ ((c.go hr s).set r i) s k, l.xl c⟩
  rw [exec_Assign_Name_used _ _ _ _ hsw]
  refine wpAny_bind (wpAny_standAt (wpAny_bind ?_))
  show wpAny _ X.A (do let _ ← comprehension (.DictComp kx vx [⟨tg, iter, ifs, 0⟩] scope pos) scope X.env (firstIterPos [⟨tg, iter, ifs, 0⟩] pos) newDict false (eval iter X.env) (some (assign (.Name y py) X.env))) _ _ s
  refine wpAny_bind (thn (dc_core (Qf := fun _ s' => SP X pins E .next s') hc hN I hi ok hg ht hk he hs h' fun L C s' m H' I' q hm f => ?_) fun _ s' hq => wpAny_pure (wpAny_pure hq))
  show wpAny _ _ (assign (.Name y py) X.env (.ref L)) _ _ _
  refine wpAny_assign_Name (store_ok2 (v := V.ref L) I' hN hy (.inl hyl) rfl (fun s2 J ⟨a, sb, ha⟩ => ?_) (.inr hyl))
  obtain ⟨f0, f1, _, f3, f4, _⟩ := f
  have n1 : C ≠ a := by
    rcases ha with z | z
    · rw [z]; exact f1
    · exact fun e => f4 y a z e.symm
  refine ⟨m, hm.sameBut sb n1, fun h3 sb3 => ⟨_, H', J.turned (t' := s2.toks) (fun b o hb e => (sb3.2 b hb).trans e) f0 f1 f3 f4 (by assumption), q⟩⟩
end
/-- a dict comprehension, by an invariant over what is made -/
theorem cd_inv' {T : DTn} {t : DTs} {ek e : DE} {inv : Ah → Prop} {k : List (Key × Dv) → Ah → Prop} {ev : Ev} (I : Nat → List (Key × Dv) → Ah → Prop) : ∀ {xs : List Dv} {acc : List (Key × Dv)} {g : Ah} (n : Nat), I n acc g → (∀ i acc g, I i acc g → inv g) →
    (∀ i x acc g (N : Ah → Prop) (MM : Dv → Dv → Ah → Prop), xs[i]? = some x → I (n + i) acc g → (∀ g, I (n + i + 1) acc g → N g) → (∀ y ky d g, kOf y = some ky → acc.length < sizeLine → I (n + i + 1) (putD acc ky d) g → MM y d g) → T x ev fun ev1 => t Y0 ev1 g fun b g1 => if b = true then ek Y0 ev1 g1 fun y g2 => e Y0 ev1 g2 (MM y) else N g1) →
    (∀ acc g, I (n + xs.length) acc g → k acc g) → dCd T t ek e inv xs acc ev g k
  | [], acc, g, n, h0, hi, hs, hd => ⟨hi _ _ _ h0, hd _ _ h0⟩
  | x :: xs, acc, g, n, h0, hi, hs, hd => by
    have again : ∀ acc g, I (n + 0 + 1) acc g → dCd T t ek e inv xs acc ev g k := fun acc g h => by
      refine cd_inv' I (n + 1) h hi (fun i y acc g N MM e h k1 k2 => hs (i + 1) y acc g N MM (by simpa using e) (by rw [show n + (i + 1) = n + 1 + i by omega]; exact h) (fun g h => k1 g ?_) fun y ky d g h1 h2 h => k2 y ky d g h1 h2 ?_) (fun acc g h => hd acc g ?_)
      · rw [show n + 1 + i + 1 = n + (i + 1) + 1 by omega]; exact h
      · rw [show n + 1 + i + 1 = n + (i + 1) + 1 by omega]; exact h
      · rw [List.length_cons, show n + (xs.length + 1) = n + 1 + xs.length by omega]; exact h
    exact ⟨hi _ _ _ h0, hs 0 x acc g _ _ rfl h0 (fun g h => again acc g h) fun y ky d g h1 h2 h => ⟨ky, h1, h2, again _ g h⟩⟩
def dcQ (n : Nd) (T : DTn) (t : DTs) (ek e : DE) (ev : Ev) (R : DQ) (xs : List Dv) (inv : Ah → Prop) (g : Ah) : Prop := dCd T t ek e inv xs [] ev g fun ds g2 => n ds g2 R
theorem r_dc {X : Xc} {ev : Ev} {g : Ah} {R : DQ} {n : Nd} {vs : List Nat} {it : DI} {T : DTn} {t : DTs} {ek e : DE} (h : it X ev g (dcQ n T t ek e (wipeE ev vs) R)) : dDc n vs it T t ek e X ev g R := h
/-! ### more readings -/
theorem lt_of_get {α : Type} {xs : List α} {i : Nat} {x : α} (h : xs[i]? = some x) : i < xs.length := by
  rcases Nat.lt_or_ge i xs.length with z | z
  · exact z
  · rw [List.getElem?_eq_none z] at h; cases h
/-- one of a list -/
theorem atI_some {xs : List Dv} {i : Int} (h0 : 0 ≤ i) (h : i < xs.length) : ∃ x, atI xs i = some x ∧ x ∈ xs := by
  obtain ⟨n, rfl⟩ := Int.eq_ofNat_of_zero_le h0
  have hn : n < xs.length := by omega
  exact ⟨xs[n], atI_nat (List.getElem?_eq_getElem hn), List.getElem_mem hn⟩
theorem r_ixOf {g : Ah} {R : DQ} {d : Dv} {xs : List Dv} {i : Int} (h1 : vw g d = .lst xs) (h0 : 0 ≤ i) (h : i < xs.length) (k : ∀ x ∈ xs, R x g) : qIx d (.int i) g R := by
  obtain ⟨x, e, m⟩ := atI_some h0 h
  exact r_ixL h1 e (k x m)
theorem r_seqV {Rd : List Dv → (Ah → Prop) → Ah → Prop} {d : Dv} {g : Ah} {xs : List Dv} (h1 : vw g d = .lst xs) (h : Rd xs (invOf g d) g) : seqQ Rd d g := by
  unfold seqQ; rw [h1]; exact h
theorem invOf_agr {S : List Addr} {g g' : Ah} {d : Dv} {xs : List Dv} (ag : Agr S g g') (h1 : vw g d = .lst xs) (hd : ∀ a ∈ S, d ≠ .ref a) : invOf g d g' := by
  cases d with
  | ref a =>
    show g' a = g a
    refine ag a (fun z => hd a z rfl) fun z => ?_
    rw [vw_refE, z] at h1
    cases h1
  | _ => exact trivial
theorem vw_agr {S : List Addr} {g g' : Ah} {d : Dv} {xs : List Dv} (ag : Agr S g g') (h1 : vw g d = .lst xs) (hd : ∀ a ∈ S, d ≠ .ref a) : vw g' d = .lst xs := by
  cases d with
  | ref a =>
    have := invOf_agr ag h1 hd
    rw [vw_refE] at h1 ⊢
    rw [show g' a = g a from this]
    exact h1
  | _ => exact h1
section
variable {g : Ah} {R : DQ} {d d' x : Dv} {kvs : List (Key × Dv)} {ky : Key}
theorem r_ninD0 (h1 : vw g d' = .dct kvs) (hk : kOf d = some ky) (h2 : valD kvs ky = none) (h : R (.bl true) g) : qIn false d d' g R := r_ninD h1 hk (by rw [h2]; exact h)
theorem r_ninD1 (h1 : vw g d' = .dct kvs) (hk : kOf d = some ky) (h2 : valD kvs ky = some x) (h : R (.bl false) g) : qIn false d d' g R := r_ninD h1 hk (by rw [h2]; exact h)
theorem r_inD0 (h1 : vw g d' = .dct kvs) (hk : kOf d = some ky) (h2 : valD kvs ky = none) (h : R (.bl false) g) : qIn true d d' g R := r_inD h1 hk (by rw [h2]; exact h)
theorem r_inD1 (h1 : vw g d' = .dct kvs) (hk : kOf d = some ky) (h2 : valD kvs ky = some x) (h : R (.bl true) g) : qIn true d d' g R := r_inD h1 hk (by rw [h2]; exact h)
end
/-- a test that is known -/
theorem r_decT {P : Prop} [Decidable P] {A B : Prop} (h : P) (k : B) : if (!decide P) = true then A else B := by
  rw [if_neg (by rw [decide_eq_true h]; exact fun z => nomatch z)]; exact k
theorem r_decY {P : Prop} [Decidable P] {A B : Prop} (h : P) (k : A) : if decide P = true then A else B := by
  rw [if_pos (decide_eq_true h)]; exact k
theorem r_decN {P : Prop} [Decidable P] {A B : Prop} (h : ¬P) (k : B) : if decide P = true then A else B := by
  rw [if_neg (by rw [decide_eq_true_eq]; exact h)]; exact k
theorem valD_put {κ : Type} [DecidableEq κ] (k : κ) (v : Dv) (k' : κ) : ∀ kvs : List (κ × Dv), valD (putD kvs k v) k' = if k = k' then some v else valD kvs k'
  | [] => rfl
  | (j, d) :: r => by
    rw [putD]
    by_cases e : j = k
    · subst e
      rw [if_pos rfl, valD, valD]
      by_cases e2 : j = k'
      · rw [if_pos e2, if_pos e2]
      · rw [if_neg e2, if_neg e2, if_neg e2]
        have : ∀ r : List (κ × Dv), valD (setD r j v) k' = valD r k' := fun r => by
          induction r with
          | nil => rfl
          | cons x r ih =>
            obtain ⟨y, w⟩ := x
            rw [setD]
            by_cases e3 : y = j
            · subst e3
              rw [if_pos rfl, valD, if_neg e2, ih, valD, if_neg e2]
            · rw [if_neg e3, valD, ih, valD]
        exact this r
    · rw [if_neg e, valD, valD_put k v k' r, valD]
      by_cases e2 : j = k'
      · subst e2
        rw [if_pos rfl, if_pos rfl, if_neg (fun z => e z.symm)]
      · rw [if_neg e2, if_neg e2]
theorem putD_le {κ : Type} [DecidableEq κ] (k : κ) (v : Dv) : ∀ kvs : List (κ × Dv), (putD kvs k v).length ≤ kvs.length + 1
  | [] => Nat.le_refl _
  | (j, d) :: r => by
    have : ∀ r : List (κ × Dv), (setD r k v).length = r.length := fun r => by
      induction r with
      | nil => rfl
      | cons x r ih =>
        rw [setD]
        split <;> rw [List.length_cons, List.length_cons, ih]
    rw [putD]
    split
    · rw [List.length_cons, List.length_cons, this]; omega
    · rw [List.length_cons, List.length_cons]; have := putD_le k v r; omega
section
variable {g : Ah} {R : DQ} {xs : List Dv} {kvs : List (List Key × Dv)} {kys : List Key} {p : Addr} {v : Dv}
theorem r_putT {R : Ah → Prop} (h1 : g p = some (.dcT kvs)) (hk : kOfs xs = some kys) (hz : kvs.length < 100000) (h : R (ups g p (.dcT (putD kvs kys v)))) : putQ (.ref p) (.tup xs) v g R := ⟨p, rfl, by rw [h1]; exact (show ∃ ks k, Dv.tup xs = .tup ks ∧ kOfs ks = some k ∧ kvs.length < sizeLine ∧ R (ups g p (.dcT (putD kvs k v))) from ⟨xs, kys, rfl, hk, szl' (Nat.le_of_lt hz), h⟩)⟩
theorem r_inT (h1 : g p = some (.dcT kvs)) (hk : kOfs xs = some kys) (h : R (.bl (valD kvs kys).isSome) g) : qIn true (.tup xs) (.ref p) g R := by
  unfold qIn; rw [vw_refE, h1]; exact ⟨xs, kys, rfl, hk, by simpa using h⟩
end
/-- an if, a loop: up to what is known behind it -/
theorem r_cutI {t : DTs} {a b : DS} {P : De} {ev : Ev} {g : Ah} (M : Ev → Ah → Prop) (h1 : ∀ N : Ev → Ah → Prop, (∀ ev g, M ev g → N ev g) → sIf t a b { P with nx := N } ev g) (h2 : ∀ ev g, M ev g → P.nx ev g) : sIf t a b P ev g := h1 P.nx h2
theorem r_cutF {it : DI} {G : DGt} {B : DS} {P : De} {ev : Ev} {g : Ah} (M : Ev → Ah → Prop) (h1 : ∀ N : Ev → Ah → Prop, (∀ ev g, M ev g → N ev g) → sFor it G B { P with nx := N } ev g) (h2 : ∀ ev g, M ev g → P.nx ev g) : sFor it G B P ev g := h1 P.nx h2
theorem Wd.chgAdd {g g' : Ah} {os : List Ob} {o o' N : Ob} (w : Wd g os) (i : Nat) (e : os[i]? = some o) (k : Agr o.S g g') (ho : o'.ok g') (hs : ∀ a ∈ o'.S, a ∈ o.S) (hN : N.ok g') (hf : ∀ a ∈ N.S, g a = none) : Wd g' (N :: os.set i o') := by
  have w2 := w.chg i e k ho (fun a ha => .inl (hs a ha))
  refine ⟨fun q hq => ?_, List.pairwise_cons.mpr ⟨fun q hq a ha hb => ?_, w2.pw⟩⟩
  · rcases List.mem_cons.mp hq with rfl | hq
    · exact hN
    · exact w2.ok q hq
  · rcases List.mem_or_eq_of_mem_set hq with hq | rfl
    · exact (w.ok q hq).al a hb (hf a ha)
    · exact (w.ok o (List.mem_of_getElem? e)).al a (hs a hb) (hf a ha)
/-! ### dicts that are walked: locked within -/
def diKeys (a : DE) : DI := fun X ev g R => a X ev g fun d g1 => ∃ p o us kvs, d = .ref p ∧ g1 p = some (.lck o us kvs) ∧ R (kvs.map fun kv => kD kv.1) (fun g' => g' p = g1 p) g1
theorem keys_it {K : KM} {g : Ah} {H : Hp} {p : Addr} {o : Obj} {us : List (Key × V)} {kvs : List (Key × Dv)} (hr0 : HR K g H) (e : g p = some (.lck o us kvs)) : ItR K g H (Itk p o us) (kvs.map fun kv => kD kv.1) (fun g' => g' p = g p) := fun M' g' H' _ _ hr s i => by
  have hl : us.length = kvs.length := RpP.length (mo_lck hr0 e).2
  obtain ⟨h1, h2⟩ := mo_lck hr (i.trans e)
  refine ⟨fun j d hd => ?_, h1, by rw [List.length_map, hl]; exact Nat.le_refl _⟩
  have hj : j < us.length := by
    rcases Nat.lt_or_ge j us.length with z | z
    · exact z
    · rw [List.getElem?_eq_none (by rw [List.length_map]; omega)] at hd; cases hd
  refine ⟨⟨h1, hj⟩, fun v H'' ⟨eH, k, w, e1, e2⟩ => ?_⟩
  subst eH e2
  refine ⟨hr, .refl, ?_⟩
  have := keys_rp h2
  obtain ⟨u, e3, e4⟩ := RpAll.get this hd
  rw [List.getElem?_map, e1] at e3
  cases e3
  exact e4
def sLk (s : DS) : DS := fun P ev g => ∃ a kvs, g a = some (.dct kvs) ∧ ∀ o us, s ⟨fun ev' g' => g' a = some (.lck o us kvs) ∧ P.nx ev' (ups g' a (.dct kvs)), fun v g' => g' a = some (.lck o us kvs) ∧ P.rt v (ups g' a (.dct kvs)), fun ev' g' => g' a = some (.lck o us kvs) ∧ P.bk ev' (ups g' a (.dct kvs)), fun ev' g' => g' a = some (.lck o us kvs) ∧ P.ct ev' (ups g' a (.dct kvs)), fun _ _ _ => False⟩ ev (ups g a (.lck o us kvs))
def dLk (e : DE) : DE := fun X ev g R => ∃ a kvs, g a = some (.dct kvs) ∧ ∀ o us, e (fun _ _ => False) ev (ups g a (.lck o us kvs)) fun v g' => g' a = some (.lck o us kvs) ∧ R v (ups g' a (.dct kvs))
section
variable {X : Cx} {W : WX} {K : PySem.W.Frag} {tg e : Expr} {Da : DE} {st : Stmt} {A : DS}
theorem di_keys (h : PE X e (lE K W Da)) : PI X tg e (lI K W (diKeys Da)) :=
  pim (pi_keys h) fun σ H R ⟨M, ev, g, Rd, Y, c, d, q, x⟩ => ⟨M, ev, g, _, Y, c, d, fun v d g1 H1 hr s r k => by
    obtain ⟨p, o, us, kvs, rfl, h1, h2⟩ := k
    cases r
    exact ⟨p, o, rfl, .inl ⟨us, (mo_lck hr h1).1, q _ _ _ _ _ hr s (keys_it hr h1) h2⟩⟩, x⟩
theorem lck_in {KK : KM} {g : Ah} {H : Hp} {a : Addr} {o : Obj} {us : List (Key × V)} {kvs : List (Key × Dv)} (hr : HR KK g H) (e : g a = some (.dct kvs)) (h1 : H a = some (.dK us)) (h2 : RpP KK g H us kvs) : HR KK (ups g a (.lck o us kvs)) (upd H a (.frz o (.dK us))) ∧ Stp g H (ups g a (.lck o us kvs)) (upd H a (.frz o (.dK us))) :=
  ⟨hr_put hr (.inr (mo_ne e)) (show OkO _ _ _ (.frz _ _) (.lck _ _ _) from ⟨⟨rfl, rfl⟩, h2⟩), stp_put hr (.inr (mo_ne e))⟩
theorem lck_out {KK : KM} {g : Ah} {H : Hp} {a : Addr} {o : Obj} {us : List (Key × V)} {kvs : List (Key × Dv)} (hr : HR KK g H) (e : g a = some (.lck o us kvs)) : H a = some (.frz o (.dK us)) ∧ HR KK (ups g a (.dct kvs)) (upd H a (.dK us)) ∧ Stp g H (ups g a (.dct kvs)) (upd H a (.dK us)) := by
  obtain ⟨h1, h2⟩ := mo_lck hr e
  exact ⟨h1, hr_put hr (.inr (mo_ne e)) (show OkO _ _ _ (.dK _) (.dct _) from h2), stp_put hr (.inr (mo_ne e))⟩
theorem ds_lk (h : PS X st (lS K W A)) : PS X st (lS K W (sLk A)) :=
  psm (ps_lock h) fun E σ H ⟨M, ev, g, P, c, ⟨a, kvs, e, d⟩, l⟩ => by
    obtain ⟨us, h1, h2⟩ := mo_dct c.hr e
    refine ⟨a, _, h1, trivial, fun od => ?_⟩
    obtain ⟨hr1, s1⟩ := lck_in (o := od) c.hr e h1 h2
    refine ⟨M, ev, _, _, c.go hr1 s1, d od us, ⟨fun σ' ev' g' H' c' s' ⟨k1, k2⟩ => ?_, fun v x g' H' r' s' rv ⟨k1, k2⟩ => ?_, fun σ' ev' g' H' c' s' ⟨k1, k2⟩ => ?_, fun σ' ev' g' H' c' s' ⟨k1, k2⟩ => ?_, fun _ _ _ _ _ _ _ _ _ _ z => z.elim⟩⟩
    · obtain ⟨h3, hr3, s3⟩ := lck_out c'.hr k1
      exact ⟨h3, l.nx _ _ _ _ (c'.go hr3 s3) ((s1.trans s').trans s3) k2⟩
    · obtain ⟨h3, hr3, s3⟩ := lck_out r' k1
      exact ⟨h3, l.rt _ _ _ _ hr3 ((s1.trans s').trans s3) (rv.go s3) k2⟩
    · obtain ⟨h3, hr3, s3⟩ := lck_out c'.hr k1
      exact ⟨h3, l.bk _ _ _ _ (c'.go hr3 s3) ((s1.trans s').trans s3) k2⟩
    · obtain ⟨h3, hr3, s3⟩ := lck_out c'.hr k1
      exact ⟨h3, l.ct _ _ _ _ (c'.go hr3 s3) ((s1.trans s').trans s3) k2⟩
theorem de_lk (h : PE X e (lE K W Da)) : PE X e (lE K W (dLk Da)) :=
  pem (pe_lock h) fun σ H Q ⟨M, ev, g, R, Y, c, ⟨a, kvs, e, d⟩, q, x⟩ => by
    obtain ⟨us, h1, h2⟩ := mo_dct c.hr e
    refine ⟨a, _, h1, trivial, fun od => ?_⟩
    obtain ⟨hr1, s1⟩ := lck_in (o := od) c.hr e h1 h2
    refine ⟨M, ev, _, _, _, c.go hr1 s1, d od us, fun v x g' H' r' s' rv ⟨k1, k2⟩ => ?_, fun _ _ _ _ _ _ _ _ z => z.elim⟩
    obtain ⟨h3, hr3, s3⟩ := lck_out r' k1
    exact ⟨h3, q _ _ _ _ hr3 ((s1.trans s').trans s3) (rv.go s3) k2⟩
end
section
variable {X : Xc} {ev : Ev} {g : Ah} {R : DQ} {a e : DE} {P : De} {s : DS} {p : Addr} {kvs : List (Key × Dv)} {d : Dv} {o : Obj} {us : List (Key × V)} {ky : Key} {x : Dv}
theorem r_slk (h : g p = some (.dct kvs)) (k : ∀ o us, s ⟨fun ev' g' => g' p = some (.lck o us kvs) ∧ P.nx ev' (ups g' p (.dct kvs)), fun v g' => g' p = some (.lck o us kvs) ∧ P.rt v (ups g' p (.dct kvs)), fun ev' g' => g' p = some (.lck o us kvs) ∧ P.bk ev' (ups g' p (.dct kvs)), fun ev' g' => g' p = some (.lck o us kvs) ∧ P.ct ev' (ups g' p (.dct kvs)), fun _ _ _ => False⟩ ev (ups g p (.lck o us kvs))) : sLk s P ev g := ⟨p, kvs, h, k⟩
theorem r_dlk (h : g p = some (.dct kvs)) (k : ∀ o us, e (fun _ _ => False) ev (ups g p (.lck o us kvs)) fun v g' => g' p = some (.lck o us kvs) ∧ R v (ups g' p (.dct kvs))) : dLk e X ev g R := ⟨p, kvs, h, k⟩
def keyQ (Rd : List Dv → (Ah → Prop) → Ah → Prop) (d : Dv) (g : Ah) : Prop := ∃ p o us kvs, d = .ref p ∧ g p = some (.lck o us kvs) ∧ Rd (kvs.map fun kv => kD kv.1) (fun g' => g' p = g p) g
theorem r_keys {Rd : List Dv → (Ah → Prop) → Ah → Prop} (h : a X ev g (keyQ Rd)) : diKeys a X ev g Rd := h
theorem r_keysL {Rd : List Dv → (Ah → Prop) → Ah → Prop} (h : g p = some (.lck o us kvs)) (k : Rd (kvs.map fun kv => kD kv.1) (fun g' => g' p = g p) g) : keyQ Rd (.ref p) g := ⟨p, o, us, kvs, rfl, h, k⟩
theorem r_ixK (h1 : g p = some (.lck o us kvs)) (hk : kOf d = some ky) (h2 : valD kvs ky = some x) (h : R x g) : qIx (.ref p) d g R := by
  have e : vw g (.ref p) = .ref p := by rw [vw_refE, h1]; rfl
  unfold qIx
  rw [e]
  simp only [h1]
  show got ((kOf d).bind _) _
  rw [hk]
  show got (valD kvs ky) _
  rw [h2]
  exact h
end
/-- a comprehension, a loop, that tells nothing to the objects that are there -/
theorem comp_pure {α : Type} {T : DTn} {t : DTs} {e : DE} {inv : Ah → Prop} {k : List Dv → Ah → Prop} {ev : Ev} {xs : List Dv} {g : Ah} (ys : List α) (dx : α → Dv) (p : α → Bool) (f : α → Dv) (hx : xs = ys.map dx) (hz : ys.length ≤ 100000) (hi : ∀ g', Agr [] g g' → inv g')
    (hs : ∀ x ∈ ys, ∀ (g' : Ah) (N : Ah → Prop) (MM : Dv → Ah → Prop), Agr [] g g' → (p x = false → ∀ g2, Agr [] g' g2 → N g2) → (p x = true → ∀ g2, Agr [] g' g2 → MM (f x) g2) → T (dx x) ev fun ev1 => t Y0 ev1 g' fun b g1 => if b = true then e Y0 ev1 g1 MM else N g1)
    (hk : ∀ g', Agr [] g g' → k ((ys.filter p).map f) g') : dCo T t e inv xs [] ev g k := by
  subst hx
  refine comp_inv (fun n acc g' => acc = ((ys.take n).filter p).map f ∧ acc.length ≤ n ∧ Agr [] g g') 0 ⟨rfl, Nat.le_refl _, .refl⟩ (fun _ _ _ h => hi _ h.2.2) ?_ ?_
  · rintro i x acc g' N MM hv ⟨rfl, hl, ag⟩ hN hM
    rw [Nat.zero_add] at hl hN hM
    rw [List.getElem?_map] at hv
    cases hy : ys[i]? with
    | none => rw [hy] at hv; cases hv
    | some y =>
      rw [hy] at hv
      cases hv
      have hi' : i < ys.length := lt_of_get hy
      have tk : ys.take (i + 1) = ys.take i ++ [y] := by rw [List.take_add_one, hy]; rfl
      refine hs y (List.mem_of_getElem? hy) g' N MM ag (fun hp g2 ag2 => hN g2 ?_) fun hp g2 ag2 => hM _ g2 ⟨szl' (by omega), ?_⟩
      · refine ⟨?_, by omega, ag.trans ag2⟩
        rw [tk, List.filter_append, List.filter_cons_of_neg (by rw [hp]; decide), List.filter_nil, List.append_nil]
      · refine ⟨?_, by rw [List.length_append]; exact Nat.succ_le_succ hl, ag.trans ag2⟩
        rw [tk, List.filter_append, List.filter_cons_of_pos hp, List.filter_nil, List.map_append]; rfl
  · rintro acc g' ⟨rfl, _, ag⟩
    rw [Nat.zero_add, List.length_map, List.take_length]
    exact hk g' ag
theorem loop_fold {α σ : Type} {G : Dv → Ev → Ah → (Ev → Ah → Prop) → Prop} {B : DS} {P : De} {inv : Ah → Prop} {xs : List Dv} {ev : Ev} {g : Ah} (ys : List α) (dx : α → Dv) (F : σ → α → σ) (E : σ → Ev → Prop) (s0 : σ) (hx : xs = ys.map dx) (h0 : E s0 ev) (hi : ∀ g', Agr [] g g' → inv g')
    (hs : ∀ s x ev g' (N : Ev → Ah → Prop), x ∈ ys → E s ev → Agr [] g g' → (∀ ev g2, E (F s x) ev → Agr [] g' g2 → N ev g2) → G (dx x) ev g' fun ev1 g1 => B { P with nx := N, ct := N, bk := P.nx } ev1 g1)
    (hk : ∀ ev g', E (ys.foldl F s0) ev → Agr [] g g' → P.nx ev g') : dLoop G B P inv xs ev g := by
  subst hx
  refine loop_inv (fun n ev g' => E ((ys.take n).foldl F s0) ev ∧ Agr [] g g') 0 ⟨h0, .refl⟩ (fun _ _ _ h => hi _ h.2) ?_ ?_
  · rintro i x ev g' N hv ⟨hE, ag⟩ hN
    rw [Nat.zero_add] at hE hN
    rw [List.getElem?_map] at hv
    cases hy : ys[i]? with
    | none => rw [hy] at hv; cases hv
    | some y =>
      rw [hy] at hv
      cases hv
      have tk : ys.take (i + 1) = ys.take i ++ [y] := by rw [List.take_add_one, hy]; rfl
      refine hs _ y ev g' N (List.mem_of_getElem? hy) hE ag fun ev2 g2 h2 ag2 => hN ev2 g2 ⟨?_, ag.trans ag2⟩
      rw [tk, List.foldl_append]
      exact h2
  · rintro ev g' ⟨hE, ag⟩
    rw [Nat.zero_add, List.length_map, List.take_length] at hE
    exact hk ev g' hE ag
/-! ### is, is not of truth values -/
def qIsB (b : Bool) : DR2 := fun d e g R => ∃ x y, d = .bl x ∧ e = .bl y ∧ R (.bl ((x == y) == b)) g
section
variable {X : Cx} (K : PySem.W.Frag)
theorem oj_isB : OpR X (compareOp .Is) (lR K (qIsB true)) := opm op_isBl fun x y H Q ⟨M, d, e, g, R, hr, rx, ry, q, k⟩ => by
  obtain ⟨a, b, rfl, rfl, q⟩ := q
  cases rx
  cases ry
  exact ⟨a, b, rfl, rfl, ql_now hr k (.bl _) (by rw [show decide (a = b) = ((a == b) == true) by cases a <;> cases b <;> rfl]; exact q)⟩
theorem oj_isnotB : OpR X (compareOp .IsNot) (lR K (qIsB false)) := opm op_notBl fun x y H Q ⟨M, d, e, g, R, hr, rx, ry, q, k⟩ => by
  obtain ⟨a, b, rfl, rfl, q⟩ := q
  cases rx
  cases ry
  exact ⟨a, b, rfl, rfl, ql_now hr k (.bl _) (by rw [show (!decide (a = b)) = ((a == b) == false) by cases a <;> cases b <;> rfl]; exact q)⟩
end
/-! ### order of tuples of numbers -/
def cmpI : List Int → List Int → Ordering
  | [], [] => .eq
  | [], _ :: _ => .lt
  | _ :: _, [] => .gt
  | x :: xs, y :: ys => if x < y then .lt else if y < x then .gt else cmpI xs ys
theorem cm_I : ∀ ns ms : List Int, CmL (ns.map PyData.int) (ms.map PyData.int) (cmpI ns ms)
  | [], [] => .nn
  | [], _ :: _ => .nc
  | _ :: _, [] => .cn
  | x :: xs, y :: ys => by
    unfold cmpI
    by_cases h : x < y
    · rw [if_pos h]; exact .diff (.ilt h) (by decide)
    · rw [if_neg h]
      by_cases h2 : y < x
      · rw [if_pos h2]; exact .diff (.igt h2) (by decide)
      · rw [if_neg h2]
        obtain rfl : x = y := by omega
        exact .same .ieq (cm_I xs ys)
theorem lay_I : ∀ ns : List Int, PyData.canLayAll0 (ns.map PyData.int) = true
  | [] => rfl
  | _ :: ns => by
    show (PyData.canLay0 _ && PyData.canLayAll0 (ns.map PyData.int)) = true
    rw [lay_I ns]
    rfl
theorem dep_I : ∀ ns : List Int, PyData.depthAll (ns.map PyData.int) ≤ 1
  | [] => by decide
  | n :: ns => by
    have := dep_I ns
    simp only [List.map_cons, PyData.depthAll, PyData.depth]
    omega
section
variable {prog : Program} {w : World} {A : Around} {E : Value → Shared → Prop} {s : Shared}
def tupI (ns : List Int) : PyData := .tuple (ns.map PyData.int)
theorem rc_I {s' : Shared} {u v : Value} {as bs : List Addr} (ns ms : List Int) (h1 : Reads s'.heap u (tupI ns) as) (h2 : Reads s'.heap v (tupI ms) bs) (hu : A.units + 4 < cLine) :
    Ob.RcOp .Lt A s' u v (cmpI ns ms == .lt) ∧ Ob.RcOp .Gt A s' u v (cmpI ns ms == .gt) :=
  Cm.rc (.tup (cm_I ns ms)) h1 h2 (lay_I ns) (lay_I ms) (by
    have := dep_I ns
    simp only [PyData.depth]
    omega)
theorem cmpIn_two {op : CmpOp} {o : Ordering} {a b : Value} {ns ms : List Int} {as bs : List Addr} {h : Heap} (hop : op = .Lt ∧ o = .lt ∨ op = .Gt ∧ o = .gt) (h1 : Reads h a (tupI ns) as) (h2 : Reads h b (tupI ms) bs) (hu : A.units + 4 < cLine) :
    CmpIn prog w A op h (fun i v => (#[a, b] : Array Value)[i]? = some v) (fun i j => cmpI (if i = 0 then ns else ms) (if j = 0 then ns else ms) == o) := fun i j vi vj s' Q E' hk hi hj hq => by
  have at2 : ∀ (i : Nat) (v : Value), (#[a, b] : Array Value)[i]? = some v → ∃ cs, Reads s'.heap v (tupI (if i = 0 then ns else ms)) cs := fun i v e => by
    match i, e with
    | 0, e => cases e; exact ⟨_, Reads.keeps hk h1⟩
    | 1, e => cases e; exact ⟨_, Reads.keeps hk h2⟩
    | i + 2, e => cases e
  obtain ⟨_, r1⟩ := at2 i vi hi
  obtain ⟨_, r2⟩ := at2 j vj hj
  obtain ⟨c1, c2⟩ := rc_I (A := A) _ _ r1 r2 hu
  rcases hop with ⟨rfl, rfl⟩ | ⟨rfl, rfl⟩
  · exact c1 prog w E' Q hq
  · exact c2 prog w E' Q hq
theorem max_two_I {a b : Value} {ns ms : List Int} {as bs : List Addr} {Q : Value → Shared → Prop} (hh : A.handled = none) (h1 : Reads s.heap a (tupI ns) as) (h2 : Reads s.heap b (tupI ms) bs) (hu : A.units + 6 < cLine)
    (h : ∀ h' tk, (∀ c o, s.heap.get? c = some o → h'.get? c = some o) → Q (if cmpI ms ns == .gt then b else a) { s with heap := h', toks := tk }) : wpAny (model prog w) A (call (.builtin "max") [a, b]) Q E s := by
  have hname : (toString "max" ++ toString ".loop" : String) = "max.loop" := by decide
  refine call_function_tree F.kind_max F.plain_max F.entry_max (F.args_max2 _ _) ?_
  refine wpAny_bind (wpAny_of_eq (show Builtin.Builtins.bindParams "max" ["key", "default"] 0 ⟨[], []⟩ = pure [none, none] from rfl) ?_)
  refine wpAny_bind (wpAny_newObj_type ?_)
  have keep : ∀ c o, s.heap.get? c = some o → (s.heap.push { cls := .type "tuple", data := .seq #[a, b] }).get? c = some o := fun c o e => Heap.get?_push_of_some _ e
  refine wpAny_bind (PySem.W.iter_tupleW (A := A.in1) hh (l := s.heap.objs.size) (vs := #[a, b]) ⟨_, Heap.get?_push_size _ rfl, rfl, 0, rfl⟩ fun s₂ e W st hfp hw hk => ?_)
  refine wpAny_bind (wpAny_newObj_type ?_)
  have hSf := fun hm => Nat.lt_irrefl _ (hfp s₂.heap.objs.size hm)
  rw [hname]
  refine wpAny_pure ⟨plainId_quiet F.plain_max_loop _, codeAny_max_loop_firstH W _ hw _ (cmpIn_two (A := A.in1) (op := .Gt) (o := .gt) (.inr ⟨rfl, rfl⟩) (Reads.keeps keep h1) (Reads.keeps keep h2) (by show A.units + 1 + 4 < _; omega)) s₂.heap.objs.size hSf (fresh_in hk) _ (show 0 < 2 from Nat.zero_lt_two) (fun b o e => Heap.get?_push_of_some _ (hk b o e)) (W.frame 0 s₂ _ s₂.toks st (Nat.le_refl _) fun b _ o e => Heap.get?_push_of_some _ e) (Heap.get?_push_size _ rfl) fun v s' hP hm => ?_⟩
  obtain ⟨h', tk, rfl, hk'⟩ := PySem.W.moved_old e rfl (Moved.drop_new (tk := s₂.toks) hm (Nat.le_refl _))
  have q := h h' tk fun c o e => hk' c o (keep c o e)
  have hv : v = if cmpI ms ns == .gt then b else a := by
    change (#[a, b] : Array Value)[if cmpI ms ns == .gt then 1 else 0]? = some v at hP
    cases e : (cmpI ms ns == .gt) with
    | true => rw [e] at hP; cases hP; rfl
    | false => rw [e] at hP; cases hP; rfl
  rw [hv]
  exact q
theorem min_two_I {a b : Value} {ns ms : List Int} {as bs : List Addr} {Q : Value → Shared → Prop} (hh : A.handled = none) (h1 : Reads s.heap a (tupI ns) as) (h2 : Reads s.heap b (tupI ms) bs) (hu : A.units + 6 < cLine)
    (h : ∀ h' tk, (∀ c o, s.heap.get? c = some o → h'.get? c = some o) → Q (if cmpI ms ns == .lt then b else a) { s with heap := h', toks := tk }) : wpAny (model prog w) A (call (.builtin "min") [a, b]) Q E s := by
  have hname : (toString "min" ++ toString ".loop" : String) = "min.loop" := by decide
  refine call_function_tree F.kind_min F.plain_min F.entry_min (F.args_min2 _ _) ?_
  refine wpAny_bind (wpAny_of_eq (show Builtin.Builtins.bindParams "min" ["key", "default"] 0 ⟨[], []⟩ = pure [none, none] from rfl) ?_)
  refine wpAny_bind (wpAny_newObj_type ?_)
  have keep : ∀ c o, s.heap.get? c = some o → (s.heap.push { cls := .type "tuple", data := .seq #[a, b] }).get? c = some o := fun c o e => Heap.get?_push_of_some _ e
  refine wpAny_bind (PySem.W.iter_tupleW (A := A.in1) hh (l := s.heap.objs.size) (vs := #[a, b]) ⟨_, Heap.get?_push_size _ rfl, rfl, 0, rfl⟩ fun s₂ e W st hfp hw hk => ?_)
  refine wpAny_bind (wpAny_newObj_type ?_)
  have hSf := fun hm => Nat.lt_irrefl _ (hfp s₂.heap.objs.size hm)
  rw [hname]
  refine wpAny_pure ⟨plainId_quiet F.plain_min_loop _, codeAny_min_loop_firstH W _ hw _ (cmpIn_two (A := A.in1) (op := .Lt) (o := .lt) (.inl ⟨rfl, rfl⟩) (Reads.keeps keep h1) (Reads.keeps keep h2) (by show A.units + 1 + 4 < _; omega)) s₂.heap.objs.size hSf (fresh_in hk) _ (show 0 < 2 from Nat.zero_lt_two) (fun b o e => Heap.get?_push_of_some _ (hk b o e)) (W.frame 0 s₂ _ s₂.toks st (Nat.le_refl _) fun b _ o e => Heap.get?_push_of_some _ e) (Heap.get?_push_size _ rfl) fun v s' hP hm => ?_⟩
  obtain ⟨h', tk, rfl, hk'⟩ := PySem.W.moved_old e rfl (Moved.drop_new (tk := s₂.toks) hm (Nat.le_refl _))
  have q := h h' tk fun c o e => hk' c o (keep c o e)
  have hv : v = if cmpI ms ns == .lt then b else a := by
    change (#[a, b] : Array Value)[if cmpI ms ns == .lt then 1 else 0]? = some v at hP
    cases e : (cmpI ms ns == .lt) with
    | true => rw [e] at hP; cases hP; rfl
    | false => rw [e] at hP; cases hP; rfl
  rw [hv]
  exact q
end
theorem pds_I : ∀ ns : List Int, pds (ns.map Dv.int) = some (ns.map PyData.int)
  | [] => rfl
  | n :: ns => by
    show (pd (.int n)).bind (fun p => (pds (ns.map Dv.int)).map (p :: ·)) = _
    rw [pds_I ns]
    rfl
theorem pd_I (ns : List Int) : pd (.tup (ns.map Dv.int)) = some (tupI ns) := by
  show (pds (ns.map Dv.int)).map PyData.tuple = _
  rw [pds_I]
  rfl
/-! ### max, min, <= of tuples of numbers -/
def cMaxT : DCq := fun ds g R => ∃ ns ms : List Int, ds = [.tup (ns.map Dv.int), .tup (ms.map Dv.int)] ∧ R (.tup ((if cmpI ms ns == .gt then ms else ns).map Dv.int)) g
def cMinT : DCq := fun ds g R => ∃ ns ms : List Int, ds = [.tup (ns.map Dv.int), .tup (ms.map Dv.int)] ∧ R (.tup ((if cmpI ms ns == .lt then ms else ns).map Dv.int)) g
def qLeT : DR2 := fun d e g R => ∃ ns ms : List Int, d = .tup (ns.map Dv.int) ∧ e = .tup (ms.map Dv.int) ∧ R (.bl (cmpI ns ms != .gt)) g
section
variable {X : Cx} (K : PySem.W.Frag)
theorem cj_maxT (hc : X.calm = true) (hu : X.A.units + 64 < cLine) (hK : X.K = K := by rfl) : CallR X (.builtin "max") (lC K cMaxT) := by
  subst hK
  intro pins s σ H xs us Q I rv ⟨M, ds, g, R, hr, r, q, k⟩
  obtain ⟨ns, ms, rfl, q⟩ := q
  obtain ⟨x, y, rfl, rx, ry⟩ := rp2 r
  obtain ⟨u, v, rfl, r1, r2⟩ := vals2 rv
  obtain ⟨as, h1⟩ := Dp.reads I _ x u (rx.dp (pd_I ns)) r1
  obtain ⟨bs, h2⟩ := Dp.reads I _ y v (ry.dp (pd_I ms)) r2
  refine max_two_I (I.ok.hd hc) h1 h2 (by omega) fun h' tk kk => ⟨if cmpI ms ns == .gt then y else x, H, I.kept kk, ?_, ?_⟩
  · cases cmpI ms ns == .gt
    · exact r1
    · exact r2
  · cases e : cmpI ms ns == .gt
    · rw [e] at q; exact ql_now hr k rx q
    · rw [e] at q; exact ql_now hr k ry q
theorem cj_minT (hc : X.calm = true) (hu : X.A.units + 64 < cLine) (hK : X.K = K := by rfl) : CallR X (.builtin "min") (lC K cMinT) := by
  subst hK
  intro pins s σ H xs us Q I rv ⟨M, ds, g, R, hr, r, q, k⟩
  obtain ⟨ns, ms, rfl, q⟩ := q
  obtain ⟨x, y, rfl, rx, ry⟩ := rp2 r
  obtain ⟨u, v, rfl, r1, r2⟩ := vals2 rv
  obtain ⟨as, h1⟩ := Dp.reads I _ x u (rx.dp (pd_I ns)) r1
  obtain ⟨bs, h2⟩ := Dp.reads I _ y v (ry.dp (pd_I ms)) r2
  refine min_two_I (I.ok.hd hc) h1 h2 (by omega) fun h' tk kk => ⟨if cmpI ms ns == .lt then y else x, H, I.kept kk, ?_, ?_⟩
  · cases cmpI ms ns == .lt
    · exact r1
    · exact r2
  · cases e : cmpI ms ns == .lt
    · rw [e] at q; exact ql_now hr k rx q
    · rw [e] at q; exact ql_now hr k ry q
/-- from a place on -/
theorem lexAt_I : ∀ (ns ms : List Int) (i : Nat) (e r : Nat → Bool) (z : Bool), (∀ j, e (i + j) = decide (ns.getD j 0 = ms.getD j 0)) → (∀ j, r (i + j) = decide (ns.getD j 0 ≤ ms.getD j 0)) → z = decide (ns.length ≤ ms.length) →
    Ob.lexAt e r z i (min ns.length ms.length) = (cmpI ns ms != .gt)
  | [], [], _, _, _, _, _, _, hz => by rw [hz]; rfl
  | [], y :: ms, _, _, _, _, _, _, hz => by
    rw [hz, List.length_nil, Nat.zero_min, Ob.lexAt_zero]
    rfl
  | x :: ns, [], _, _, _, _, _, _, hz => by
    rw [hz, List.length_nil, Nat.min_zero, Ob.lexAt_zero]
    rfl
  | x :: ns, y :: ms, i, e, r, z, he, hr, hz => by
    rw [List.length_cons, List.length_cons, show min (ns.length + 1) (ms.length + 1) = min ns.length ms.length + 1 by omega, Ob.lexAt_succ]
    have e0 : e i = decide (x = y) := he 0
    have r0 : r i = decide (x ≤ y) := hr 0
    unfold cmpI
    by_cases h : x < y
    · rw [e0, decide_eq_false (by omega), if_neg (by decide), r0, decide_eq_true (by omega), if_pos h]
      rfl
    · by_cases h2 : y < x
      · rw [e0, decide_eq_false (by omega), if_neg (by decide), r0, decide_eq_false (by omega), if_neg h, if_pos h2]
        rfl
      · rw [e0, decide_eq_true (by omega), if_pos rfl, if_neg h, if_neg h2]
        refine lexAt_I ns ms (i + 1) e r z (fun j => ?_) (fun j => ?_) ?_
        · rw [show i + 1 + j = i + (j + 1) by omega]; exact he (j + 1)
        · rw [show i + 1 + j = i + (j + 1) by omega]; exact hr (j + 1)
        · rw [hz, List.length_cons, List.length_cons]
          exact decide_eq_decide.mpr Nat.add_le_add_iff_right
theorem oj_leT (hu : X.A.units + 64 < cLine) (hK : X.K = K := by rfl) : OpR X (compareOp .LtE) (lR K qLeT) := by
  subst hK
  refine opm (op_leT (by omega)) fun x y H Q ⟨M, d, e, g, R, hr, rx, ry, q, k⟩ => ?_
  obtain ⟨ns, ms, rfl, rfl, q⟩ := q
  obtain ⟨a, us, rfl, h1, h2⟩ := rp_tup rx
  obtain ⟨b, vs, rfl, h3, h4⟩ := rp_tup ry
  obtain rfl := rp_ints' h2
  obtain rfl := rp_ints' h4
  refine ⟨a, b, ns, ms, rfl, rfl, SqT.of h1, SqT.of h3, ?_⟩
  rw [lexAt_I ns ms 0 _ _ _ (fun j => by rw [Nat.zero_add]) (fun j => by rw [Nat.zero_add]) rfl]
  exact ql_now hr k (.bl _) q
end
/-! ### list.index of numbers, str.index -/
def mIndexI : DMq := fun d ds g R => ∃ (ns : List Int) (n : Int) (j : Nat), vw g d = .lst (ns.map Dv.int) ∧ ds = [.int n] ∧ ns[j]? = some n ∧ (∀ m, m < j → ns[m]? ≠ some n) ∧ R (.int (j : Nat)) g
def mIndexS : DMq := fun d ds g R => ∃ (z y : Str) (i : Nat) (rest : List Nat), d = .str z ∧ ds = [.str y] ∧ Builtin.Str.occurrences z y 0 z.length 1 = i :: rest ∧ R (.int (i : Nat)) g
section
variable {X : Cx} (K : PySem.W.Frag)
theorem mj_indexI (hK : X.K = K := by rfl) : MtR X "list.index" (lM K mIndexI) := by
  subst hK
  refine mtm mt_index fun x vs H Q ⟨M, d, ds, g, R, hr, rx, rs, q, k⟩ => ?_
  obtain ⟨ns, n, j, h, rfl, hj, hm, q⟩ := q
  obtain ⟨a, us, rfl, h1, h2⟩ := vw_lst rx hr h
  obtain rfl := rp_ints' h2
  obtain ⟨u, rfl, ru⟩ := rp1 rs
  cases ru
  refine ⟨a, _, .int n, j, .int n, rfl, rfl, h1, rfl, List.all_eq_true.mpr fun y hy => ?_, by rw [List.getElem?_map, hj]; rfl, by show (n == n) = true; exact beq_self_eq_true n, fun m z hml hz => ?_, ql_now hr k (.int _) q⟩
  · obtain ⟨i, _, rfl⟩ := List.mem_map.mp hy
    rfl
  · rw [List.getElem?_map] at hz
    obtain ⟨i, e, rfl⟩ := Option.map_eq_some_iff.mp hz
    show (i == n) = false
    exact beq_eq_false_iff_ne.mpr fun h => hm m hml (by rw [e, h])
theorem mj_indexS : MtR X "str.index" (lM K mIndexS) := by
  intro pins s σ H x xs v us Q I rx rxs ⟨M, d, ds, g, R, hr, r, rs, q, k⟩
  obtain ⟨z, y, i, rest, rfl, rfl, ho, q⟩ := q
  cases r
  obtain ⟨u, rfl, ru⟩ := rp1 rs
  cases ru
  obtain ⟨w', rfl, t', rfl⟩ := vals1 rxs
  obtain ⟨t, rfl⟩ := rx
  exact call_gives PySem.F.slot_str_index (typeIs_str _ _ _) PySem.F.entry_str_index (PySem.F.args_str_index_2 _ _) (gives_str_index z y t t' i rest ho) ⟨.int (i : Int), H, I.tok _, ⟨_, rfl⟩, ql_now hr k (.int _) q⟩
end
/-! ### readings -/
theorem r_maxT {ns ms : List Int} {R : DQ} {g : Ah} (h : R (.tup ((if cmpI ms ns == .gt then ms else ns).map Dv.int)) g) : cMaxT [.tup (ns.map Dv.int), .tup (ms.map Dv.int)] g R := ⟨ns, ms, rfl, h⟩
theorem r_minT {ns ms : List Int} {R : DQ} {g : Ah} (h : R (.tup ((if cmpI ms ns == .lt then ms else ns).map Dv.int)) g) : cMinT [.tup (ns.map Dv.int), .tup (ms.map Dv.int)] g R := ⟨ns, ms, rfl, h⟩
theorem r_leT {ns ms : List Int} {R : DQ} {g : Ah} (h : R (.bl (cmpI ns ms != .gt)) g) : qLeT (.tup (ns.map Dv.int)) (.tup (ms.map Dv.int)) g R := ⟨ns, ms, rfl, rfl, h⟩
theorem shp_I (ns : List Int) : SeqAt.shaped (tupI ns) = true := by
  have h := dep_I ns
  refine Bool.and_eq_true_iff.mpr ⟨lay_I ns, decide_eq_true ?_⟩
  show PyData.depthAll (ns.map PyData.int) + 1 ≤ 64
  omega
/-- < of tuples of numbers -/
theorem r_ltIT {ns ms : List Int} {R : DQ} {g : Ah} (h : R (.bl (cmpI ns ms == .lt)) g) : qLt false false (.tup (ns.map Dv.int)) (.tup (ms.map Dv.int)) g R :=
  ⟨rfl, _, _, _, pds_I ns, pds_I ms, .tup (cm_I ns ms), shp_I ns, shp_I ms, h⟩
theorem r_gtIT {ns ms : List Int} {R : DQ} {g : Ah} (h : R (.bl (cmpI ns ms == .gt)) g) : qLt true false (.tup (ns.map Dv.int)) (.tup (ms.map Dv.int)) g R :=
  ⟨rfl, _, _, _, pds_I ns, pds_I ms, .tup (cm_I ns ms), shp_I ns, shp_I ms, h⟩
theorem r_isBl {x y bb : Bool} {R : DQ} {g : Ah} (h : R (.bl ((x == y) == bb)) g) : qIsB bb (.bl x) (.bl y) g R := ⟨x, y, rfl, rfl, h⟩
theorem r_indexI {d : Dv} {ns : List Int} {n : Int} {j : Nat} {R : DQ} {g : Ah} (h1 : vw g d = .lst (ns.map Dv.int)) (h2 : ns[j]? = some n) (h3 : ∀ m, m < j → ns[m]? ≠ some n) (h : R (.int (j : Nat)) g) : mIndexI d [.int n] g R := ⟨ns, n, j, h1, rfl, h2, h3, h⟩
theorem r_indexS {z y : Str} {i : Nat} {rest : List Nat} {R : DQ} {g : Ah} (h1 : Builtin.Str.occurrences z y 0 z.length 1 = i :: rest) (h : R (.int (i : Nat)) g) : mIndexS (.str z) [.str y] g R := ⟨z, y, i, rest, rfl, rfl, h1, h⟩
/-! ### an exception that leaves a comprehension: noted at its frame, the block's names let go, passed on -/
section
variable {M : Model} {A : Around} {E : Value → Shared → Prop} {s : Shared}
theorem look_any {Z : Obj → Prop} {B : Heap} {env : Env} {l : List Env} {L a : Addr} {fl : Value} {Q : Unit → Shared → Prop} (hZ : HandSPX.Steady Z) (hA : A.frames = some (env :: l)) (hf : env.frame = some L)
    (st : B.StaysIn s.heap) (na : B.get? a = none) (fr : s.heap.FunFrames B (env :: l)) (tr : HandSPX.TracedZ s.heap B a Z fl)
    (k : ∀ h1, HandSPX.HeldZ B (env :: l) a Z L h1 → s.heap.UpToSlots h1 → Q () { s with heap := h1 }) : wpAny M A (noteFrame (.ref a) env) Q E s := by
  by_cases same : (fl == rawInt L) = true
  · have e := beq_iff_eq.mp same
    subst e
    exact HandSPX.againZ hf tr (k s.heap ⟨st, na, fr, tr⟩ (Heap.UpToSlots.refl _))
  · obtain ⟨ob, vs, T, oT, ts, ha, hz, hd, h1, nT, hTa, hT, hdT, h3⟩ := tr
    unfold noteFrame
    simp only [hf]
    refine wpAny_bind (wpAny_field ha hd h1 ?_)
    rw [if_pos (by simp : (Value.ref T != Value.none) = true)]
    refine wpAny_bind (wpAny_field hT hdT h3 ?_)
    rw [if_neg same]
    refine wpAny_bind (wpAny_setField hT hdT (Array.getElem?_eq_some_iff.mp h3).1 ?_)
    have oth : ∀ b, b ≠ T → (s.heap.update T (Obj.mapFields (·.setIfInBounds 3 Value.none))).get? b = s.heap.get? b := fun b n => Heap.get?_update_other _ _ (Ne.symm n)
    have nrec : ∀ b o, s.heap.get? b = some o → (∀ us, o.data ≠ .fields us) → b ≠ T := fun b o e nf z => by
      rw [z, hT] at e
      cases e
      exact nf ts hdT
    refine HandSPX.wpAny_entryZ hZ hA (fr.of_keeps fun b o e nf => ⟨o, (oth b (nrec b o e nf)).trans e, rfl⟩) hf ((oth a (Ne.symm hTa)).trans ha)
      (fun b o e => (oth b fun z => by rw [z, nT] at e; cases e).trans (st b o e)) na hd (Array.getElem?_eq_some_iff.mp h1).1 hz fun h' nt => ?_
    obtain ⟨y1, y2, y3, y4⟩ := nt
    exact k h' ⟨y1, na, y2, y3⟩ fun b o e nf => y4 b o ((oth b (nrec b o e nf)).trans e) nf
theorem sky_note {Z : Obj → Prop} {B : Heap} {env : Env} {l : List Env} {L C a : Addr} {Q : Unit → Shared → Prop} (hZ : HandSPX.Steady Z) (hA : A.frames = some (env :: l)) (hf : env.frame = some L) (x : Sky B (env :: l) a Z C s.heap)
    (k : ∀ h1, HandSPX.HeldZ B (env :: l) a Z L h1 → s.heap.UpToSlots h1 → Q () { s with heap := h1 }) : wpAny M A (noteFrame (.ref a) env) Q E s := by
  rcases x with ⟨st, na, fr, ob, vs, ha, hz, hd, h1⟩ | ⟨st, na, fr, tr⟩ | ⟨st, na, fr, tr⟩
  · exact HandSPX.look_newZ hZ hA fr hf ha st na hd h1 hz k
  · exact look_any hZ hA hf st na fr tr k
  · exact look_any hZ hA hf st na fr tr k
/-- what is asked where an exception is behind the block's loop -/
def ErrP (M : Model) (A : Around) (E : Value → Shared → Prop) (ce : Env) (x : Value) (s' : Shared) : Prop := ∃ m, s'.heap.Ns ce.locals m ∧ ∀ h', Heap.SameBut ce.locals s'.heap h' → wpAny M A (passOn "comprehension.variables-let-go" x ce : Sem Value) (fun _ _ => False) E { s' with heap := h' }
def PostX (M : Model) (A : Around) (E : Value → Shared → Prop) (Q : Value → Shared → Prop) (acc : Value) (ce : Env) : Result → Shared → Prop := fun r s' => match r with
  | .ok _ => ∃ m, s'.heap.Ns ce.locals m ∧ ∀ h', Heap.SameBut ce.locals s'.heap h' → Q acc { s' with heap := h' }
  | .error x => ErrP M A E ce x s'
theorem comp_x {env : Env} {e : Expr} {scope : Scope} {pos : Pos} {mk first : Sem Value} {g : Comprehension} {gs : List Comprehension} {cl : List (Str × Addr)} {Q : Value → Shared → Prop}
    (hcl : clausesOf e = g :: gs) (hs : ∀ x, foldedSetIterable g.iter env x = pure x) (hclos : closureFor scope env = pure cl) (hk : scope.kind = .function) (hn : ∀ x ∈ scope.names, x.2 = .local → scope.names.lookup x.1 = some .local)
    (h : wpAny M A first (fun x s1 => wpAny M A (pyIter x) (fun it s2 => wpAny M A mk (fun acc s3 => wpAny M A (newFunctionEnv scope env.globals cl [] env.qual none .none (some env))
      (fun ce s4 => codeAny M A (.compStart e 0 it acc { ce with scope := relabel scope env }) (PostX M A E Q acc { ce with scope := relabel scope env }) s4) E s3) E s2) E s1) E s) : wpAny M A (comprehension e scope env pos mk false first none) Q E s := by
  unfold comprehension
  rw [hclos, hcl]
  refine wpAny_bind (thn h fun x s1 h1 => wpAny_bind (wpAny_standAt (wpAny_bind (wpAny_of_eq (hs x) (wpAny_bind (wpAny_holding (thn h1 fun it s2 h2 => wpAny_standIf (wpAny_bind (thn h2 fun acc s3 h3 => wpAny_bind (wpAny_pure (wpAny_bind (thn h3 fun ce s4 h4 => ?_))))))))))))
  dsimp only
  have hv : ∀ x ∈ (scope.names.filter fun x => (x.2 == .local || x.2 == .cell) && x.1 != (".0" : Str)).reverse, x.2 = .local → Env.kindOf { ce with scope := relabel scope env } x.1 = some .local := fun x hx hl =>
    lookup_relabel_local (hn x (List.mem_filter.mp (List.mem_reverse.mp hx)).1 hl)
  refine wpAny_holding (wpAny_bind (wpAny_attempt (wpAny_holding (wpAny_run (codeAny_mono h4 fun r s5 hr => ?_)))))
  match r, hr with
  | .ok _, ⟨m, hm, q⟩ => exact wpAny_bind (wpAny_holding (wpAny_comp_letGo (cenv := { ce with scope := relabel scope env }) hk _ s5 m hv hm fun h' m' _ sb => wpAny_pure (q h' sb)))
  | .error x, ⟨m, hm, q⟩ => exact wpAny_bind (wpAny_holding (wpAny_comp_letGo (cenv := { ce with scope := relabel scope env }) hk _ s5 m hv hm fun h' m' _ sb => wpAny_mono (q h' sb) (fun _ _ z => z.elim) fun _ _ z => z))
end
/-- the context of a block whose exceptions pass -/
abbrev blkE (X : Cx) (s : Shared) (H : Hp) (scope : Scope) (ce : Env) (fp : List Addr) : Cx := { X.blk s H scope ce fp with xe := notedBy (model X.prog X.w) X.A ce (ErrP (model X.prog X.w) X.A X.xe ce) }
theorem inv_e {X : Cx} {s0 s : Shared} {H0 H : Hp} {scope : Scope} {ce : Env} {fp : List Addr} {pins : List (Addr × Obj)} {σ : L2.St} (I : Inv (X.blk s0 H0 scope ce fp) pins σ H s) : Inv (blkE X s0 H0 scope ce fp) pins σ H s :=
  ⟨⟨I.ok.mod, I.ok.kind, I.ok.glob, I.ok.blt, I.ok.above, I.ok.inj, I.ok.has, I.ok.cab, I.ok.hd, I.ok.frames, I.ok.stk, I.ok.exf, I.ok.bs, I.ok.bsz, I.ok.noex, I.ok.exfs, I.ok.funs, I.ok.frf⟩, I.os, I.bare, I.base, I.loc, I.cell, I.free, I.freeC, I.pin, I.hok, I.len⟩
section
variable {X : Cx} {W : WX}
theorem takes_blke {pins : List (Addr × Obj)} {σ : L2.St} {H3 : Hp} {s3 : Shared} {scope : Scope} {ce : Env} {fp : List Addr} (I3 : Inv X pins σ H3 s3) (hs : X.stack = X.env :: X.outer) (hf : X.env.frame = some X.env.locals) (tk : Takes X W)
    (hW : ∀ cls d σ σ' H, W cls d σ H → W cls d σ' H) (hfp : ∀ b ∈ fp, FpOk X pins H3 b) (cL : ce.locals = s3.heap.objs.size) (cF : ce.frame = X.env.frame) : Takes (blkE X s3 H3 scope ce fp) W := by
  rintro u s' ⟨a, B, sI, pins', σ', H', cls, d, rfl, I', nb, up, sky, na, os, ag, w⟩
  have hA : X.A.frames = some (X.env :: X.outer) := by rw [I3.ok.frames, hs]
  have nn : noteFrame (.ref a) ce = noteFrame (.ref a) X.env := by
    unfold noteFrame PySem.frameOf
    rw [cF]
  show wpAny (model X.prog X.w) X.A (noteFrame (.ref a) ce) (fun _ s'' => ErrP (model X.prog X.w) X.A X.xe ce (.ref a) s'') (ErrP (model X.prog X.w) X.A X.xe ce) s'
  rw [nn]
  have sky0 : Sky B (X.env :: X.outer) a (Zc cls d) ce.locals s'.heap := by rw [← hs]; exact sky
  refine sky_note Zc.steady hA hf sky0 fun h1 held up1 => ?_
  obtain ⟨m, hm, _⟩ := I'.loc
  have hm : sI.heap.Ns ce.locals m := hm
  obtain ⟨oC, esC, epC, gC, rC⟩ := hm
  -- the block's own namespace is no frame
  have nC : ce.locals ∉ frs X.stack := fun z => by
    obtain ⟨_, o, e, _⟩ := I3.stack.mem z
    have := Heap.lt_size e
    rw [cL] at this
    exact Nat.lt_irrefl _ this
  have bC : B.get? ce.locals = some oC := nb _ _ gC nC
  obtain ⟨st, nBa, fr, ob, vs, T, oT, ts, ha, hz, hd, h1', nT, hTa, hT, hdT, h3⟩ := held
  refine ⟨m, ⟨oC, esC, epC, st _ _ bC, rC⟩, fun h2 sb => ?_⟩
  have aC : a ≠ ce.locals := fun z => by rw [z, bC] at nBa; cases nBa
  have TC : T ≠ ce.locals := fun z => by rw [z, bC] at nT; cases nT
  have ha2 := (sb.2 a aC).trans ha
  have hT2 := (sb.2 T TC).trans hT
  obtain ⟨B2, b1, b2⟩ := restrict B fun b => decide (b ≠ ce.locals)
  obtain ⟨G, g1, g2⟩ := restrict sI.heap fun b => decide (b ≠ ce.locals)
  have gB : ∀ b o, B2.get? b = some o → b ≠ ce.locals ∧ B.get? b = some o := fun b o e => by
    by_cases z : b = ce.locals
    · rw [b2 b (by simp [z])] at e; cases e
    · rw [b1 b (by simp [z])] at e; exact ⟨z, e⟩
  have gG : ∀ b o, G.get? b = some o → b ≠ ce.locals ∧ sI.heap.get? b = some o := fun b o e => by
    by_cases z : b = ce.locals
    · rw [g2 b (by simp [z])] at e; cases e
    · rw [g1 b (by simp [z])] at e; exact ⟨z, e⟩
  have ofB : ∀ b, B.get? b = none → B2.get? b = none := fun b e => by
    cases q : B2.get? b with
    | none => rfl
    | some o =>
      have := (gB b o q).2
      rw [e] at this; cases this
  have toG : ∀ b o, b ≠ ce.locals → sI.heap.get? b = some o → G.get? b = some o := fun b o z e => by rw [g1 b (by simp [z])]; exact e
  have lt3 : ∀ b o, s3.heap.get? b = some o → b ≠ ce.locals := fun b o e z => by
    have := Heap.lt_size e
    rw [z, cL] at this
    exact Nat.lt_irrefl _ this
  have held2 : HandSPX.HeldZ B2 (X.env :: X.outer) a (Zc cls d) X.env.locals h2 := by
    refine ⟨fun b o e => (sb.2 b (gB b o e).1).trans (st b o (gB b o e).2), ofB a nBa, ?_, ob, vs, T, oT, ts, ha2, hz, hd, h1', ofB T nT, hTa, hT2, hdT, h3⟩
    have fr2 : h1.FunFrames B2 (X.env :: X.outer) := funFrames_none fr fun b hb => ofB b (fr.mem hb).1
    have all : ∀ l : List Env, (∀ b ∈ frs l, b ≠ ce.locals) → h1.FunFrames B2 l → h2.FunFrames B2 l := by
      intro l
      induction l with
      | nil => intro _ _; trivial
      | cons v r ih =>
        intro hb ⟨k1, ⟨L, o, k2, k3, k4, k5⟩, k6⟩
        have hL : L ≠ ce.locals := hb L (List.mem_filterMap.mpr ⟨v, List.mem_cons_self, k2⟩)
        exact ⟨k1, ⟨L, o, k2, k3, (sb.2 L hL).trans k4, k5⟩, ih (fun b hm => hb b (by
          obtain ⟨y, y1, y2⟩ := List.mem_filterMap.mp hm
          exact List.mem_filterMap.mpr ⟨y, List.mem_cons_of_mem _ y1, y2⟩)) k6⟩
    exact all _ (fun b hb z => nC (by rw [hs]; exact z ▸ hb)) fr2
  have I2 : Inv X pins σ H' { sI with heap := G } := by
    have ub := I'.base
    refine I3.call' (ch := fp) (s' := { sI with heap := G }) I'.os ⟨fun b o e n1 n2 n3 => toG b o (lt3 b o e) (ub.keep b o e n1 n2 n3), fun b o e n1 n2 n3 => ?_, ub.free, fun b o e n3 => ?_, ub.tups, ub.frzs, ub.tbls⟩ (fun b o e => ?_) I'.bare fun b hb => ?_
    · obtain ⟨sl, q⟩ := ub.slot b o e n1 n2 n3
      exact ⟨sl, toG b _ (lt3 b o e) q⟩
    · obtain ⟨o', q⟩ := ub.there b o e n3
      exact ⟨o', toG b _ (lt3 b o e) q⟩
    · refine (I'.hok b o e).stay (fun c v hc q => toG c v (fun z => ?_) q) (fun _ r => r) fun _ _ r => r
      have hn : H' ce.locals = none := I'.free
      rcases hc with hc | hc
      · rw [← hc, z, hn] at e; cases e
      · rw [z, hn] at hc; cases hc
    · obtain ⟨f0, f1, f2, f3, f4, f5⟩ := hfp b hb
      exact ⟨f3, f1, f4, f5⟩
  have fin : ∀ h3, HandSPX.HeldZ B2 (X.env :: X.outer) a (Zc cls d) X.env.locals h3 → h2.UpToSlots h3 → X.xe (.ref a) { s' with heap := h3 } := fun h3 hl3 up3 => by
    refine tk _ _ ⟨a, B2, { sI with heap := G }, pins, σ, H', cls, d, rfl, I2, fun b o e n => ?_, fun b o e nf => ?_, .inr (.inr (by rw [hs]; exact hl3)), na, os, ag, hW _ _ _ _ _ w⟩
    · obtain ⟨z, q⟩ := gG b o e
      rw [b1 b (by simp [z])]
      exact nb b o q n
    · obtain ⟨z, q⟩ := gG b o e
      obtain ⟨sl, q1⟩ := up b o q nf
      obtain ⟨sl2, q2⟩ := up1 b _ q1 nf
      obtain ⟨sl3, q3⟩ := up3 b _ ((sb.2 b z).trans q2) nf
      exact ⟨sl3, q3⟩
  have stp : wpAny (model X.prog X.w) X.A (setFlight (.ref a) ce.frame) (fun _ s2 => wpAny (model X.prog X.w) X.A (throw (.ref a) : Sem Value) (fun _ _ => False) X.xe s2) X.xe { s' with heap := h2 } := by
    rw [cF, hf]
    exact HandSPX.setFlight_onZ (s := { s' with heap := h2 }) held2 fun h3 k1 k2 => wpAny_throw (fin h3 k1 k2)
  unfold PySem.passOn
  refine wpAny_bind (wpAny_field ha2 hd h1' ?_)
  rw [if_neg (by simp : ¬ ((Value.ref T == Value.none) = true))]
  first
    | exact wpAny_bind (wpAny_pure (wpAny_bind stp))
    | exact wpAny_bind stp
end
section
variable {X : Cx} {W : WX}
/-- a list comprehension as a value whose steps may raise -/
theorem pe_lcX {elt tg iter : Expr} {ifs : List Expr} {scope : Scope} {own : List (Str × Nat)} {pos : Pos} {wi : TI} {gt : TG} {tt : TT} {te : TE} (hc : X.calm = true) (hN : X.N.Nodup) (hs : X.stack = X.env :: X.outer) (hf : X.env.frame = some X.env.locals) (tk : Takes X W)
    (hW : ∀ cls d σ σ' H, W cls d σ H → W cls d σ' H) (hi : PI X tg iter wi) (ok : BlkOk X.N X.env.scope scope own)
    (hg : ∀ (s : Shared) (H : Hp) (C : Addr) (cl : List (Str × Addr)) (fp : List Addr), PG (blkE X s H scope (compEnvC scope cl C X.env) fp) tg gt) (ht : ∀ (s : Shared) (H : Hp) (C : Addr) (cl : List (Str × Addr)) (fp : List Addr), Takes (blkE X s H scope (compEnvC scope cl C X.env) fp) W → PTs (blkE X s H scope (compEnvC scope cl C X.env) fp) ifs tt)
    (he : ∀ (s : Shared) (H : Hp) (C : Addr) (cl : List (Str × Addr)) (fp : List Addr), Takes (blkE X s H scope (compEnvC scope cl C X.env) fp) W → PE (blkE X s H scope (compEnvC scope cl C X.env) fp) elt te) (hfo : ∀ x, foldedSetIterable iter X.env x = pure x := by intro _; rfl) :
    PE X (.ListComp elt [⟨tg, iter, ifs, 0⟩] scope pos) (tLc wi gt tt te (own.map (·.2))) := by
  refine ⟨fun pins s σ H Q I h => ?_⟩
  rw [eval_ListComp]
  have cap : ∀ y ∈ scope.names, y.2 = .free → ∃ c, X.env.cells.lookup y.1 = some c := fun y hy e => (ok.free y hy e).elim (fun k => I.ok.has _ (.inl k)) fun k => I.ok.has _ (.inr k)
  refine comp_x rfl hfo (closure_ok cap) ok.kind (fun y hy e => by rw [ok.uniq y hy, e]) (thn (hi.run pins s σ H _ I h) fun _ _ hx => thn hx fun _ t2 ⟨it, fp, tn, J, G2, e2, J2, T, n2, f2, q⟩ => ?_)
  subst e2
  refine wpAny_newObj_type (newEnv_comp ?_) (by show 0 ≤ sizeLine; decide)
  generalize hD : t2.heap.objs.size = D
  obtain ⟨V0, ⟨m0, v0⟩, turn⟩ := q D (J2.hok.fresh (Nat.le_of_eq hD))
  generalize ht3 : ({ t2 with heap := t2.heap.push { cls := .type "list", data := .seq ([] : List Value).toArray } } : Shared) = t3
  have e3 : t3.heap = t2.heap.push { cls := .type "list", data := .seq ([] : List Value).toArray } := by rw [← ht3]
  have J3 : Inv X pins σ (upd G2 D (.lst [])) t3 := by
    rw [← ht3]
    exact J2.laid (t' := t2.toks) (fun b o e => Heap.get?_push_of_some _ e) (Nat.le_of_eq hD) ⟨Nat.zero_le _, [], 0, .nil, by rw [← hD]; exact Heap.get?_push_size _ rfl⟩
  have below : ∀ b ∈ fp, b < t2.heap.objs.size := fun b hb => (T.obj _ _ n2 b hb).elim fun o e => Heap.lt_size e.1
  have f3 : ∀ b ∈ fp, FpOk X pins (upd G2 D (.lst [])) b ∧ b < t3.heap.objs.size := fun b hb => by
    have lt := below b hb
    refine ⟨⟨?_, (f2 b hb).2⟩, by rw [e3, Heap.size_push]; exact Nat.lt_succ_of_lt lt⟩
    rw [upd_ne (by rw [← hD]; exact Nat.ne_of_lt lt)]
    exact (f2 b hb).1
  have n3 : tn 0 t3.heap := T.keep _ _ _ n2 fun b _ o e => by rw [e3]; exact Heap.get?_push_of_some _ e
  have J4 := block_start J3 ok hN f3
  generalize hcl : cellsFrom (t3.heap.objs.size + 1) scope.names (cloFrom X.env.cells scope.names []) = cl at J4 ⊢
  have pg := hg t3 (upd G2 D (.lst [])) t3.heap.objs.size cl fp
  have pt := ht t3 (upd G2 D (.lst [])) t3.heap.objs.size cl fp
  have pe := he t3 (upd G2 D (.lst [])) t3.heap.objs.size cl fp
  show codeAny _ _ (.compStart (.ListComp elt [⟨tg, iter, ifs, 0⟩] scope pos) 0 (.ref it) (.ref D) (compEnvC scope cl t3.heap.objs.size X.env))
    (PostX (model X.prog X.w) X.A X.xe (EP X pins σ Q) (.ref D) (compEnvC scope cl t3.heap.objs.size X.env)) { t3 with heap := pushCells (t3.heap.push { cls := .type "dict", data := .dict #[] }) scope.names }
  have free3 : ∀ b ∈ fp, (upd G2 D (.lst [])) b = none := fun b hb => (f3 b hb).1.1
  generalize hce : compEnvC scope cl t3.heap.objs.size X.env = ce at J4 pg pt pe ⊢
  have cL : ce.locals = t3.heap.objs.size := by subst hce; rfl
  have cF : ce.frame = X.env.frame := by subst hce; rfl
  generalize hG3 : upd G2 D (.lst []) = G3 at J3 J4 pg pt pe v0 free3 f3
  have J4 := inv_e J4
  have tkb := takes_blke (scope := scope) J3 hs hf tk hW (fun b hb => (f3 b hb).1) cL cF
  have pt := pt tkb
  have pe := pe tkb
  generalize ht4 : ({ t3 with heap := pushCells (t3.heap.push { cls := .type "dict", data := .dict #[] }) scope.names } : Shared) = t4 at J4 ⊢
  have n4 : tn 0 t4.heap := T.keep _ _ _ n3 fun b _ o e => by rw [← ht4]; exact pushCells_keeps _ _ _ _ (Heap.get?_push_of_some _ e)
  have stay : ∀ {σ' : L2.St} {G' : Hp} {t' : Shared}, Inv (blkE X t3 G3 scope ce fp) [] σ' G' t' → (∀ b ∈ fp, G' b = none) → ∀ b ∈ fp, FpOk (blkE X t3 G3 scope ce fp) [] G' b := fun {σ' G' t'} K hn b hb =>
    ⟨hn b hb, (K.ok.exf b hb).1, K.ok.exfs b hb, .inl hb, fun y c e => (K.ok.exf b hb).2 y c e, fun p hp => nomatch hp⟩
  have loop : codeAny (model X.prog X.w) X.A (.compLoop (.ListComp elt [⟨tg, iter, ifs, 0⟩] scope pos) 0 (.ref it) (.ref D) ce) (PostX (model X.prog X.w) X.A X.xe (EP X pins σ Q) (.ref D) ce) t4 := by
    refine compLoop_any (fun n t => ∃ i G, Inv (blkE X t3 G3 scope ce fp) [] (wipe σ (own.map (·.2))) G t ∧ tn i t.heap ∧ (∀ b ∈ fp, G b = none) ∧ V0 i n G) ?_ m0 ⟨0, G3, J4, n4, free3, v0⟩
    rintro n t5 ⟨i, G5, J5, n5, z5, v5⟩
    rcases turn i n G5 v5 with ⟨stop, qq⟩ | ⟨go, Nx, hNx, step⟩
    · refine thnF (T.done (blkE X t3 G3 scope ce fp) rfl rfl rfl hc i [] t5 _ G5 (fun _ _ => False) J5 (stay J5 z5) n5 stop) fun r t6 ⟨hr, J6⟩ => ?_
      subst hr
      have J7 : Inv X pins σ G5 t6 := J3.call' (ch := fp) J6.os J6.base J6.hok J6.bare fun b hb => ⟨(f3 b hb).1.2.2.2.1, (f3 b hb).1.2.1, (f3 b hb).1.2.2.2.2.1, (f3 b hb).1.2.2.2.2.2⟩
      have zC : G5 ce.locals = none := J6.free
      obtain ⟨m, hm, _⟩ := J6.loc
      obtain ⟨f0, f1, _, f3', f4, f5⟩ := J3.fpOk (b := ce.locals) (by rw [cL]; exact Nat.le_refl _) zC
      exact ⟨m, hm, fun h' sb => ⟨.ref D, G5, J7.turned (t' := t6.toks) (fun b o hb e => (sb.2 b hb).trans e) f0 f1 f3' f4 f5, rfl, qq⟩⟩
    · refine thnF (T.item (blkE X t3 G3 scope ce fp) rfl rfl rfl hc i [] t5 _ G5 (fun _ _ => False) J5 (stay J5 z5) n5 go) fun r t6 ⟨u, hr, h6⟩ => ?_
      subst hr
      refine thnF h6 fun _ t7 ⟨x, G7, J7, r7, y7, n7, z7⟩ => ?_
      have J7p := J7.pinned (stay J7 z7) (T.obj _ _ n7)
      refine thn (pg.run _ t7 _ G7 x u _ J7p r7 (step x G7 y7)) fun _ t8 ⟨σ8, G8, J8, w8, q8⟩ => ?_
      refine thn (pt.run _ t8 σ8 G8 _ J8 q8) fun b t9 ⟨G9, J9, q9⟩ => ?_
      have fin : ∀ {t : Shared} {G : Hp}, Inv (blkE X t3 G3 scope ce fp) ([] ++ pinsAt fp t7.heap) σ8 G t → Nx G → ∃ m, m < n ∧ ∃ i G, Inv (blkE X t3 G3 scope ce fp) [] (wipe σ (own.map (·.2))) G t ∧ tn i t.heap ∧ (∀ b ∈ fp, G b = none) ∧ V0 i m G := fun {t G} K nx => by
        obtain ⟨m', lt, v'⟩ := hNx G nx
        have pn : ∀ b ∈ fp, ∀ o, t7.heap.get? b = some o → t.heap.get? b = some o ∧ G b = none := fun b hb o e => (K.pin (b, o) (List.mem_append_right _ (List.mem_append_right _ (mem_pinsAt hb e)))).imp id And.left
        refine ⟨m', lt, i + 1, G, (K.unpinned (pins := [])).weak (by rw [← w8, wipe_length]) (fun j v e => ?_), T.keep _ _ _ n7 fun b hb o e => (pn b hb o e).1, fun b hb => ?_, v'⟩
        · rw [← w8] at e
          exact (wipe_some e).1
        · obtain ⟨o, e, _⟩ := T.obj _ _ n7 b hb
          exact (pn b hb o e).2
      cases b with
      | false =>
        rw [if_neg (by decide)] at q9 ⊢
        exact fin J9 q9
      | true =>
        rw [if_pos rfl] at q9 ⊢
        exact thn (pe.run _ t9 σ8 G9 _ J9 q9) fun z t10 ⟨yv, G10, J10, r10, acc, hD10, hz10, nx⟩ => app_ok (X := blkE X t3 G3 scope ce fp) J10 hD10 hz10 r10 fun t11 J11 => fin J11 nx
  exact codeAny_compStart_list loop (T.self X.A 0 _ _ _ n4 loop)
end
/-- a comprehension whose steps may raise, over data -/
def dCoX (T : DTn) (t : DTs) (e : DE) (Y : Xc) (inv : Ah → Prop) : List Dv → List Dv → Ev → Ah → (List Dv → Ah → Prop) → Prop
  | [], acc, _, g, k => inv g ∧ k acc g
  | x :: xs, acc, ev, g, k => inv g ∧ T x ev fun ev1 => t Y ev1 g fun b g1 => if b = true then e Y ev1 g1 fun d g2 => acc.length < sizeLine ∧ dCoX T t e Y inv xs (acc ++ [d]) ev g2 k else dCoX T t e Y inv xs acc ev g1 k
def lcX (n : Nw) (T : DTn) (t : DTs) (e : DE) (Y : Xc) (ev : Ev) (R : DQ) (xs : List Dv) (inv : Ah → Prop) (g : Ah) : Prop := dCoX T t e Y inv xs [] ev g fun ds g2 => n ds g2 R
def dLcX (n : Nw) (vs : List Nat) (it : DI) (T : DTn) (t : DTs) (e : DE) : DE := fun X ev g R => it X ev g fun xs inv g1 => dCoX T t e X inv xs [] (wipeE ev vs) g1 fun ds g2 => n ds g2 R
theorem r_lcX {n : Nw} {vs : List Nat} {it : DI} {T : DTn} {t : DTs} {e : DE} {X : Xc} {ev : Ev} {g : Ah} {R : DQ} (h : it X ev g (lcX n T t e X (wipeE ev vs) R)) : dLcX n vs it T t e X ev g R := h
theorem cox_inv {T : DTn} {t : DTs} {e : DE} {Y : Xc} {inv : Ah → Prop} {xs acc : List Dv} {ev : Ev} {g : Ah} {k : List Dv → Ah → Prop} (h : dCoX T t e Y inv xs acc ev g k) : inv g := by
  cases xs <;> exact h.1
theorem xl_hid {K : PySem.W.Frag} {M : List Addr} {D : Addr} {W : WX} {σ σ' : L2.St} {g g1 : Ah} {H H1 : Hp} {Y : Xc} (hW : ∀ cls d σ σ' H, W cls d σ H → W cls d σ' H) (x : XL ⟨K, M⟩ W σ g H Y) (s : Stp g H g1 H1) : XL ⟨K, D :: M⟩ W σ' g1 H1 Y :=
  fun z cls dd g' H' hr' s' ⟨e, xr⟩ k => hW _ _ _ _ _ (x z cls dd g' H' (hr_less (K := ⟨K, M⟩) (fun a ha => List.mem_cons_of_mem _ ha) hr') (s.trans s') ⟨e, xr.imp id fun ⟨dx, fs, h1, h2, h3, h4, h5⟩ => ⟨dx, fs, h1, h2, h3, h4, h5.re (K := ⟨K, D :: M⟩) (M' := M) fun a o _ h e => ⟨fun z => h (List.mem_cons_of_mem _ z), e⟩⟩⟩ k)
theorem Bn.blke {j : Nat} {X : Cx} {W : WX} (b : Bn j X W) {s : Shared} {H : Hp} {sc : Scope} {ce : Env} {fp : List Addr} (tk : Takes (blkE X s H sc ce fp) W) : Bn j (blkE X s H sc ce fp) W := ⟨b.calm, tk, PassesOwn.looking, b.hr, b.gd⟩
section
variable {X : Cx} {W : WX} {K : PySem.W.Frag} {elt tg iter : Expr} {ifs : List Expr} {scope : Scope} {own : List (Str × Nat)} {pos : Pos} {di : DI} {gt : TG} {T : DTn} {Dt : DTs} {De' : DE} {n : Nw} {j : Nat}
theorem lcx_ok {vs : List Nat} (hW : ∀ cls d σ σ' H, W cls d σ H → W cls d σ' H) (hn : NwOk n) (lt : LT K gt T vs) {σ : L2.St} {H : Hp} {Q : VK} (h : lE K W (dLcX n vs di T Dt De') σ H Q) : tLc (lI K W di) gt (lT K W Dt) (lE K W De') vs σ H Q := by
  obtain ⟨M, ev, g, R, Y, c, d, q, x⟩ := h
  refine ⟨M, ev, g, _, Y, c, d, fun J xs inv g1 H1 hr s it k => ?_, x⟩
  intro D hD
  have hHD : H D = none := by
    cases e : H D with
    | none => rfl
    | some o => exact absurd hD (s.there D (by rw [e]; exact fun z => nomatch z))
  have hsub : ∀ a ∈ D :: M, a ∈ M ∨ H a = none := fun a ha => (List.mem_cons.mp ha).elim (fun e => .inr (e ▸ hHD)) .inl
  have hsub1 : ∀ a ∈ D :: M, a ∈ M ∨ H1 a = none := fun a ha => (List.mem_cons.mp ha).elim (fun e => .inr (e ▸ hD)) .inl
  have hne : ∀ a, a ∉ D :: M → a ≠ D := fun a h e => h (by rw [e]; exact List.mem_cons_self ..)
  let PW : Nat → Hp → Prop := fun i H' => ∃ g' acc us, HR ⟨K, D :: M⟩ g' H' ∧ Stp g1 H1 g' H' ∧ H' D = some (.lst us) ∧ RpAll ⟨K, D :: M⟩ g' H' us acc ∧ dCoX T Dt De' Y inv (xs.drop i) acc (wipeE ev vs) g' fun ds g2 => n ds g2 R
  refine ⟨fun i m H' => m = xs.length - i ∧ i ≤ xs.length ∧ PW i H', ⟨xs.length, by simp, Nat.zero_le _, g1, [], [], ?_, stp_hid .refl hD, upd_same, .nil, k⟩, ?_⟩
  · refine hr.re (K := ⟨K, M⟩) (fun a o _ h e => ⟨fun z => ?_, by rw [upd_ne (ne_of_none e hD)]; exact e⟩) (fun a h => upd_ne fun e => h (e ▸ hr_off hr hD)) fun a ha => ?_
    · rcases List.mem_cons.mp z with z | z
      · rw [z, hD] at e; cases e
      · exact h z
    · rcases List.mem_cons.mp ha with z | z
      · rw [z]; exact ⟨hr_off hr hD, by rw [upd_same]; trivial⟩
      · exact ⟨(hr.2 a z).1, (hr.2 a z).2.upd fun _ => trivial⟩
  rintro i m H2 ⟨rfl, hle, g2, acc, us, hr2, s2, eD, ra, k2⟩
  have ok := it (D :: M) g2 H2 (fun a h => List.mem_cons_of_mem _ h) hsub1 hr2 s2 (cox_inv k2)
  have gD : g2 D = none := (hr2.2 D (List.mem_cons_self ..)).1
  by_cases hi : i < xs.length
  · have hx : xs[i]? = some xs[i] := List.getElem?_eq_getElem hi
    obtain ⟨go, yl⟩ := ok.1 i _ hx
    rw [List.drop_eq_getElem_cons hi] at k2
    refine .inr ⟨go, PW (i + 1), fun H' p => ⟨xs.length - (i + 1), by omega, rfl, hi, p⟩, fun v H3 y => ?_⟩
    obtain ⟨hr3, s3, r3⟩ := yl v H3 y
    have c3 : Cn ⟨K, D :: M⟩ (wipe σ vs) H3 (wipeE ev vs) g2 := (c.away hsub (s.trans (s2.trans s3)) hr3).wipe vs
    refine lt (D :: M) g2 H3 v _ _ _ _ _ c3 r3 k2.2 fun σ' ev' c' w' k' => ⟨?_, ?_⟩
    · rw [w']
      apply List.ext_getElem?
      intro z
      rw [wipe_get, wipe_get, wipe_length]
      split <;> rfl
    refine ⟨D :: M, ev', g2, _, Y, c', k', fun b g4 H4 hr4 s4 kb => ?_, xl_hid hW x (s.trans (s2.trans s3))⟩
    have s24 := (s2.trans s3).trans s4
    have e4 : H4 D = some (.lst us) := ((s3.trans s4).keep D _ gD eD).1
    cases b with
    | false =>
      rw [if_neg (by decide)] at kb
      refine iteF ?_
      exact ⟨g4, acc, us, hr4, s24, e4, ra.go (s3.trans s4), kb⟩
    | true =>
      rw [if_pos rfl] at kb
      refine iteT ?_
      refine ⟨D :: M, ev', g4, _, Y, c'.go hr4 s4, kb, fun v5 d5 g5 H5 hr5 s5 r5 k5 => ?_, xl_hid hW x (s.trans ((s2.trans s3).trans s4))⟩
      have s25 := s24.trans s5
      have e5 : H5 D = some (.lst us) := (((s3.trans s4).trans s5).keep D _ gD eD).1
      have g5D : g5 D = none := (hr5.2 D (List.mem_cons_self ..)).1
      refine ⟨us, e5, by rw [ra.length]; exact k5.1, g5, acc ++ [d5], us ++ [v5], ?_, stp_hid s25 hD, upd_same, ?_, k5.2⟩
      · refine hr5.re (K := ⟨K, D :: M⟩) (fun a o _ h e => ⟨h, by rw [upd_ne (hne _ h)]; exact e⟩) (fun a h => upd_ne fun e => h (e ▸ g5D)) fun a ha => ⟨(hr5.2 a ha).1, (hr5.2 a ha).2.upd fun _ => trivial⟩
      · have r6 : RpAll ⟨K, D :: M⟩ g5 H5 (us ++ [v5]) (acc ++ [d5]) := (ra.go ((s3.trans s4).trans s5)).append (.one r5)
        exact r6.re (K := ⟨K, D :: M⟩) fun a o _ h e => ⟨h, by rw [upd_ne (hne _ h)]; exact e⟩
  · have e : i = xs.length := by omega
    subst e
    rw [List.drop_length] at k2
    refine .inl ⟨ok.2, ?_⟩
    -- the list as if it were new
    have hH : H2 = upd (fun b => if b = D then none else H2 b) D (.lst us) := by
      funext b
      by_cases z : b = D
      · rw [z, upd_same]; exact eD
      · rw [upd_ne z]; exact (if_neg z).symm
    have nD : D ∉ M := fun z => (hr.2 D z).2.ne hD
    have hrm : HR ⟨K, M⟩ g2 (fun b => if b = D then none else H2 b) := by
      refine hr2.re (K := ⟨K, D :: M⟩) (M' := M) (fun a o _ h e => ⟨fun z => h (List.mem_cons_of_mem _ z), by rw [if_neg (hne _ h)]; exact e⟩) (fun a h => ?_) fun a ha => ?_
      · have : a ≠ D := fun e => h (by rw [e]; exact gD)
        exact if_neg this
      · have : a ≠ D := fun e => nD (by rw [← e]; exact ha)
        refine ⟨(hr2.2 a (List.mem_cons_of_mem _ ha)).1, ?_⟩
        rw [if_neg this]
        exact (hr2.2 a (List.mem_cons_of_mem _ ha)).2
    have sm : Stp g H g2 (fun b => if b = D then none else H2 b) := ⟨fun b o kb e => by
      obtain ⟨h1, h2⟩ := (s.trans s2).keep b o kb e
      exact ⟨by rw [if_neg (ne_of_none e hHD)]; exact h1, h2⟩, fun b kb => by
      rw [if_neg (fun z => kb (by rw [z]; exact hHD))]
      exact (s.trans s2).there b kb⟩
    have rm : RpAll ⟨K, M⟩ g2 (fun b => if b = D then none else H2 b) us acc := ra.re (K := ⟨K, D :: M⟩) (M' := M) fun a o _ h e => ⟨fun z => h (List.mem_cons_of_mem _ z), by rw [if_neg (hne _ h)]; exact e⟩
    rw [hH]
    exact hn ⟨K, M⟩ g2 _ R Q D us acc hrm (if_pos rfl) rm k2.2 (q.go sm)
theorem de_lcX (b : Bn j X W) (hs : X.stack = X.env :: X.outer) (hf : X.env.frame = some X.env.locals) (hW : ∀ cls d σ σ' H, W cls d σ H → W cls d σ' H) (hn : NwOk n) (hN : X.N.Nodup) (hi : PI X tg iter (lI K W di)) (ok : BlkOk X.N X.env.scope scope own) (lt : LT K gt T (own.map (·.2)))
    (hg : ∀ (s : Shared) (H : Hp) (C : Addr) (cl : List (Str × Addr)) (fp : List Addr), PG (blkE X s H scope (compEnvC scope cl C X.env) fp) tg gt) (ht : ∀ (s : Shared) (H : Hp) (C : Addr) (cl : List (Str × Addr)) (fp : List Addr), Takes (blkE X s H scope (compEnvC scope cl C X.env) fp) W → PTs (blkE X s H scope (compEnvC scope cl C X.env) fp) ifs (lT K W Dt))
    (he : ∀ (s : Shared) (H : Hp) (C : Addr) (cl : List (Str × Addr)) (fp : List Addr), Takes (blkE X s H scope (compEnvC scope cl C X.env) fp) W → PE (blkE X s H scope (compEnvC scope cl C X.env) fp) elt (lE K W De')) (hfo : ∀ x, foldedSetIterable iter X.env x = pure x := by intro _; rfl) :
    PE X (.ListComp elt [⟨tg, iter, ifs, 0⟩] scope pos) (lE K W (dLcX n (own.map (·.2)) di T Dt De')) := pem (pe_lcX b.calm hN hs hf b.tk hW hi ok hg ht he hfo) fun σ H Q h => lcx_ok hW hn lt h
end
/-- its reading, by an invariant over what is made -/
theorem comp_invX {T : DTn} {t : DTs} {e : DE} {Y : Xc} {inv : Ah → Prop} {k : List Dv → Ah → Prop} {ev : Ev} (I : Nat → List Dv → Ah → Prop) : ∀ {xs acc : List Dv} {g : Ah} (n : Nat), I n acc g → (∀ i acc g, I i acc g → inv g) →
    (∀ i x acc g (N : Ah → Prop) (MM : Dv → Ah → Prop), xs[i]? = some x → I (n + i) acc g → (∀ g, I (n + i + 1) acc g → N g) → (∀ d g, acc.length < sizeLine ∧ I (n + i + 1) (acc ++ [d]) g → MM d g) → T x ev fun ev1 => t Y ev1 g fun b g1 => if b = true then e Y ev1 g1 MM else N g1) →
    (∀ acc g, I (n + xs.length) acc g → k acc g) → dCoX T t e Y inv xs acc ev g k
  | [], acc, g, n, h0, hi, hs, hd => ⟨hi _ _ _ h0, hd _ _ h0⟩
  | x :: xs, acc, g, n, h0, hi, hs, hd => by
    have again : ∀ acc g, I (n + 0 + 1) acc g → dCoX T t e Y inv xs acc ev g k := fun acc g h => by
      refine comp_invX I (n + 1) h hi (fun i y acc g N MM e h k1 k2 => hs (i + 1) y acc g N MM (by simpa using e) (by rw [show n + (i + 1) = n + 1 + i by omega]; exact h) (fun g h => k1 g ?_) fun d g h => k2 d g ⟨h.1, ?_⟩) (fun acc g h => hd acc g ?_)
      · rw [show n + 1 + i + 1 = n + (i + 1) + 1 by omega]; exact h
      · rw [show n + 1 + i + 1 = n + (i + 1) + 1 by omega]; exact h.2
      · rw [List.length_cons, show n + (xs.length + 1) = n + 1 + xs.length by omega]; exact h
    exact ⟨hi _ _ _ h0, hs 0 x acc g _ _ rfl h0 (fun g h => again acc g h) fun d g h => ⟨h.1, again _ g h.2⟩⟩
/-! ### tuples whose object is known (no dict of their own): made by a display or of a list; dict() of their pairs -/
theorem tq_ok {K : KM} {g : Ah} {H : Hp} {R : DQ} {Q : VK} {p : Addr} {o : Obj} {vs : List V} {xs : List Dv} (hr : HR K g H) (hp : H p = none) (hd : o.dict = none) (r : RpAll K g H vs xs) (h : R (.tq xs) g) (q : QL K g H R Q) : Q (.ref p) (upd H p (.frz o (.tup vs))) :=
  q _ _ _ _ (hr_new hr hp) (stp_new hr hp) (.tq (hr_off hr hp) (hr_free hr hp) upd_same hd (r.go (stp_new hr hp))) h
def nwTq (xs : List Dv) (g : Ah) (R : DQ) : Prop := xs.length ≤ sizeLine ∧ R (.tq xs) g
def dTupQ (t : DA) : DE := fun X ev g R => t X ev g fun ds g1 => nwTq ds g1 R
def cTupQ : DCq := fun ds g R => match ds with
  | [d] => (match vs' g d with
    | .lst xs => R (.tq xs) g
    | _ => False)
  | _ => False
/-- a dict of pairs with tuples as keys -/
def prT (es : List (List Key × Dv)) : List Dv := es.map fun e => .tup [.tup (e.1.map kD), e.2]
def mgT (es : List (List Key × Dv)) : List (List Key × Dv) := es.foldl (fun acc e => putD acc e.1 e.2) []
def cDictQ : DCq := fun ds g R => match ds with
  | [.tq xs] => ∃ es : List (List Key × Dv), xs = prT es ∧ ∀ a, g a = none → R (.ref a) (ups g a (.dcT (mgT es)))
  | _ => False
theorem kOfs_kD : ∀ k : List Key, kOfs (k.map kD) = some k
  | [] => rfl
  | k :: ks => by
    show (kOf (kD k)).bind (fun x => (kOfs (ks.map kD)).map (x :: ·)) = _
    rw [kOfs_kD ks]
    cases k <;> rfl
section
variable {X : Cx} {W : WX} {K : PySem.W.Frag} {es : List Expr} {Dt : DA} {pos : Pos}
theorem pe_tupQ {x1} {t : TA} (h : PA X es t) : PE X (.Tuple es x1 pos) (fun σ H Q => t σ H fun xs H1 => xs.length ≤ sizeLine ∧ ∀ p o, H1 p = none → o.dict = none → Q (.ref p) (upd H1 p (.frz o (.tup xs)))) := by
  refine ⟨fun pins s σ H Q I hq => wpAny_Tuple_spliced (thn (h.run pos pins s σ H _ I hq) fun us t ⟨xs, G, J, r, z, q⟩ => ⟨by rw [← r.length]; exact z, ?_⟩)⟩
  have fr : G t.heap.objs.size = none := J.hok.fresh (Nat.le_refl _)
  have at' := Heap.get?_push_size t.heap (o := { cls := .type "tuple", data := .seq us.toArray }) rfl
  exact ⟨.ref t.heap.objs.size, upd G t.heap.objs.size (.frz { cls := .type "tuple", data := .seq us.toArray } (.tup xs)), J.laid (t' := t.toks) (fun b u e => Heap.get?_push_of_some _ e) (Nat.le_refl _) ⟨at', z, us, r, ⟨_, at', rfl, _, rfl⟩⟩, rfl, q _ _ fr rfl⟩
theorem de_tupQ {x1} (h : PA X es (lA K W Dt)) : PE X (.Tuple es x1 pos) (lE K W (dTupQ Dt)) :=
  pem (pe_tupQ h) fun σ H Q ⟨M, ev, g, R, Y, c, d, q, x⟩ => ⟨M, ev, g, _, Y, c, d, fun vs ds g1 H1 hr s r k => ⟨by rw [r.length]; exact k.1, fun p o hp hd => tq_ok hr hp hd r k.2 (q.go s)⟩, x⟩
theorem call_tupQ : CallR X (.type "tuple") (fun xs H Q => ∃ a ys, xs = [.ref a] ∧ SqL X.K H a ys ∧ ∀ l o, H l = none → o.dict = none → Q (.ref l) (upd H l (.frz o (.tup ys)))) := by
  intro pins s σ H xs us Q I r h
  obtain ⟨a, ys, rfl, hq, q⟩ := h
  obtain rfl := Vals.ref1 r
  obtain ⟨its, rv, pl, hz⟩ := I.list hq
  have hl := rv.length
  refine call_tuple_list pl.isList (fun h' kp => ?_) (by simp only [List.size_toArray] <;> omega)
  have J : Inv X pins σ H { s with heap := h' } := I.kept (t' := s.toks) kp
  have at' := Heap.get?_push_size h' (o := { cls := .type "tuple", data := .seq its.toArray }) rfl
  exact ⟨.ref h'.objs.size, _, J.laid (t' := s.toks) (a := h'.objs.size) (o := .frz { cls := .type "tuple", data := .seq its.toArray } (.tup ys)) (fun b u e => Heap.get?_push_of_some _ e) (Nat.le_refl _) ⟨at', hz, its, rv, ⟨_, at', rfl, _, rfl⟩⟩, rfl, q _ _ (J.hok.fresh (Nat.le_refl _)) rfl⟩
theorem cj_tupQ (hK : X.K = K := by rfl) : CallR X (.type "tuple") (lC K cTupQ) := ccm call_tupQ fun vs H Q ⟨M, ds, g, R, hr, r, q, k⟩ => by
  subst hK
  unfold cTupQ at q
  split at q
  next d =>
    obtain ⟨v, rfl, r0⟩ := rp1 r
    split at q
    next xs e =>
      obtain ⟨a, us, rfl, h1, h2⟩ := vw_lst r0 hr (vs_lst e)
      exact ⟨a, us, rfl, h1, fun p o hp hd => tq_ok hr hp hd h2 q k⟩
    next => exact q.elim
  next => exact q.elim
/-- the pairs of a tuple, told by their addresses: key, the key's address, value -/
abbrev Pt := Addr × List Key × Addr × V
theorem call_dictQ (hc : X.calm = true) (hu : X.A.units + 64 < cLine) : CallR X (.type "dict") (fun xs H Q => ∃ (a : Addr) (o : Obj) (es : List Pt), xs = [.ref a] ∧ H a = some (.frz o (.tup (es.map fun e => V.ref e.1))) ∧ o.dict = none ∧
    (∀ e ∈ es, H e.1 = some (.tup [.ref e.2.2.1, e.2.2.2]) ∧ H e.2.2.1 = some (.tup (e.2.1.map kV))) ∧ ∀ p, H p = none → Q (.ref p) (upd H p (.dT (es.foldl (fun acc e => putK acc e.2.1 e.2.2.2) [])))) := by
  intro pins s σ H xs us Q I r h
  obtain ⟨a, o, es, rfl, ha, hd, he, q⟩ := h
  obtain rfl := Vals.ref1 r
  obtain ⟨ho, hz, its, rv, o', ho', hcl, n, hdat⟩ := (show ObjOk X.prog X.w H s.heap a (.frz o (.tup (es.map fun e => V.ref e.1))) from I.hok a _ ha)
  rw [ho] at ho'
  cases ho'
  have ei : its = (es.map (·.1)).map Value.ref := refs_at (ps := es.map (·.1)) (by rw [List.map_map]; exact rv)
  subst ei
  rw [List.length_map] at hz
  have all : ∀ es : List Pt, (∀ e ∈ es, H e.1 = some (.tup [.ref e.2.2.1, e.2.2.2]) ∧ H e.2.2.1 = some (.tup (e.2.1.map kV))) → ∃ ps : List (List Key × Addr × Value), Paired (fun (e : Pt) (p : List Key × Addr × Value) => p.1 = e.2.1 ∧ p.2.1 = e.2.2.1 ∧ RelV e.2.2.2 p.2.2 ∧ PairAt s.heap e.1 (.ref p.2.1) p.2.2) es ps := by
    intro es
    induction es with
    | nil => exact fun _ => ⟨[], .nil⟩
    | cons e es ih =>
      intro h
      obtain ⟨ps, ih⟩ := ih fun x hx => h x (List.mem_cons_of_mem _ hx)
      obtain ⟨_, its, r1, ob, g1, g2, n2, g3⟩ := (show ObjOk X.prog X.w H s.heap e.1 (.tup [.ref e.2.2.1, e.2.2.2]) from I.hok _ _ (h e List.mem_cons_self).1)
      obtain ⟨u1, u2, rfl, e1, e2⟩ := vals2 r1
      cases e1
      exact ⟨(e.2.1, e.2.2.1, u2) :: ps, .cons ⟨rfl, rfl, e2, .inl ⟨ob, g1, g2, n2, g3⟩⟩ ih⟩
  obtain ⟨ps, hp⟩ := all es he
  have hlen : ps.length = es.length := hp.length.symm
  have at_ : ∀ (j : Nat) (p : List Key × Addr × Value), ps[j]? = some p → ∃ e, es[j]? = some e ∧ p.1 = e.2.1 ∧ p.2.1 = e.2.2.1 ∧ RelV e.2.2.2 p.2.2 ∧ PairAt s.heap e.1 (.ref p.2.1) p.2.2 := by
    clear hlen all hz he q rv hdat ho ha r
    induction hp with
    | nil => intro j p h; cases h
    | cons h t ih =>
      intro j p e
      cases j with
      | zero => cases e; exact ⟨_, rfl, h⟩
      | succ j => exact ih j p e
  have keys : ∀ e ∈ es, (tupleKind (mixKind X.prog X.w)).is s.heap e.2.1 e.2.2.1 := fun e m => L2.key_of I.hok (he e m).2
  refine call_dict_pairsH (knd := tupleKind (mixKind X.prog X.w)) (ps := ps) (PairArg.tuple (prog := X.prog) (w := X.w) a ((es.map (·.1)).map Value.ref).toArray (fun j => ((es[j]?).map (·.1)).getD 0) (ps.map fun p => (Value.ref p.2.1, p.2.2))) (I.ok.hd hc) (show X.A.in1.in1.units < cLine from by
      show X.A.units + 1 + 1 < cLine
      omega) ⟨⟨o, n, ho, hcl, hd, hdat⟩, ?_, fun j k v e => ?_⟩ ⟨by rw [List.length_map], fun i key v e => ?_⟩ (fun h' kp x hx => ?_) (by rw [List.length_map, hlen]; exact hz) fun h' tk hd' kp => ?_
  · rw [List.size_toArray, List.length_map, List.length_map, List.length_map, hlen]
  · rw [List.getElem?_map] at e
    cases e2 : ps[j]? with
    | none => rw [e2] at e; cases e
    | some p =>
      rw [e2] at e
      cases e
      obtain ⟨el, e3, _, _, _, pa⟩ := at_ j p e2
      simp only [e3, Option.map_some, Option.getD_some]
      exact ⟨by simp [e3], pa⟩
  · have e : (ps.map fun p => (Value.ref p.2.1, p.2.2))[i]? = some (key, v) := e
    rw [List.getElem?_map] at e
    cases e2 : ps[i]? with
    | none => rw [e2] at e; cases e
    | some p =>
      rw [e2] at e
      cases e
      exact ⟨p.1, p.2.1, rfl, rfl⟩
  · obtain ⟨j, hj, e⟩ := List.getElem_of_mem hx
    obtain ⟨el, e3, k1, k2, _, _⟩ := at_ j x (by rw [List.getElem?_eq_getElem hj, e])
    have m := List.mem_of_getElem? e3
    obtain ⟨ok, it, n3, g1, g2, g3, g4⟩ := keys el m
    rw [k1, k2]
    exact ⟨ok, it, n3, kp _ _ (Nat.ne_of_lt (Heap.lt_size g1)) (fun z => nomatch z) g1, g2, g3, g4⟩
  · have hm : (s.heap.objs.size == sysModules) = false := beq_eq_false_iff_ne.mpr (Nat.ne_of_gt I.big)
    have fr : H s.heap.objs.size = none := I.hok.fresh (Nat.le_refl _)
    have kt : ∀ (es : List Pt) (ps : List (List Key × Addr × Value)), Paired (fun (e : Pt) (p : List Key × Addr × Value) => p.1 = e.2.1 ∧ p.2.1 = e.2.2.1 ∧ RelV e.2.2.2 p.2.2 ∧ PairAt s.heap e.1 (.ref p.2.1) p.2.2) es ps → (∀ e ∈ es, H e.2.2.1 = some (.tup (e.2.1.map kV))) →
        ∀ (acc : List (List Key × V)) (bcc : List (List Key × Addr × Value)), L2.KT H acc bcc → L2.KT H (es.foldl (fun acc e => putK acc e.2.1 e.2.2.2) acc) (storedAllH bcc ps) := by
      intro es ps h
      induction h with
      | nil => exact fun _ acc bcc k => k
      | @cons e p es ps h t ih =>
        intro hh acc bcc k
        obtain ⟨k1, k2, k3, _⟩ := h
        refine ih (fun x hx => hh x (List.mem_cons_of_mem _ hx)) _ _ ?_
        show L2.KT H (putK acc e.2.1 e.2.2.2) (storedH bcc p.1 p.2.1 p.2.2)
        rw [k1]
        exact k.put _ (by rw [k2]; exact hh e List.mem_cons_self) k3
    have K1 := kt es ps hp (fun e m => (he e m).2) [] [] .nil
    obtain ⟨od, eds, epd, g1, g2, g3, g4, g5, g6⟩ := hd'
    have kp' : ∀ b ob, s.heap.get? b = some ob → h'.get? b = some ob := fun b ob e => kp b ob (fun z => nomatch z) e
    have l2 : (es.foldl (fun acc e => putK acc e.2.1 e.2.2.2) ([] : List (List Key × V))).length ≤ sizeLine := by
      rw [K1.length]
      refine Nat.le_trans (storedAllH_length ps []) ?_
      rw [List.length_nil, Nat.zero_add, hlen]
      exact hz
    refine ⟨.ref s.heap.objs.size, _, I.laid (t' := tk) (a := s.heap.objs.size) (o := .dT _) kp' (Nat.le_refl _) ⟨l2, hm, storedAllH [] ps, K1.keeps fun b ys e => ?_, od, eds, epd, g1, g2, g3, g4, g6⟩, rfl, q _ fr⟩
    rw [upd_ne (ne_of_none e fr)]
    exact e
theorem prT_ok {g : Ah} {H : Hp} {M : List Addr} : ∀ {vs : List V} {es : List (List Key × Dv)}, RpAll ⟨K, M⟩ g H vs (prT es) → ∃ ps : List Pt, vs = ps.map (fun e => V.ref e.1) ∧ Paired (fun (e : Pt) (d : List Key × Dv) => e.2.1 = d.1 ∧ H e.1 = some (.tup [.ref e.2.2.1, e.2.2.2]) ∧ H e.2.2.1 = some (.tup (e.2.1.map kV)) ∧ Rp ⟨K, M⟩ g H e.2.2.2 d.2) ps es
  | _, [], .nil => ⟨[], rfl, .nil⟩
  | _, e :: es, .cons h r => by
    obtain ⟨ps, rfl, hp⟩ := prT_ok (es := es) r
    obtain ⟨a, us, rfl, h1, h2⟩ := rp_tup h
    obtain ⟨k, v, rfl, rk, rv⟩ := rp2 h2
    obtain ⟨b, ks, rfl, h3, h4⟩ := rp_tup rk
    obtain rfl := kOfs_ok h4 (kOfs_kD e.1)
    exact ⟨(a, e.1, b, v) :: ps, rfl, .cons ⟨rfl, h1, h3, rv⟩ hp⟩
theorem mgT_ok {g : Ah} {H : Hp} {M : List Addr} : ∀ {ps : List Pt} {es : List (List Key × Dv)}, Paired (fun (e : Pt) (d : List Key × Dv) => e.2.1 = d.1 ∧ H e.1 = some (.tup [.ref e.2.2.1, e.2.2.2]) ∧ H e.2.2.1 = some (.tup (e.2.1.map kV)) ∧ Rp ⟨K, M⟩ g H e.2.2.2 d.2) ps es →
    ∀ {acc : List (List Key × V)} {bcc : List (List Key × Dv)}, RpP ⟨K, M⟩ g H acc bcc → RpP ⟨K, M⟩ g H (ps.foldl (fun acc e => putK acc e.2.1 e.2.2.2) acc) (es.foldl (fun acc e => putD acc e.1 e.2) bcc)
  | _, _, .nil, _, _, r => r
  | e :: ps, d :: es, .cons h t, acc, bcc, r => by
    show RpP ⟨K, M⟩ g H (ps.foldl (fun acc e => putK acc e.2.1 e.2.2.2) (putK acc e.2.1 e.2.2.2)) (es.foldl (fun acc e => putD acc e.1 e.2) (putD bcc d.1 d.2))
    rw [h.1]
    exact mgT_ok t (r.put h.2.2.2)
theorem cj_dictQ (hc : X.calm = true) (hu : X.A.units + 64 < cLine) (hK : X.K = K := by rfl) : CallR X (.type "dict") (lC K cDictQ) := ccm (call_dictQ hc hu) fun vs H Q ⟨M, ds, g, R, hr, r, q, k⟩ => by
  subst hK
  unfold cDictQ at q
  split at q
  next xs =>
    obtain ⟨es, rfl, q⟩ := q
    obtain ⟨v, rfl, r0⟩ := rp1 r
    cases r0 with
    | tq h1 h2 h3 hd rr =>
      obtain ⟨ps, rfl, hp⟩ := prT_ok rr
      refine ⟨_, _, ps, rfl, h3, hd, fun e he => ?_, fun p hp' => ?_⟩
      · have : ∀ {ps : List Pt} {es : List (List Key × Dv)}, Paired (fun (e : Pt) (d : List Key × Dv) => e.2.1 = d.1 ∧ H e.1 = some (.tup [.ref e.2.2.1, e.2.2.2]) ∧ H e.2.2.1 = some (.tup (e.2.1.map kV)) ∧ Rp ⟨X.K, M⟩ g H e.2.2.2 d.2) ps es → ∀ e ∈ ps, H e.1 = some (.tup [.ref e.2.2.1, e.2.2.2]) ∧ H e.2.2.1 = some (.tup (e.2.1.map kV)) := fun h => by
          induction h with
          | nil => exact fun _ h => nomatch h
          | cons h t ih =>
            intro e he
            rcases List.mem_cons.mp he with rfl | he
            · exact ⟨h.2.1, h.2.2.1⟩
            · exact ih e he
        exact this hp e he
      · have rr : RpP ⟨X.K, M⟩ g H (ps.foldl (fun acc e => putK acc e.2.1 e.2.2.2) []) (mgT es) := mgT_ok hp .nil
        exact k _ _ _ _ (hr_put (m := .dcT (mgT es)) (o := .dT _) hr (.inl hp') rr) (stp_put hr (.inl hp')) (.ref p) (q p (hr_off hr hp'))
  next => exact q.elim
end
/-! ### a dict's keys, one after another, whatever they are -/
section
variable {prog : Program} {w : World} {A : Around} {E : Value → Shared → Prop} {s : Shared} {d I : Addr} {es : Array DictEntry} {ep i : Nat}
def DRaw (h : Heap) (d : Addr) (es : Array DictEntry) (ep : Nat) : Prop := ∃ o, h.get? d = some o ∧ o.ExactDict ∧ o.data = .dict es ep
def KIter (h : Heap) (I d : Addr) (i n ep : Nat) : Prop := ∃ o, h.get? I = some o ∧ o.cls = .type "dict_keyiterator" ∧ o.data = .fields #[.ref d, .int i 0, .int n 0, .int ep 0]
theorem DRaw.ty (m : DRaw s.heap d es ep) : s.TypeIs (.ref d) "dict" := m.elim fun o z => ⟨o, z.1, z.2.1.1⟩
theorem KIter.ty {n : Nat} (m : KIter s.heap I d i n ep) : s.TypeIs (.ref I) "dict_keyiterator" := m.elim fun o z => ⟨o, z.1, z.2.1⟩
theorem DRaw.at {h h' : Heap} (m : DRaw h d es ep) (k : ∀ o, h.get? d = some o → h'.get? d = some o) : DRaw h' d es ep := m.elim fun o z => ⟨o, k o z.1, z.2⟩
theorem KIter.at {h h' : Heap} {n : Nat} (m : KIter h I d i n ep) (k : ∀ o, h.get? I = some o → h'.get? I = some o) : KIter h' I d i n ep := m.elim fun o z => ⟨o, k o z.1, z.2⟩
theorem draw_iter {Q : Value → Shared → Prop} (nsys : (d == sysModules) = false) (m : DRaw s.heap d es ep) (q : Q (.ref s.heap.objs.size) { s with heap := s.heap.push { cls := .type "dict_keyiterator", data := .fields #[.ref d, .int 0 0, .int es.size 0, .int ep 0] } }) : wpAny (model prog w) A (pyIter (.ref d)) Q E s := by
  have ty := m.ty
  obtain ⟨ob, g1, g2, g3⟩ := m
  refine wpAny_pyIter_slot ty F.slot_dict_iter (wpAny_call_entry F.slot_dict_iter ty F.entry_dict_iter ?goal (F.args_dict_iter_1 _))
  unfold Builtin.«dict.__iter__»
  refine wpAny_bind ?_
  unfold Builtin.Dict.dictSlotNone
  refine wpAny_bind (wpAny_notOrdered_dict ty ?_)
  refine wpAny_pure ?_
  show wpAny _ _ (Builtin.Dict.showsAll d >>= _) _ _ s
  unfold Builtin.Dict.showsAll
  rw [if_neg (by rw [nsys]; exact fun z => nomatch z)]
  refine wpAny_bind (wpAny_pure (wpAny_bind (wpAny_dictEntries g1 g3 ?_)))
  refine wpAny_bind (wpAny_dictEpoch g1 g3 (wpAny_bind ?_))
  refine wpAny_newObj_type (wpAny_pure ⟨_, rfl, "dict_keyiterator", _, ⟨_, Heap.get?_push_size _ rfl, rfl⟩, F.slot_dict_keyiterator_next.lookup, ?_⟩)
  simpa [rawInt] using q
theorem draw_item {Q : Option Value → Shared → Prop} (it : KIter s.heap I d i es.size ep) (m : DRaw s.heap d es ep) (hi : i < es.size) (q : ∀ h', KIter h' I d (i + 1) es.size ep → Heap.SameBut I s.heap h' → Q (some es[i].key) { s with heap := h' }) : wpAny (model prog w) A (pyNext (.ref I)) Q E s := by
  have ty := it.ty
  obtain ⟨oi, i1, i2, i3⟩ := it
  obtain ⟨ob, g1, g2, g3⟩ := m
  unfold pyNext
  refine wpAny_bind (wpAny_attempt (wpAny_callSpecial?_slot (name := Str.ofString "__next__") ty F.slot_dict_keyiterator_next (wpAny_call_entry F.slot_dict_keyiterator_next ty F.entry_dict_keyiterator_next ?goal (F.args_dict_keyiterator_next_1 _))))
  refine wpAny_bind (wpAny_pure (wpAny_bind (wpAny_bind ?_)))
  first | refine wpAny_bind (wpAny_typeNameOfWhole_keyiter ty (wpAny_pure ?_)) | refine wpAny_bind (wpAny_typeNameOf_keyiter ty (wpAny_pure ?_))
  refine wpAny_bind (wpAny_fieldsOf i1 i3 ?_)
  simp only [(by decide : Builtin.Dict_items.ownsTuple "dict_keyiterator" = false), Bool.false_eq_true, if_false]
  show wpAny _ _ (if (Value.ref d == Value.none) = true then _ else _) _ _ s
  rw [if_neg (fun z => nomatch z : ¬ ((Value.ref d == Value.none) = true))]
  refine wpAny_bind (wpAny_pure (wpAny_bind (wpAny_dictEntries g1 g3 ?_)))
  rw [if_neg (by simp)]
  refine wpAny_bind (wpAny_pure (wpAny_bind (wpAny_dictEpoch g1 g3 ?_)))
  rw [if_neg (by simp)]
  refine wpAny_pure ?_
  simp only [(by omega : ¬ ((i : Int) < 0)), if_false, Int.toNat_natCast, Array.getElem?_eq_getElem hi]
  refine wpAny_bind ?_
  first | refine wpAny_bind (wpAny_typeNameOfWhole_keyiter ty (wpAny_pure ?_)) | refine wpAny_bind (wpAny_typeNameOf_keyiter ty (wpAny_pure ?_))
  refine wpAny_bind (wpAny_isOneOf_keyiter ty ?_)
  show wpAny _ _ (setField (.ref I) 1 (rawInt ((i : Int) + 1)) >>= _) _ _ s
  refine wpAny_bind (wpAny_setField i1 i3 (by simp) ?_)
  have nx : KIter (s.heap.update I (Obj.mapFields (·.setIfInBounds 1 (rawInt ((i : Int) + 1))))) I d (i + 1) es.size ep := ⟨_, Heap.get?_update_self _ i1 (Obj.isFreed_of_fields (Obj.data_mapFields i3 _)), (Obj.cls_mapFields ..).trans i2, by rw [Obj.data_mapFields i3]; simp [rawInt]⟩
  refine wpAny_bind (wpAny_holding (wpAny_bind (wpAny_isOneOf_keyiter (s := { s with heap := s.heap.update I (Obj.mapFields (·.setIfInBounds 1 (rawInt ((i : Int) + 1)))) }) nx.ty ?_)))
  exact wpAny_pure (wpAny_pure ⟨_, rfl, wpAny_pure (q _ nx (Heap.SameBut.update ..))⟩)
theorem draw_end {Q : Option Value → Shared → Prop} (hA : A.handled = none) (it : KIter s.heap I d es.size es.size ep) (m : DRaw s.heap d es ep) (q : ∀ h', Heap.ExtBut I s.heap h' → Q none { s with heap := h' }) : wpAny (model prog w) A (pyNext (.ref I)) Q E s := by
  have ty := it.ty
  obtain ⟨oi, i1, i2, i3⟩ := it
  obtain ⟨ob, g1, g2, g3⟩ := m
  unfold pyNext
  refine wpAny_bind (wpAny_attempt (wpAny_callSpecial?_slot (name := Str.ofString "__next__") ty F.slot_dict_keyiterator_next (wpAny_call_entry F.slot_dict_keyiterator_next ty F.entry_dict_keyiterator_next ?goal (F.args_dict_keyiterator_next_1 _))))
  refine wpAny_bind (wpAny_pure (wpAny_bind (wpAny_bind ?_)))
  first | refine wpAny_bind (wpAny_typeNameOfWhole_keyiter ty (wpAny_pure ?_)) | refine wpAny_bind (wpAny_typeNameOf_keyiter ty (wpAny_pure ?_))
  refine wpAny_bind (wpAny_fieldsOf i1 i3 ?_)
  simp only [(by decide : Builtin.Dict_items.ownsTuple "dict_keyiterator" = false), Bool.false_eq_true, if_false]
  show wpAny _ _ (if (Value.ref d == Value.none) = true then _ else _) _ _ s
  rw [if_neg (fun z => nomatch z : ¬ ((Value.ref d == Value.none) = true))]
  refine wpAny_bind (wpAny_pure (wpAny_bind (wpAny_dictEntries g1 g3 ?_)))
  rw [if_neg (by simp)]
  refine wpAny_bind (wpAny_pure (wpAny_bind (wpAny_dictEpoch g1 g3 ?_)))
  rw [if_neg (by simp)]
  refine wpAny_pure ?_
  simp only [(by omega : ¬ ((es.size : Int) < 0)), if_false, Int.toNat_natCast, Array.getElem?_eq_none (Nat.le_refl es.size)]
  refine wpAny_bind ?_
  first | refine wpAny_bind (wpAny_typeNameOfWhole_keyiter ty (wpAny_pure ?_)) | refine wpAny_bind (wpAny_typeNameOf_keyiter ty (wpAny_pure ?_))
  show wpAny _ _ (setField (.ref I) 0 .none >>= _) _ _ s
  refine wpAny_bind (wpAny_setField i1 i3 (by simp) ?_)
  show wpAny _ _ (newExc (.type "StopIteration") [] >>= _) _ _ _
  refine wpAny_bind ?_
  simp only [newExc, newTuple]
  refine wpAny_bind (wpAny_newObj_type ?z1 (by size_fits))
  refine wpAny_bind (m := firstArgMember _ _) (wpAny_of_eq (a := Value.none) (by first | rfl | (simp only [firstArgMember]; rfl)) ?z2)
  refine wpAny_newObj_type ?z3 (by size_fits)
  simp only [raiseNew]
  refine wpAny_bind (wpAny_handled ?_)
  rw [(hA : A.in1.handled = none)]
  refine wpAny_bind (wpAny_pure (wpAny_throw ?z4))
  refine wpAny_bind (wpAny_isInstance (b := true) (T := "StopIteration") ⟨_, Heap.get?_push_size _ rfl, rfl⟩ isSubtype_stop (wpAny_pure ?z5))
  exact q _ (((Heap.SameBut.update ..).extBut.push _).push _)
theorem draw_walk (hA : A.handled = none) (I d : Addr) (hne : d ≠ I) (es : Array DictEntry) (ep : Nat) : Walks prog w A I [I, d] [I] es.size (fun i v => ∃ e, es[i]? = some e ∧ v = e.key) (fun i h => KIter h I d i es.size ep ∧ DRaw h d es ep) where
  sub := fun b hb => by
    cases List.mem_singleton.mp hb
    exact List.mem_cons_self
  frame := fun _ _ _ st k => ⟨st.1.at fun o e => k I (by simp) o e, st.2.at fun o e => k d (by simp) o e⟩
  item := fun i s Q E hi st q => draw_item st.1 st.2 hi fun h' it sb => q es[i].key h' s.toks ⟨es[i], Array.getElem?_eq_getElem hi, rfl⟩ ⟨it, st.2.at fun o e => sb.extBut d o hne e⟩ fun b o hb e => sb.extBut b o (fun z => hb (by simp [z])) e
  done := fun s Q E st q => draw_end hA st.1 st.2 fun h' eb => q h' s.toks fun b o hb e => eb b o (fun z => hb (by simp [z])) e
  self := fun _ _ _ _ st q => by
    refine wpAny_pyIter_slot st.1.ty F.slot_dict_keyiterator_iter (wpAny_call_entry F.slot_dict_keyiterator_iter st.1.ty F.entry_dict_keyiterator_iter ?_ (F.args_dict_keyiterator_iter_1 _))
    exact wpAny_pure ⟨_, rfl, "dict_keyiterator", _, st.1.ty, F.slot_dict_keyiterator_next.lookup, q⟩
theorem draw_src (nsys : (d == sysModules) = false) : PySem.W.KdlSrc prog w "dict" d d es.size (fun i v => ∃ e, es[i]? = some e ∧ v = e.key) (fun h => DRaw h d es ep) where
  type := fun _ m => m.ty
  there := fun _ m => m.elim fun o z => ⟨Heap.lt_size z.1, Heap.lt_size z.1⟩
  keep := fun _ _ m k => m.at fun o e => k d (.inl rfl) o e
  notList := by decide
  notTuple := by decide
  hint := fun _ _ _ _ m q => PySem.W.kdl_hint_dict m.ty q
  iter := fun _ s hA m => ⟨_, _, (fun _ _ q => draw_iter nsys m q), draw_walk hA _ d (m.elim fun o z => Nat.ne_of_lt (Heap.lt_size z.1)) es ep, ⟨⟨_, Heap.get?_push_size _ rfl, rfl, rfl⟩, m.at fun o e => Heap.get?_push_of_some _ e⟩⟩
end
/-! ### keys (tuples of numbers and texts) in order: numbers ahead of texts -/
def cmpKy : Key → Key → Ordering
  | .inl i, .inl j => if i < j then .lt else if j < i then .gt else .eq
  | .inl _, .inr _ => .lt
  | .inr _, .inl _ => .gt
  | .inr x, .inr y => if x.cps.toList < y.cps.toList then .lt else if y.cps.toList < x.cps.toList then .gt else .eq
def cmpKs : List Key → List Key → Ordering
  | [], [] => .eq
  | [], _ :: _ => .lt
  | _ :: _, [] => .gt
  | x :: xs, y :: ys => match cmpKy x y with
    | .eq => cmpKs xs ys
    | .lt => .lt
    | .gt => .gt
theorem str_cps {x y : Str} (h : x.cps.toList = y.cps.toList) : x = y := by
  cases x with
  | mk a =>
    cases y with
    | mk b => exact congrArg Str.mk (Array.toList_inj.mp h)
theorem cmpKy_eq : ∀ {x y : Key}, cmpKy x y = .eq → x = y
  | .inl i, .inl j, h => by
    simp only [cmpKy] at h
    by_cases a : i < j
    · rw [if_pos a] at h; cases h
    · by_cases b : j < i
      · rw [if_neg a, if_pos b] at h; cases h
      · rw [show i = j by omega]
  | .inl _, .inr _, h => by cases h
  | .inr _, .inl _, h => by cases h
  | .inr x, .inr y, h => by
    simp only [cmpKy] at h
    by_cases a : x.cps.toList < y.cps.toList
    · rw [if_pos a] at h; cases h
    · by_cases b : y.cps.toList < x.cps.toList
      · rw [if_neg a, if_pos b] at h; cases h
      · rw [str_cps (List.le_antisymm (List.not_lt.mp b) (List.not_lt.mp a))]
theorem cmpKy_rfl : ∀ x : Key, cmpKy x x = .eq
  | .inl i => by simp only [cmpKy]; rw [if_neg (Int.lt_irrefl i), if_neg (Int.lt_irrefl i)]
  | .inr x => by simp only [cmpKy]; rw [if_neg (List.lt_irrefl _), if_neg (List.lt_irrefl _)]
theorem cmpKy_swap : ∀ x y : Key, cmpKy y x = (cmpKy x y).swap
  | .inl i, .inl j => by
    simp only [cmpKy]
    by_cases a : i < j
    · rw [if_neg (by omega), if_pos a, if_pos a]; rfl
    · by_cases b : j < i
      · rw [if_pos b, if_neg a, if_pos b]; rfl
      · rw [if_neg b, if_neg a, if_neg a, if_neg b]; rfl
  | .inl _, .inr _ => rfl
  | .inr _, .inl _ => rfl
  | .inr x, .inr y => by
    simp only [cmpKy]
    by_cases a : x.cps.toList < y.cps.toList
    · rw [if_neg (lt_not a), if_pos a, if_pos a]; rfl
    · by_cases b : y.cps.toList < x.cps.toList
      · rw [if_pos b, if_neg a, if_pos b]; rfl
      · rw [if_neg b, if_neg a, if_neg a, if_neg b]; rfl
theorem cmpKy_tr : ∀ {x y z : Key}, cmpKy x y = .lt → cmpKy y z = .lt → cmpKy x z = .lt
  | .inl i, .inl j, .inl k, h1, h2 => by
    simp only [cmpKy] at h1 h2 ⊢
    by_cases a : i < j
    · by_cases b : j < k
      · rw [if_pos (by omega)]
      · rw [if_neg b] at h2
        split at h2 <;> cases h2
    · rw [if_neg a] at h1
      split at h1 <;> cases h1
  | .inl _, .inl _, .inr _, _, _ => rfl
  | .inl _, .inr _, .inr _, _, _ => rfl
  | .inl _, .inr _, .inl _, _, h2 => by cases h2
  | .inr _, .inl _, _, h1, _ => by cases h1
  | .inr _, .inr _, .inl _, _, h2 => by cases h2
  | .inr x, .inr y, .inr z, h1, h2 => by
    simp only [cmpKy] at h1 h2 ⊢
    by_cases a : x.cps.toList < y.cps.toList
    · by_cases b : y.cps.toList < z.cps.toList
      · rw [if_pos (List.lt_trans a b)]
      · rw [if_neg b] at h2
        split at h2 <;> cases h2
    · rw [if_neg a] at h1
      split at h1 <;> cases h1
theorem cmpKs_eq : ∀ {xs ys : List Key}, cmpKs xs ys = .eq → xs = ys
  | [], [], _ => rfl
  | [], _ :: _, h => by cases h
  | _ :: _, [], h => by cases h
  | x :: xs, y :: ys, h => by
    simp only [cmpKs] at h
    split at h
    next e => rw [cmpKy_eq e, cmpKs_eq h]
    next => cases h
    next => cases h
theorem cmpKs_rfl : ∀ xs : List Key, cmpKs xs xs = .eq
  | [] => rfl
  | x :: xs => by
    simp only [cmpKs]
    rw [cmpKy_rfl]
    exact cmpKs_rfl xs
theorem cmpKs_swap : ∀ xs ys : List Key, cmpKs ys xs = (cmpKs xs ys).swap
  | [], [] => rfl
  | [], _ :: _ => rfl
  | _ :: _, [] => rfl
  | x :: xs, y :: ys => by
    simp only [cmpKs]
    rw [cmpKy_swap x y]
    cases cmpKy x y with
    | eq => exact cmpKs_swap xs ys
    | lt => rfl
    | gt => rfl
theorem cmpKs_tr : ∀ {xs ys zs : List Key}, cmpKs xs ys = .lt → cmpKs ys zs = .lt → cmpKs xs zs = .lt
  | [], [], _, h, _ => by cases h
  | [], _ :: _, [], _, h => by cases h
  | [], _ :: _, _ :: _, _, _ => rfl
  | _ :: _, [], _, h, _ => by cases h
  | _ :: _, _ :: _, [], _, h => by cases h
  | x :: xs, y :: ys, z :: zs, h1, h2 => by
    simp only [cmpKs] at h1 h2 ⊢
    cases e1 : cmpKy x y with
    | gt => rw [e1] at h1; cases h1
    | eq =>
      rw [e1] at h1
      obtain rfl := cmpKy_eq e1
      cases e2 : cmpKy x z with
      | gt => rw [e2] at h2; cases h2
      | lt => rfl
      | eq =>
        rw [e2] at h2
        exact cmpKs_tr h1 h2
    | lt =>
      cases e2 : cmpKy y z with
      | gt => rw [e2] at h2; cases h2
      | lt => rw [cmpKy_tr e1 e2]
      | eq =>
        obtain rfl := cmpKy_eq e2
        rw [e1]
def ltKs (x y : List Key) : Bool := cmpKs x y == .lt
theorem ltKs_iff {x y : List Key} : ltKs x y = true ↔ cmpKs x y = .lt := by
  unfold ltKs
  cases cmpKs x y <;> decide
theorem ltKs_asym {x y : List Key} (h : ltKs x y = true) : ltKs y x = false := by
  unfold ltKs
  rw [cmpKs_swap x y, ltKs_iff.mp h]
  rfl
theorem ltKs_irr (x : List Key) : ltKs x x = false := by unfold ltKs; rw [cmpKs_rfl]; rfl
theorem ltKs_trans {x y z : List Key} (h : ltKs x y = true) (k : ltKs y z = true) : ltKs x z = true := ltKs_iff.mpr (cmpKs_tr (ltKs_iff.mp h) (ltKs_iff.mp k))
theorem ltKs_tri {x y : List Key} (h : ltKs x y = false) (k : ltKs y x = false) : x = y := by
  refine cmpKs_eq ?_
  unfold ltKs at h k
  rw [cmpKs_swap x y] at k
  cases e : cmpKs x y with
  | eq => rfl
  | lt => rw [e] at h; cases h
  | gt => rw [e] at k; cases k
theorem ltKs_ntr {x y z : List Key} (h : ltKs x y = false) (k : ltKs y z = false) : ltKs x z = false := by
  cases e : ltKs x z with
  | false => rfl
  | true =>
    cases e2 : ltKs y x with
    | true => rw [ltKs_trans e2 e] at k; cases k
    | false =>
      obtain rfl := ltKs_tri h e2
      rw [e] at k; cases k
/-- what such a key is ordered by -/
def ordE : Key → PyData
  | .inl i => .tuple [.int 0, .int i]
  | .inr z => .tuple [.int 1, .str z]
def ordEd : Key → Dv
  | .inl i => .tup [.int 0, .int i]
  | .inr z => .tup [.int 1, .str z]
def ordP (k : List Key) : PyData := .tuple (k.map ordE)
def ordD (k : List Key) : Dv := .tup (k.map ordEd)
theorem pds_ord : ∀ k : List Key, pds (k.map ordEd) = some (k.map ordE)
  | [] => rfl
  | .inl i :: k => pds_cons (d := ordEd (.inl i)) rfl (pds_ord k)
  | .inr i :: k => pds_cons (d := ordEd (.inr i)) rfl (pds_ord k)
theorem pd_ord (k : List Key) : pd (ordD k) = some (ordP k) := by
  show (pds (k.map ordEd)).map PyData.tuple = _
  rw [pds_ord]
  rfl
theorem cm_E : ∀ x y : Key, Cm (ordE x) (ordE y) (cmpKy x y)
  | .inl i, .inl j => by
    simp only [cmpKy]
    refine .tup (.same .ieq ?_)
    by_cases a : i < j
    · rw [if_pos a]; exact .diff (.ilt a) (by decide)
    · by_cases b : j < i
      · rw [if_neg a, if_pos b]; exact .diff (.igt b) (by decide)
      · rw [if_neg a, if_neg b, show i = j by omega]
        exact .same .ieq .nn
  | .inl _, .inr _ => .tup (.diff (.ilt (by decide)) (fun z => nomatch z))
  | .inr _, .inl _ => .tup (.diff (.igt (by decide)) (fun z => nomatch z))
  | .inr x, .inr y => by
    simp only [cmpKy]
    refine .tup (.same .ieq ?_)
    by_cases a : x.cps.toList < y.cps.toList
    · rw [if_pos a]; exact .diff (.slt a) (by decide)
    · by_cases b : y.cps.toList < x.cps.toList
      · rw [if_neg a, if_pos b]; exact .diff (.sgt b) (by decide)
      · rw [if_neg a, if_neg b, str_cps (List.le_antisymm (List.not_lt.mp b) (List.not_lt.mp a))]
        exact .same .seq .nn
theorem cm_Ks : ∀ k l : List Key, CmL (k.map ordE) (l.map ordE) (cmpKs k l)
  | [], [] => .nn
  | [], _ :: _ => .nc
  | _ :: _, [] => .cn
  | x :: xs, y :: ys => by
    have z := cm_E x y
    have t := cm_Ks xs ys
    simp only [cmpKs]
    cases e : cmpKy x y with
    | eq => rw [e] at z; exact .same z t
    | lt => rw [e] at z; exact .diff z (fun z => nomatch z)
    | gt => rw [e] at z; exact .diff z (fun z => nomatch z)
/-! ### sorted(d, key=f): the keys of a dict by what a def makes of them -/
section
variable {prog : Program} {w : World} {A : Around} {s : Shared}
theorem lexP_kat {Q : Bool → Shared → Prop} {z : Bool} {l : List (Value × Value)} {k : Bool} (h : LexP .Lt A s z l k) : ∀ i, Q k s → PySem.W.KatLex prog w A false z Q l i s := by
  induction h with
  | done => exact fun i q => PySem.W.kat_nil q
  | same e r ih => exact fun i q => PySem.W.kat_cons (e prog w _ _ (PySem.W.kat_yes (ih (i + 1) q)))
  | diff e c => exact fun i q => PySem.W.kat_cons (e prog w _ _ (PySem.W.kat_no (PySem.W.kat_one _ _ (c prog w _ _ q))))
end
theorem _root_.L2.Inv.adopt {X : Cx} {pins : List (Addr × Obj)} {σ : L2.St} {H : Hp} {s : Shared} {h' : Heap} {t' : Nat} {a : Addr} {o : HO} (I : Inv X pins σ H s) (f : FpOk X pins H a) (k : ∀ b u, b ≠ a → s.heap.get? b = some u → h'.get? b = some u)
    (new : ObjOk X.prog X.w (upd H a o) h' a o) : Inv X pins σ (upd H a o) { s with heap := h', toks := t' } := by
  obtain ⟨hn, hL, _, h1, h2, h3⟩ := f
  have nit : ∀ b u, H b = some u → b ≠ a := fun b u e z => by rw [z, hn] at e; cases e
  refine I.step (g' := s.gens) (d' := s.drawn) (ch := [a]) (fun b hb => ?_) (fun b u _ _ hc e _ => k b u (fun z => hc (by simp [z])) e) (fun b u _ _ hc e _ => ⟨u.slots, k b u (fun z => hc (by simp [z])) e⟩) (fun b u hc _ n => by rw [upd_ne (fun z => hc (by simp [z]))]; exact n)
    (fun b u hc e => ⟨u, k b u (fun z => hc (by simp [z])) e⟩) (fun b _ e => by rw [upd_ne (nit b _ e)]; exact e) (fun b _ _ e => by rw [upd_ne (nit b _ e)]; exact e) (fun b ps e => ⟨#[], by rw [upd_ne (nit b _ e), e]; simp⟩) (fun m hm => ?_) (fun b u e => ?_) I.bare
  · have e : b = a := by simpa using hb
    subst e
    exact ⟨h1, hL, h2, h3⟩
  · obtain ⟨u, es, ep, ho, r⟩ := hm
    exact ⟨u, es, ep, k _ u (Ne.symm hL) ho, r⟩
  · by_cases hb : b = a
    · subst hb
      rw [upd_same] at e
      cases e
      exact new
    · rw [upd_ne hb] at e
      refine (I.hok b u e).stay (fun c v hc q => k c v ?_ q) (fun c q => by rw [upd_ne (nit c _ q)]; exact q) fun c xs q => by rw [upd_ne (nit c _ q)]; exact q
      rcases hc with z | z
      · rw [z]; exact hb
      · exact nit c _ z
section
variable {X : Cx} {S : FD}
/-- one call of the key's def -/
theorem key_call {k : Nat} {f : Addr} {fd : FuncData} {ps : List Str} (F : FnX X.prog X.w X.K X.mg X.base k f fd ps (spL X.K S)) (hb : Binds X.K fd ps []) {A : Around} (hA : A.frames = X.A.frames) (gd : A.guards = some []) (hr : Room k A)
    {pins : List (Addr × Obj)} {σ : L2.St} {H : Hp} {s : Shared} (I : Inv X pins σ H s) {M : List Addr} {g : Ah} {v : V} {u : Value} {d e : Dv} (rel : RelV v u) (hrr : HR ⟨X.K, M⟩ g H) (rp : Rp ⟨X.K, M⟩ g H v d) (hS : ∀ R Y, R e g → S [d] g R Y) :
    wpAny (model X.prog X.w) A (call (.ref f) [u]) (EP X pins σ fun x H' => HR ⟨X.K, M⟩ g H' ∧ Stp g H g H' ∧ Rp ⟨X.K, M⟩ g H' x e) (fun _ _ => False) s := by
  have sp : spL X.K S [v] H (fun x H' => HR ⟨X.K, M⟩ g H' ∧ Stp g H g H' ∧ Rp ⟨X.K, M⟩ g H' x e) E0 := by
    refine ⟨M, [d], g, fun d' g' => d' = e ∧ g' = g, fun _ _ => False, .one rp, hrr, hS _ _ ⟨rfl, rfl⟩, ?_, fun _ _ _ _ _ _ _ _ z => z.elim⟩
    intro x d' g' H' h1 h2 h3 h4
    obtain ⟨rfl, rfl⟩ := h4
    exact ⟨h1, h2, h3⟩
  have bound := hb s [u] I.kIn (by rw [List.append_nil]; exact F.many _ _ _ _ sp)
  rw [List.append_nil] at bound
  have e0 := I.env0
  refine wpAny_call (codeAny_mono (F.goes A X.stack s H ⟨[u], []⟩ [u] [v] _ E0 gd hr ⟨hA.trans e0.frames, e0.mod, e0.bs, e0.bsz, e0.funs, e0.frf, e0.hok, e0.bare⟩ bound (.cons rel .nil) sp) fun r s' z => ?_)
  match r, z with
  | .error e, z =>
    obtain ⟨_, _, _, _, _, _, _, _, _, _, _, _, z⟩ := z
    exact z.elim
  | .ok (.ret _), z => exact I.after z
  | .ok .next, z => exact False.elim z
  | .ok .brk, z => exact False.elim z
  | .ok .cont, z => exact False.elim z
def vK : V → Key
  | .int i => .inl i
  | .str z => .inr z
  | _ => .inl 0
theorem vK_kV : ∀ k : List Key, (k.map kV).map vK = k
  | [] => rfl
  | .inl i :: k => congrArg (Sum.inl i :: ·) (vK_kV k)
  | .inr i :: k => congrArg (Sum.inr i :: ·) (vK_kV k)
/-- the key that an object is -/
def kAt (H : Hp) : Value → List Key
  | .ref a => (match H a with
    | some (.tup vs) => vs.map vK
    | _ => [])
  | _ => []
theorem kAt_of {H : Hp} {a : Addr} {k : List Key} (h : H a = some (.tup (k.map kV))) : kAt H (.ref a) = k := by
  show (match H a with
    | some (.tup vs) => vs.map vK
    | _ => []) = k
  rw [h]
  exact vK_kV k
theorem rp_key {K : KM} {g : Ah} {H : Hp} {a : Addr} {k : List Key} (hr : HR K g H) (h : H a = some (.tup (k.map kV))) : Rp K g H (.ref a) (.tup (k.map kD)) := by
  refine .tup ?_ (fun z => ?_) h (keysRp k)
  · cases q : g a with
    | none => rfl
    | some m =>
      obtain ⟨o, e, ok⟩ := hr.1 a m q
      rw [h] at e
      cases e
      cases m <;> exact ok.elim
  · have := (hr.2 a z).2
    rw [h] at this
    exact this
where keysRp {K : KM} {g : Ah} {H : Hp} : ∀ k : List Key, RpAll K g H (k.map kV) (k.map kD)
  | [] => .nil
  | .inl i :: k => .cons (.int i) (keysRp k)
  | .inr i :: k => .cons (.str i) (keysRp k)
theorem rpAll_map {α : Type} {K : KM} {g : Ah} {H : Hp} {a : α → V} {b : α → Dv} : ∀ {l : List α}, (∀ p ∈ l, Rp K g H (a p) (b p)) → RpAll K g H (l.map a) (l.map b)
  | [], _ => .nil
  | _ :: _, h => .cons (h _ List.mem_cons_self) (rpAll_map fun p m => h p (List.mem_cons_of_mem _ m))
theorem vals_map {α : Type} {a : α → V} {b : α → Value} : ∀ {l : List α}, (∀ p ∈ l, RelV (a p) (b p)) → Vals (l.map a) (l.map b)
  | [], _ => .nil
  | _ :: _, h => .cons (h _ List.mem_cons_self) (vals_map fun p m => h p (List.mem_cons_of_mem _ m))
/-- what the keys of one kind and their comparison are -/
def PKey (H : Hp) (h : Heap) (p : Keyed) : Prop := ∃ (k : List Key) (a : Addr) (as : List Addr), p.2 = .ref a ∧ H a = some (.tup (k.map kV)) ∧ Reads h p.1 (ordP k) as ∧ SeqAt.shaped (ordP k) = true ∧ k ≠ []
def ltKey (H : Hp) (p q : Keyed) : Bool := ltKs (kAt H p.2) (kAt H q.2)
theorem ltKey_swo (H : Hp) : SrtO.Swo (ltKey H) := ⟨fun _ _ h => ltKs_asym h, fun _ _ _ h k => ltKs_ntr k h⟩
theorem ltKey_cmp {prog : Program} {w : World} {A : Around} {s : Shared} {H : Hp} (hu : A.units + 70 < cLine) : SrtO.Cmp prog w A s (tuples' false) (PKey H s.heap) (ltKey H) := by
  rintro ⟨u, x⟩ ⟨v, y⟩ ⟨k, a, as, e1, h1, r1, s1, _⟩ ⟨l, b, bs, e2, h2, r2, s2, _⟩
  simp only at e1 e2 r1 r2
  subst e1 e2
  obtain ⟨p, us, rfl, ⟨o1, g1, c1, n1, d1⟩, ra⟩ := Reads.tup r1
  obtain ⟨q, vs, rfl, ⟨o2, g2, c2, n2, d2⟩, rb⟩ := Reads.tup r2
  refine PySem.W.kat_lt g1 d1 g2 d2 ?_
  have z1 := SeqAt.canLay_of_shaped s1
  have z2 := SeqAt.canLay_of_shaped s2
  have z3 := SeqAt.depth_of_shaped s1
  simp only [ordP, PyData.canLay0] at z1 z2
  simp only [ordP, PyData.depth] at z3
  have c := (CmL.rc (cm_Ks k l) ra rb z1 z2 (A := A) (by omega)).1
  refine lexP_kat (by simpa using c) 0 ⟨rfl, ?_⟩
  show (cmpKs k l == .lt) = ltKs (kAt H (.ref a)) (kAt H (.ref b))
  rw [kAt_of h1, kAt_of h2]
  rfl
theorem first_tuple {h : Heap} {u : Value} {k : List Key} {as : List Addr} (r : Reads h u (ordP k) as) (hk : k ≠ []) : ∃ a o xs n f, u = .ref a ∧ h.get? a = some o ∧ o.cls = .type "tuple" ∧ o.data = .seq xs n ∧ xs[0]? = some f ∧ ∃ b ob, f = .ref b ∧ h.get? b = some ob ∧ ob.cls = .type "tuple" := by
  obtain ⟨p, us, rfl, ⟨o, g, c, n, d⟩, ra⟩ := Reads.tup r
  cases k with
  | nil => exact absurd rfl hk
  | cons x k =>
    have ra' : ReadsAll h us.toList (ordE x :: k.map ordE) as := ra
    generalize hl : us.toList = l at ra'
    cases ra' with
    | cons r1 r2 =>
      rename_i u1 _ _ _
      have e0 : us[0]? = some u1 := by
        rw [← Array.getElem?_toList, hl]
        rfl
      cases x with
      | inl i =>
        obtain ⟨b, vs, rfl, ⟨ob, gb, cb, _⟩, _⟩ := Reads.tup (show Reads h u1 (.tuple [.int 0, .int i]) _ from r1)
        exact ⟨p, o, us, n, _, rfl, g, c, d, e0, b, ob, rfl, gb, cb⟩
      | inr i =>
        obtain ⟨b, vs, rfl, ⟨ob, gb, cb, _⟩, _⟩ := Reads.tup (show Reads h u1 (.tuple [.int 1, .str i]) _ from r1)
        exact ⟨p, o, us, n, _, rfl, g, c, d, e0, b, ob, rfl, gb, cb⟩
theorem key_kind {prog : Program} {w : World} {A : Around} {s : Shared} {keys : List Value} {Q : SortKind → Shared → Prop} {E : Value → Shared → Prop} (h0 : 0 < keys.length) (h : ∀ u ∈ keys, ∃ (k : List Key) (as : List Addr), Reads s.heap u (ordP k) as ∧ k ≠ []) (q : Q (tuples' false) s) :
    wpAny (model prog w) A (keyKind' keys.toArray) Q E s := by
  have all : ∀ keys : List Value, (∀ u ∈ keys, ∃ (k : List Key) (as : List Addr), Reads s.heap u (ordP k) as ∧ k ≠ []) → ∃ fs : List Value, PySem.W.KatTups s.heap keys fs ∧ fs.length = keys.length ∧ ∀ f ∈ fs, ∃ b ob, f = .ref b ∧ s.heap.get? b = some ob ∧ ob.cls = .type "tuple" := by
    intro keys
    induction keys with
    | nil => exact fun _ => ⟨[], .nil, rfl, fun f m => nomatch m⟩
    | cons u us ih =>
      intro h
      obtain ⟨fs, t, e, hf⟩ := ih fun x m => h x (List.mem_cons_of_mem _ m)
      obtain ⟨k, as, r, hk⟩ := h u List.mem_cons_self
      obtain ⟨a, o, xs, n, f, rfl, g, c, d, e0, b, ob, rfl, gb, cb⟩ := first_tuple r hk
      refine ⟨.ref b :: fs, .cons g c d e0 t, by rw [List.length_cons, List.length_cons, e], fun x m => ?_⟩
      rcases List.mem_cons.mp m with rfl | m
      · exact ⟨b, ob, rfl, gb, cb⟩
      · exact hf x m
  obtain ⟨fs, t, e, hf⟩ := all keys h
  refine PySem.W.kat_kind (T := .type "tuple") t (by omega) (fun f m => ?_) (by rfl) ?_
  · obtain ⟨b, ob, rfl, gb, cb⟩ := hf f m
    have z := (show PySem.W.Looks (model prog w) s.heap (typeOf (.ref b)) ob.cls from (PySem.W.Looks.ld gb).andThen .now)
    rw [cb] at z
    exact z
  · have e : (Value.type "tuple" != Value.type "tuple") = false := by first | decide +kernel | rfl | decide
    rw [e]
    exact q
theorem ks_tail {L kS : Addr} {e e1 : Nat} {keys items : Array Value} {st : SortSt} {E : Value → Shared → Prop} {P : PySem.Fin → Shared → Prop} {A : Around} {pins : List (Addr × Obj)} {σ : L2.St} {H : Hp} {s : Shared} (I : Inv X pins σ H s) (fK : FpOk X pins H kS) (fL : FpOk X pins H L) (ne : kS ≠ L)
    (gK : s.heap.get? kS = some (seqObj "list" keys e)) (gL : s.heap.get? L = some (seqObj "list" #[] e1)) (hzk : keys.size ≤ sizeLine) (hz : items.size ≤ sizeLine) (hp : (arrOf st).toList.Perm (keys.zip items).toList) (hf : failedOf st = none) (hk : ∀ p ∈ (keys.zip items).toList, PKey H s.heap p)
    (hs : SrtO.Srtd (ltKey H) (arrOf st).toList) {M : List Addr} {g : Ah} (hrr : HR ⟨X.K, M⟩ g H)
    (h : ∀ (L' : List Keyed) (us : List V) (s' : Shared), L'.Perm (keys.zip items).toList → (L'.map fun p => kAt H p.2).Pairwise (fun x y => ltKs y x = false) → Inv X pins σ (upd H L (.lst us)) s' → RpAll ⟨X.K, M⟩ g H us ((L'.map fun p => kAt H p.2).map fun k => .tup (k.map kD)) → P (.done (.ret .none)) s') :
    wpAny (model X.prog X.w) A (ksk_tail L false e1 (.ref kS) st) P E s := by
  have hall : ∀ p ∈ (arrOf st).toList, PKey H s.heap p := fun p m => hk p (hp.mem_iff.mp m)
  have hln : (arrOf st).toList.length = (keys.zip items).toList.length := hp.length_eq
  have hsz : ((arrOf st).map (·.2)).size ≤ sizeLine := by
    rw [Array.size_map, ← Array.length_toList, hln, Array.length_toList, Array.size_zip]
    omega
  have us_rp : RpAll ⟨X.K, M⟩ g H ((arrOf st).toList.map fun p => backV p.2) (((arrOf st).toList.map fun p => kAt H p.2).map fun k => .tup (k.map kD)) := by
    rw [List.map_map]
    refine rpAll_map fun p m => ?_
    obtain ⟨k, a, _, e2, h2, _⟩ := hall p m
    show Rp _ g H (backV p.2) (.tup ((kAt H p.2).map kD))
    rw [e2, kAt_of h2]
    exact rp_key hrr h2
  have us_v : Vals ((arrOf st).toList.map fun p => backV p.2) ((arrOf st).map (·.2)).toList := by
    rw [Array.toList_map]
    refine vals_map fun p m => ?_
    obtain ⟨k, a, _, e2, h2, _⟩ := hall p m
    rw [e2]
    exact rfl
  have s1 := Heap.SameBut.update s.heap kS (Obj.mapSeq fun _ => (#[] : Array Value))
  obtain ⟨k0, k1, k2, k3, k4, k5⟩ := fK
  have I1 : Inv X pins σ H { s with heap := s.heap.update kS (Obj.mapSeq fun _ => (#[] : Array Value)) } := I.turned (t' := s.toks) (fun b o hb e => (s1.2 b hb).trans e) k0 k1 k3 k4 k5
  have gL1 : (s.heap.update kS (Obj.mapSeq fun _ => (#[] : Array Value))).get? L = some (seqObj "list" #[] e1) := (s1.2 L ne.symm).trans gL
  have s2 := Heap.SameBut.update (s.heap.update kS (Obj.mapSeq fun _ => (#[] : Array Value))) L (Obj.mapSeq fun _ => (arrOf st).map (·.2))
  obtain ⟨c2, gL2⟩ : ∃ c2, ((s.heap.update kS (Obj.mapSeq fun _ => (#[] : Array Value))).update L (Obj.mapSeq fun _ => (arrOf st).map (·.2))).get? L = some (seqObj "list" ((arrOf st).map (·.2)) c2) := ⟨_, get?_update_seq gL1 fun _ => (arrOf st).map (·.2)⟩
  unfold ksk_tail
  try dsimp only
  refine wpAny_bind (listUpdate_at gK rfl ?_ hzk (Nat.zero_le _))
  refine wpAny_bind (wpAny_letGo ?_)
  refine wpAny_bind (seqEpoch_at gL1 rfl ?_)
  simp only [Bool.false_eq_true, if_false]
  refine wpAny_bind (listUpdate_at gL1 rfl ?_ (Nat.zero_le _) (Nat.le_succ_of_le hsz))
  rw [hf]
  simp only [bne_self_eq_false, Bool.false_eq_true, if_false]
  refine wpAny_pure (h (arrOf st).toList ((arrOf st).toList.map fun p => backV p.2) _ hp (List.pairwise_map.mpr hs) (I1.adopt (t' := s.toks) (o := .lst _) fL (fun b o hb e => (s2.2 b hb).trans e) ⟨?_, ((arrOf st).map (·.2)).toList, c2, us_v, ?_⟩) us_rp)
  · rw [us_v.length, Array.length_toList]; exact hsz
  · rw [Array.toArray_toList]; exact gL2
theorem ks_end {k : Nat} {L kS : Addr} {e e1 : Nat} {keys items : Array Value} {E : Value → Shared → Prop} {P : PySem.Fin → Shared → Prop} {A : Around} (hr : Room k A) {pins : List (Addr × Obj)} {σ : L2.St} {H : Hp} {s : Shared} (I : Inv X pins σ H s) (fK : FpOk X pins H kS) (fL : FpOk X pins H L) (ne : kS ≠ L)
    (gK : s.heap.get? kS = some (seqObj "list" keys e)) (gL : s.heap.get? L = some (seqObj "list" #[] e1)) (hzk : keys.size = items.size) (hz : items.size ≤ sizeLine) (hk : ∀ p ∈ (keys.zip items).toList, PKey H s.heap p)
    {M : List Addr} {g : Ah} (hrr : HR ⟨X.K, M⟩ g H)
    (h : ∀ (L' : List Keyed) (us : List V) (s' : Shared), L'.Perm (keys.zip items).toList → (L'.map fun p => kAt H p.2).Pairwise (fun x y => ltKs y x = false) → Inv X pins σ (upd H L (.lst us)) s' → RpAll ⟨X.K, M⟩ g H us ((L'.map fun p => kAt H p.2).map fun k => .tup (k.map kD)) → P (.done (.ret .none)) s') :
    wpAny (model X.prog X.w) A (ksk_end L false items e1 (.ref kS) keys) P E s := by
  have zs : (keys.zip items).size = items.size := by rw [Array.size_zip]; omega
  unfold ksk_end
  simp only [Bool.false_eq_true, if_false]
  by_cases h2 : items.size < 2
  · rw [if_pos h2, if_pos h2]
    refine wpAny_bind (wpAny_pure ?_)
    rw [StateT.run_pure]
    refine wpAny_bind (wpAny_pure ?_)
    try dsimp only
    refine ks_tail (st := SortSt.mk' general' (keys.zip items) #[] 7 none) I fK fL ne gK gL (by omega) hz (List.Perm.refl _) rfl hk ?_ hrr h
    show SrtO.Srtd (ltKey H) (keys.zip items).toList
    have hl : (keys.zip items).toList.length < 2 := by rw [Array.length_toList, zs]; exact h2
    match (keys.zip items).toList, hl with
    | [], _ => exact List.Pairwise.nil
    | [v], _ => exact List.pairwise_singleton _ _
    | _ :: _ :: l, h => exact absurd h (by rw [List.length_cons, List.length_cons]; omega)
  · rw [if_neg h2, if_neg h2]
    have kl : keys = keys.toList.toArray := by rw [Array.toArray_toList]
    refine wpAny_bind ?_
    rw [kl]
    refine key_kind (by rw [Array.length_toList]; omega) (fun u m => ?_) ?_
    · obtain ⟨j, hj, e⟩ := List.getElem_of_mem m
      have hj' : j < keys.size := by rw [← Array.length_toList]; exact hj
      have hm : (keys[j], items[j]) ∈ (keys.zip items).toList := by
        rw [Array.toList_zip]
        have : (keys.toList.zip items.toList)[j]? = some (keys[j], items[j]) := by
          rw [List.getElem?_zip_eq_some]
          exact ⟨by simp [hj'], by simp⟩
        exact List.mem_of_getElem? this
      obtain ⟨k, _, as, _, _, r, _, n⟩ := hk _ hm
      refine ⟨k, as, ?_, n⟩
      rw [← e]
      simpa using r
    rw [← kl]
    refine wpAny_bind (wpAny_mono (SrtO.wpS_sortO (st0 := SortSt.mk' (tuples' false) (keys.zip items) #[] 7 none)
      (Q := fun _ st' => SrtO.Srtd (ltKey H) (arrOf st').toList ∧ (arrOf st').toList.Perm (keys.zip items).toList ∧ failedOf st' = none) (ltKey_swo H) (ltKey_cmp (by have := hr.un; omega)) rfl hk rfl rfl fun st' a1 a2 a3 => ⟨a1, a2.perm, a3⟩) ?_ fun _ _ e => e)
    rintro ⟨⟨⟩, st'⟩ s' ⟨rfl, hp1, hp2, hf⟩
    try dsimp only
    exact ks_tail I fK fL ne gK gL (by omega) hz hp2 hf hk hp1 hrr h
end
section
variable {X : Cx} {S : FD}
theorem ks_tree {k : Nat} {f : Addr} {fd : FuncData} {ps : List Str} (F : FnX X.prog X.w X.K X.mg X.base k f fd ps (spL X.K S)) (hb : Binds X.K fd ps []) {A : Around} (hA : A.frames = X.A.frames) (gd : A.guards = some []) (hr : Room k A) {L : Addr} {n : Nat} {items : List Value} {E : Value → Shared → Prop} {P : PySem.Fin → Shared → Prop}
    {pins : List (Addr × Obj)} {σ : L2.St} {H : Hp} {s : Shared} (I : Inv X pins σ H s) (fL : FpOk X pins H L) (gL : s.heap.get? L = some (seqObj "list" items.toArray n)) {kvs : List (List Key × V)} {xs : List (List Key × Addr × Value)} (rel : L2.KT H kvs xs) (hi : items = xs.map fun x => Value.ref x.2.1) (hz : kvs.length ≤ sizeLine)
    {M : List Addr} {g : Ah} (hrr : HR ⟨X.K, M⟩ g H) (hk : ∀ kv ∈ kvs, kv.1 ≠ [] ∧ SeqAt.shaped (ordP kv.1) = true ∧ ∀ R Y, R (ordD kv.1) g → S [.tup (kv.1.map kD)] g R Y)
    (h : ∀ (ys : List (List Key)) (us : List V) (H1 : Hp) (s' : Shared), ys.Perm (kvs.map (·.1)) → ys.Pairwise (fun x y => ltKs y x = false) → HR ⟨X.K, M⟩ g H1 → Stp g H g H1 → H1 L = none → Inv X pins σ (upd H1 L (.lst us)) s' → RpAll ⟨X.K, M⟩ g H1 us (ys.map fun k => .tup (k.map kD)) → P (.done (.ret .none)) s') :
    wpAny (model X.prog X.w) A (ksk_tree L (.ref f) false) P E s := by
  have hxl : xs.length = kvs.length := rel.length.symm
  have hil : items.length = kvs.length := by rw [hi, List.length_map, hxl]
  have at_ : ∀ j, j < kvs.length → ∃ (kv : List Key × V) (a : Addr), kvs[j]? = some kv ∧ items[j]? = some (.ref a) ∧ H a = some (.tup (kv.1.map kV)) := by
    have all : ∀ {kvs : List (List Key × V)} {xs : List (List Key × Addr × Value)}, L2.KT H kvs xs → ∀ j, j < kvs.length → ∃ (kv : List Key × V) (a : Addr), kvs[j]? = some kv ∧ (xs.map fun x => Value.ref x.2.1)[j]? = some (.ref a) ∧ H a = some (.tup (kv.1.map kV)) := by
      intro kvs xs r
      induction r with
      | nil => exact fun j h => absurd h (Nat.not_lt_zero _)
      | @cons p q ps qs hq t ih =>
        intro j hj
        cases j with
        | zero => exact ⟨p, q.2.1, rfl, rfl, hq.2.1⟩
        | succ j => exact ih j (Nat.lt_of_succ_lt_succ hj)
    rw [hi]
    exact all rel
  have haL : L < s.heap.objs.size := Heap.lt_size gL
  obtain ⟨l0, l1, l2, l3, l4, l5⟩ := id fL
  have s1 := Heap.SameBut.update s.heap L (Obj.mapSeq fun _ => (#[] : Array Value))
  obtain ⟨e1, gL1⟩ : ∃ e1, (s.heap.update L (Obj.mapSeq fun _ => (#[] : Array Value))).get? L = some (seqObj "list" #[] e1) := ⟨_, get?_update_seq gL fun _ => #[]⟩
  have I1 : Inv X pins σ H { s with heap := s.heap.update L (Obj.mapSeq fun _ => (#[] : Array Value)) } := I.turned (t' := s.toks) (fun b o hb e => (s1.2 b hb).trans e) l0 l1 l3 l4 l5
  have I2 : Inv X pins σ H { s with heap := (s.heap.update L (Obj.mapSeq fun _ => (#[] : Array Value))).push (seqObj "tuple" items.toArray 0) } := I1.kept (t' := s.toks) fun b o e => Heap.get?_push_of_some _ e
  have I3 : Inv X pins σ H { s with heap := ((s.heap.update L (Obj.mapSeq fun _ => (#[] : Array Value))).push (seqObj "tuple" items.toArray 0)).push (seqObj "list" #[] 0) } := I2.kept (t' := s.toks) fun b o e => Heap.get?_push_of_some _ e
  have gL3 : (((s.heap.update L (Obj.mapSeq fun _ => (#[] : Array Value))).push (seqObj "tuple" items.toArray 0)).push (seqObj "list" #[] 0)).get? L = some (seqObj "list" #[] e1) := Heap.get?_push_of_some _ (Heap.get?_push_of_some _ gL1)
  have fK0 : ∀ H', H' ((s.heap.update L (Obj.mapSeq fun _ => (#[] : Array Value))).push (seqObj "tuple" items.toArray 0)).objs.size = none → FpOk X pins H' ((s.heap.update L (Obj.mapSeq fun _ => (#[] : Array Value))).push (seqObj "tuple" items.toArray 0)).objs.size := fun H' e => I2.fpOk (Nat.le_refl _) e
  have nK : H ((s.heap.update L (Obj.mapSeq fun _ => (#[] : Array Value))).push (seqObj "tuple" items.toArray 0)).objs.size = none := I2.hok.fresh (Nat.le_refl _)
  have gK3 : (((s.heap.update L (Obj.mapSeq fun _ => (#[] : Array Value))).push (seqObj "tuple" items.toArray 0)).push (seqObj "list" #[] 0)).get? ((s.heap.update L (Obj.mapSeq fun _ => (#[] : Array Value))).push (seqObj "tuple" items.toArray 0)).objs.size = some (seqObj "list" #[] 0) := Heap.get?_push_size _ rfl
  have hne : ((s.heap.update L (Obj.mapSeq fun _ => (#[] : Array Value))).push (seqObj "tuple" items.toArray 0)).objs.size ≠ L := by
    rw [size_push', Heap.size_update]
    exact Nat.ne_of_gt (Nat.lt_succ_of_lt haL)
  unfold ksk_tree
  refine wpAny_bind (listItems_at gL rfl ?_)
  refine wpAny_bind (listUpdate_at gL rfl ?_ (by rw [List.size_toArray, hil]; exact hz) (Nat.zero_le _))
  refine wpAny_bind (seqEpoch_at gL1 rfl ?_)
  refine wpAny_bind (wpAny_newTuple ?_ (by show items.length ≤ _; rw [hil]; exact hz))
  refine wpAny_bind (wpAny_newList ?_ (Nat.zero_le _))
  refine wpAny_holding ?_
  change wpAny (model X.prog X.w) A (ksk_rest L (.ref f) false items.toArray e1 (.ref ((s.heap.update L (Obj.mapSeq fun _ => (#[] : Array Value))).push (seqObj "tuple" items.toArray 0)).objs.size)) P E { s with heap := ((s.heap.update L (Obj.mapSeq fun _ => (#[] : Array Value))).push (seqObj "tuple" items.toArray 0)).push (seqObj "list" #[] 0) }
  generalize ((s.heap.update L (Obj.mapSeq fun _ => (#[] : Array Value))).push (seqObj "tuple" items.toArray 0)).objs.size = kS at fK0 nK gK3 hne ⊢
  generalize ((s.heap.update L (Obj.mapSeq fun _ => (#[] : Array Value))).push (seqObj "tuple" items.toArray 0)).push (seqObj "list" #[] 0) = h3 at I3 gL3 gK3 ⊢
  clear I1 I2 s1 gL1
  have fL0 : ∀ H', H' L = none → FpOk X pins H' L := fun H' e => ⟨e, l1, l2, l3, l4, l5⟩
  unfold ksk_rest
  refine wpAny_bind (wpAny_rule ?_)
  first
    | rw [List.forIn_toArray]
    | (rw [← Array.forIn_toList]; simp only [List.toList_toArray])
    | rw [← Array.forIn_toList]
  refine wpAny_bind (ksk_fold (fun i s' => ∃ (H' : Hp) (kA : Array Value) (e : Nat) (ws : List V), Inv X pins σ H' s' ∧ HR ⟨X.K, M⟩ g H' ∧ Stp g H g H' ∧ H' kS = none ∧ H' L = none ∧ s'.heap.get? kS = some (seqObj "list" kA e) ∧ s'.heap.get? L = some (seqObj "list" #[] e1) ∧ Vals ws kA.toList ∧ RpAll ⟨X.K, M⟩ g H' ws ((kvs.take i).map fun kv => ordD kv.1)) items 0 _
    ⟨H, #[], 0, [], I3, hrr, .refl, nK, l0, gK3, gL3, .nil, .nil⟩ ?step ?done)
  case step =>
    rintro j x s' hx ⟨H', kA, e, ws, J, hr', st', hK', hL', gK', gL', vw, rw'⟩
    simp only [Nat.zero_add] at rw' ⊢
    have hj : j < kvs.length := by rw [← hil]; exact (List.getElem?_eq_some_iff.mp hx).1
    obtain ⟨kv, a, ekv, ea, ha⟩ := at_ j hj
    rw [ea] at hx
    cases hx
    have hzA : kA.size ≤ j := by
      rw [← Array.length_toList, ← vw.length, rw'.length, List.length_map, List.length_take]
      omega
    have hjz : j < sizeLine := Nat.lt_of_lt_of_le hj hz
    have J' : Inv X (pins ++ [(kS, seqObj "list" kA e), (L, seqObj "list" #[] e1)]) σ H' s' := J.pins_of fun p hp => by
      rcases List.mem_append.mp hp with hp | hp
      · exact J.pin p (List.mem_append_right _ hp)
      · rcases List.mem_cons.mp hp with rfl | hp
        · obtain ⟨f0, f1, f2, _⟩ := fK0 H' hK'
          exact ⟨gK', f0, f1, f2, fun v z => nomatch z⟩
        · rw [List.mem_singleton.mp hp]
          exact ⟨gL', hL', l1, l2, fun v z => nomatch z⟩
    refine wpAny_bind (wpAny_attempt (wpAny_mono (key_call (v := .ref a) F hb hA gd hr J' rfl hr' ((rp_key hrr ha).go st') (hk kv (List.mem_of_getElem? ekv)).2.2) (fun v s'' he => ?_) fun _ _ hF => hF.elim))
    obtain ⟨w, H2, J2, rv, hr2, st2, rp2⟩ := he
    try dsimp only
    obtain ⟨gK2, hK2, _⟩ := J2.pin (kS, seqObj "list" kA e) (List.mem_append_right _ (List.mem_append_right _ List.mem_cons_self))
    obtain ⟨gL2, hL2, _⟩ := J2.pin (L, seqObj "list" #[] e1) (List.mem_append_right _ (List.mem_append_right _ (List.mem_cons_of_mem _ List.mem_cons_self)))
    simp only at gK2 hK2 gL2 hL2
    have sb := Heap.SameBut.update s''.heap kS (Obj.mapSeq (·.push v))
    have gK4 := get?_update_seq gK2 (·.push v)
    obtain ⟨f0, f1, f2, f3, f4, f5⟩ := fK0 H2 hK2
    refine wpAny_bind (listUpdate_at gK2 rfl ?_ (by omega) (Nat.le_trans (Nat.le_of_eq (Array.size_push ..)) (by omega)))
    refine wpAny_pure ⟨rfl, H2, kA.push v, _, ws ++ [w], (J2.unpinned).turned (t' := s''.toks) (fun b o hb e => (sb.2 b hb).trans e) f0 f1 f3 f4 f5, hr2, st'.trans st2, hK2, hL2, gK4, (sb.2 L hne.symm).trans gL2, ?_, ?_⟩
    · rw [Array.toList_push]
      exact vw.append (.cons rv .nil)
    · rw [take_snoc ekv, List.map_append]
      exact (rw'.go st2).append (.one rp2)
  case done =>
    rintro s' ⟨H', kA, e, ws, J, hr', st', hK', hL', gK', gL', vw, rw'⟩
    try dsimp only
    have etk : kvs.take (0 + items.length) = kvs := List.take_of_length_le (by omega)
    rw [etk] at rw'
    have hzA : kA.size = items.length := by rw [← Array.length_toList, ← vw.length, rw'.length, List.length_map, hil]
    refine wpAny_bind (listItems_at gK' rfl ?_)
    have key_at : ∀ j, j < kvs.length → ∃ (kv : List Key × V) (a : Addr) (u : Value) (as : List Addr), kvs[j]? = some kv ∧ items[j]? = some (.ref a) ∧ H' a = some (.tup (kv.1.map kV)) ∧ kA.toList[j]? = some u ∧ Reads s'.heap u (ordP kv.1) as := fun j hj => by
      obtain ⟨kv, a, ekv, ea, ha⟩ := at_ j hj
      have ha' : H' a = some (.tup (kv.1.map kV)) := by
        cases rp_key hrr ha with
        | tup h1 h2 h3 _ => exact (st'.keep a _ h1 ha).1
      have hjw : j < ws.length := by rw [rw'.length, List.length_map]; exact hj
      have hju : j < kA.toList.length := by rw [← vw.length]; exact hjw
      have ed : (kvs.map fun kv => ordD kv.1)[j]? = some (ordD kv.1) := by rw [List.getElem?_map, ekv]; rfl
      obtain ⟨w, ew, rpw⟩ := rw'.get ed
      obtain ⟨u, eu, ru⟩ := vals_get vw ew
      obtain ⟨as, rd⟩ := Dp.reads J _ w u (rpw.dp (pd_ord kv.1)) ru
      exact ⟨kv, a, u, as, ekv, ea, ha', eu, rd⟩
    have zip_at : ∀ p, p ∈ (kA.zip items.toArray).toList → PKey H' s'.heap p := fun p m => by
      rw [Array.toList_zip] at m
      obtain ⟨j, hj, e⟩ := List.getElem_of_mem m
      have e2 : (kA.toList.zip items.toArray.toList)[j]? = some p := by rw [List.getElem?_eq_getElem hj, e]
      have hjk : j < kvs.length := by
        rw [List.length_zip] at hj
        simp only [List.toList_toArray] at hj
        omega
      obtain ⟨kv, a, u, as, ekv, ea, ha', eu, rd⟩ := key_at j hjk
      rw [List.getElem?_zip_eq_some] at e2
      obtain ⟨q1, q2⟩ := e2
      simp only [List.toList_toArray] at q2
      rw [eu] at q1
      rw [ea] at q2
      obtain ⟨n1, n2, _⟩ := hk kv (List.mem_of_getElem? ekv)
      cases p
      simp only [Option.some.injEq] at q1 q2
      subst q1 q2
      exact ⟨kv.1, a, as, rfl, ha', rd, n2, n1⟩
    refine ks_end hr J (fK0 H' hK') (fL0 H' hL') hne gK' gL' (by rw [hzA, List.size_toArray]) (by rw [List.size_toArray, hil]; exact hz) zip_at hr' fun L' us s2 hp hs I4 rp4 => ?_
    refine h (L'.map fun p => kAt H' p.2) us H' s2 ?_ hs hr' st' hL' I4 rp4
    refine (hp.map _).trans (List.Perm.of_eq ?_)
    have e5 : (kA.zip items.toArray).toList.map (fun p => kAt H' p.2) = items.map (kAt H') := by
      rw [Array.toList_zip]
      show (kA.toList.zip items.toArray.toList).map (kAt H' ∘ Prod.snd) = _
      rw [← List.map_map, List.map_snd_zip]
      exact Nat.le_of_eq (hzA.symm.trans Array.length_toList.symm)
    rw [e5]
    apply List.ext_getElem?
    intro j
    rw [List.getElem?_map, List.getElem?_map]
    by_cases hj : j < kvs.length
    · obtain ⟨kv, a, u, as, ekv, ea, ha', eu, rd⟩ := key_at j hj
      rw [ea, ekv]
      exact congrArg some (kAt_of ha')
    · rw [List.getElem?_eq_none (by omega), List.getElem?_eq_none (by omega)]
      rfl
where vals_get : ∀ {ws : List V} {us : List Value} {j : Nat} {w : V}, Vals ws us → ws[j]? = some w → ∃ u, us[j]? = some u ∧ RelV w u
  | _, _, 0, _, .cons r _, e => by cases e; exact ⟨_, rfl, r⟩
  | _, _, j + 1, _, .cons _ t, e => vals_get (j := j) t e
end
section
variable {X : Cx} {S : FD}
theorem call_sortedKT {k : Nat} {f : Addr} {fd : FuncData} {ps : List Str} (F : FnX X.prog X.w X.K X.mg X.base k f fd ps (spL X.K S)) (hb : Binds X.K fd ps []) (hc : X.calm = true) (gd : X.A.guards = some []) (hr : Room (k + 2) X.A) :
    CallRK X (.builtin "sorted") [Str.ofString "key"] (fun vs zs H Q => ∃ (M : List Addr) (g : Ah) (a : Addr) (kvs : List (List Key × V)), vs = [.ref a] ∧ zs = [.ref f] ∧ HR ⟨X.K, M⟩ g H ∧ H a = some (.dT kvs) ∧
      (∀ kv ∈ kvs, kv.1 ≠ [] ∧ SeqAt.shaped (ordP kv.1) = true ∧ ∀ R Y, R (ordD kv.1) g → S [.tup (kv.1.map kD)] g R Y) ∧
      ∀ (ys : List (List Key)) (us : List V) (H1 : Hp) (p : Addr), ys.Perm (kvs.map (·.1)) → ys.Pairwise (fun x y => ltKs y x = false) → HR ⟨X.K, M⟩ g H1 → Stp g H g H1 → H1 p = none → RpAll ⟨X.K, M⟩ g H1 us (ys.map fun k => .tup (k.map kD)) → Q (.ref p) (upd H1 p (.lst us))) := by
  intro pins s σ H vs zs us ws Q I r rz h
  obtain ⟨M, g, a, kvs, rfl, rfl, hrr, ha, hk, q⟩ := h
  obtain rfl := Vals.ref1 r
  obtain ⟨w1, rfl, e1⟩ := vals1 rz
  obtain rfl : w1 = Value.ref f := e1
  obtain ⟨hz, hm, xs, rel, o, es, ep, g1, g2, g3, g4, g5⟩ := (show ObjOk X.prog X.w H s.heap a (.dT kvs) from I.hok a _ ha)
  have hes : es.size = xs.length := by rw [← Array.length_toList, g4, List.length_map]
  have hxl : xs.length = kvs.length := rel.length.symm
  refine call_function_entry_kw PyProof.Rows.kind_sorted PyProof.Rows.plain_sorted PyProof.Rows.entry_sorted (ksk_s1 _ _) ?_
  unfold Builtin.«sorted»
  refine wpAny_bind (m := checkCount "sorted" 1 1 _) (wpAny_pure ?_)
  refine wpAny_bind (PySem.W.kdu_collect (A := X.A.in1) (draw_src (es := es) (ep := ep) hm) (I.ok.hd hc) ⟨o, g1, g2, g3⟩ (by rw [hes, hxl]; exact hz) fun h1 tk1 acc kp1 hacc => ?_)
  have hit : acc.toList = xs.map fun x => Value.ref x.2.1 := by
    apply List.ext_getElem?
    intro j
    rw [List.getElem?_map]
    by_cases hj : j < xs.length
    · have hj1 : j < acc.size := by rw [hacc.1, hes]; exact hj
      obtain ⟨e, ee, ev⟩ := hacc.2 j acc[j] (Array.getElem?_eq_getElem hj1)
      have e1 : acc.toList[j]? = some acc[j] := by rw [Array.getElem?_toList]; exact Array.getElem?_eq_getElem hj1
      rw [e1, ev, List.getElem?_eq_getElem hj]
      have e2 : es.toList[j]? = some e := by rw [Array.getElem?_toList]; exact ee
      rw [g4, List.getElem?_map, List.getElem?_eq_getElem hj] at e2
      have e3 : entryOfKey (tupleKind (mixKind X.prog X.w)) xs[j] = e := Option.some.inj e2
      rw [← e3]
      rfl
    · rw [List.getElem?_eq_none (by rw [Array.length_toList, hacc.1, hes]; omega), List.getElem?_eq_none (by omega)]
      rfl
  have hal : acc.toList.length ≤ sizeLine := by rw [hit, List.length_map, hxl]; exact hz
  have I1 : Inv X pins σ H { s with heap := h1, toks := tk1 } := I.kept kp1
  refine wpAny_bind (wpAny_newList ?_ hal)
  have I2 : Inv X pins σ H { s with heap := h1.push (seqObj "list" acc.toList.toArray 0), toks := tk1 } := I1.kept (t' := tk1) fun b o e => Heap.get?_push_of_some _ e
  have hoL : (h1.push (seqObj "list" acc.toList.toArray 0)).get? h1.objs.size = some (seqObj "list" acc.toList.toArray 0) := Heap.get?_push_size _ rfl
  have nL : H h1.objs.size = none := I1.hok.fresh (Nat.le_refl _)
  show wpAny _ _ _ _ _ { s with heap := h1.push (seqObj "list" acc.toList.toArray 0), toks := tk1 }
  refine wpAny_bind (wpAny_holding (wpAny_call_entry_kw PyProof.Rows.slot_list_sort ⟨_, hoL, rfl⟩ PyProof.Rows.entry_list_sort ?_ (ksk_l1 _ _)))
  change wpAny (model X.prog X.w) X.A.in1.in1 (Builtin.«list.sort» ⟨[.ref h1.objs.size], [(Str.ofString "key", .ref f)]⟩) _ _ _
  rw [ksk_t1]
  have hr2 : Room k X.A.in1.in1 := (show Room (k + 1) X.A.in1 from Room.in1 hr).in1
  refine ks_tree (s := { s with heap := h1.push (seqObj "list" acc.toList.toArray 0), toks := tk1 }) F hb (A := X.A.in1.in1) rfl gd hr2 I2 (I1.fpOk (Nat.le_refl _) nL) hoL rel hit hz hrr hk fun ys us H1 s' hp hs hrr1 st hL I3 rp => ⟨_, rfl, ?_⟩
  exact wpAny_pure ⟨_, rfl, .ref h1.objs.size, _, I3, rfl, q ys us H1 _ hp hs hrr1 st hL rp⟩
end
def dSortK (n : Nw) (S : FD) (t : DA) : DE := fun X ev g R => t X ev g fun ds g1 => match ds with
  | [d] => (match vw g1 d with
    | .dcT kvs => (∀ kv ∈ kvs, kv.1 ≠ [] ∧ SeqAt.shaped (ordP kv.1) = true ∧ ∀ R' Y, R' (ordD kv.1) g1 → S [.tup (kv.1.map kD)] g1 R' Y) ∧
        ∀ ys : List (List Key), ys.Perm (kvs.map (·.1)) → ys.Pairwise (fun x y => ltKs y x = false) → n (ys.map fun k => .tup (k.map kD)) g1 R
    | _ => False)
  | _ => False
theorem rpP_keys {K : KM} {g : Ah} {H : Hp} {κ : Type} {vs : List (κ × V)} {ds : List (κ × Dv)} (r : RpP K g H vs ds) : vs.map (·.1) = ds.map (·.1) := by
  induction ds generalizing vs with
  | nil => cases r; rfl
  | cons d ds ih =>
    cases r with
    | cons h t => rw [List.map_cons, List.map_cons, ih t]
theorem de_sortK {X : Cx} {W : WX} {K : PySem.W.Frag} {j k : Nat} {n : Nw} {S : FD} {Dt : DA} {x : Str} {e : Expr} {p fp pos kpos : Pos} (b : Bn j X W) (hn : NwOk n) (c : CalD X.prog X.w X.K X.mg X.base k x S) (hk : k + 2 ≤ j) (hg : Gl X "sorted") (hm : X.mg "sorted" = none) (hgx : Gl X x) (ha : PA X [e] (lA K W Dt)) (hK : X.K = K := by rfl)
    (hdb : (x == ("__debug__" : Str)) = false := by decide)
    (he : backTo pos (starEach [e] X.env) = (false, eval e X.env) :: backTo pos (starEach [] X.env) := by rfl) (hpl : (backTo pos (starEach [e] X.env)).any (·.1) = false := by rfl)
    (hall : (backToKw pos (keywordEach [⟨some "key", .Name x fp, kpos⟩] X.env)).all (·.1.isSome) = true := by rfl) (hnone : (backToKw pos (keywordEach [⟨some "key", .Name x fp, kpos⟩] X.env)).any (·.1.isNone) = false := by rfl)
    (hks : (backToKw pos (keywordEach [⟨some "key", .Name x fp, kpos⟩] X.env)).filterMap (·.1) = [Str.ofString "key"] := by rfl) :
    PE X (.Call (.Name "sorted" p) [e] [⟨some "key", .Name x fp, kpos⟩] pos) (lE K W (dSortK n S Dt)) := by
  subst hK
  obtain ⟨f, fd, ps, F, hmf, _, bi⟩ := c.ex
  refine pem (pe_callBK (call_sortedKT F bi b.calm b.gd (b.hr.mono hk)) hg hm rfl ha (pk_cons (pe_glob hgx hmf (v := .ref f) rfl hdb) pk_nil) (by decide) (by decide) he hpl hall hnone hks) fun σ H Q ⟨M, ev, g, R, Y, cn, d, q, y⟩ => ⟨M, ev, g, _, Y, cn, d, fun vs ds g1 H1 hr st r k => ?_, y⟩
  show ∃ (M : List Addr) (g : Ah) (a : Addr) (kvs : List (List Key × V)), _
  split at k
  next d =>
    obtain ⟨v, rfl, r0⟩ := rp1 r
    split at k
    next kvs e =>
      obtain ⟨a, us, rfl, h1, h2⟩ := vw_dcT r0 hr e
      have hkk := rpP_keys h2
      refine ⟨M, g1, a, us, rfl, rfl, hr, h1, fun kv m => ?_, fun ys ws H2 p' hp hs hr2 st2 hn' rp => hn _ _ _ _ _ _ _ _ hr2 hn' rp (k.2 ys (by rw [← hkk]; exact hp) hs) ((q.go st).go st2)⟩
      have m2 : kv.1 ∈ kvs.map (·.1) := by rw [← hkk]; exact List.mem_map.mpr ⟨kv, m, rfl⟩
      obtain ⟨kv2, m3, e2⟩ := List.mem_map.mp m2
      rw [← e2]
      exact k.1 kv2 m3
    next => exact k.elim
  next => exact k.elim
/-! ### <= of tuples of anything -/
section
open PySem.AutoSeq1 (wpAny_loadPart')
open PySem.SeqAt PySem.MeetsSeq PySem.MeetsSeq2 PySem.MeetsSeq3
theorem lexLe (p q : Addr) (us vs : Array Value) (n m : Nat) (d1 d2 : Option Addr) (l1 l2 : Array (Option Value)) (k : Bool) :
    Meets (Builtin.«tuple.__le__» ⟨[.ref p, .ref q], []⟩) (fun A R s => s.heap.get? p = some ⟨.type "tuple", d1, .seq us n, l1⟩ ∧ s.heap.get? q = some ⟨.type "tuple", d2, .seq vs m, l2⟩ ∧
      LexP .LtE A.in1 s (decide (us.size ≤ vs.size)) (us.toList.zip vs.toList) k ∧ R (.ok (.ret (.bool k))) s) :=
  .of_wp fun prog w A R s0 h => by
    obtain ⟨hh, gg, dd, tt, oo⟩ := s0
    obtain ⟨hp, hq, hx, fin⟩ := h
    have sub := AutoSeq1.sub_tuple_tuple
    wp_walk using wpAny_loadPart' hp, wpAny_loadPart' hq, wpAny_forIn_list _ (fun r b s1 => b.1 = none ∧ s1 = ⟨hh, gg, dd, tt, oo⟩ ∧ LexP .LtE A.in1 ⟨hh, gg, dd, tt, oo⟩ (decide (us.size ≤ vs.size)) r k) _
    case turn =>
      rintro ⟨x, y⟩ r b s1 ⟨hb, rfl, c⟩
      cases c with
      | same e c =>
        refine wpAny_bind (e prog w _ _ ?_)
        wp_walk
        exact ⟨rfl, rfl, c⟩
      | diff e c =>
        refine wpAny_bind (e prog w _ _ ?_)
        have c' := c prog w
        wp_walk using c'
        exact ⟨_, rfl, fin⟩
    case fin =>
      rintro ⟨b1, b2⟩ s1 ⟨hb, rfl, c⟩
      simp only at hb
      subst hb
      cases c
      wp_walk
      exact ⟨_, rfl, fin⟩
    case h => exact ⟨rfl, rfl, hx⟩
end
theorem rc_leT {A : Around} {s : Shared} {p q : Addr} {us vs : Array Value} {k : Bool} (hp : s.heap.IsTuple p us) (hq : s.heap.IsTuple q vs) (hu : A.units < cLine) (hx : LexP .LtE A.in1 s (decide (us.size ≤ vs.size)) (us.toList.zip vs.toList) k) :
    Ob.RcOp .LtE A s (.ref p) (.ref q) k := fun prog w E Q h => by
  obtain ⟨⟨c1, d1, t1, l1⟩, o1, e1, n, f1⟩ := id hp
  obtain ⟨⟨c2, d2, t2, l2⟩, o2, e2, m, f2⟩ := id hq
  simp only at e1 f1 e2 f2
  subst e1 f1 e2 f2
  exact PySem.richCompare_meets_room (op := .LtE) ⟨_, o1, rfl⟩ ⟨_, o2, rfl⟩ F.slot_tuple_le F.entry_tuple_le (F.args_tuple_le_2 _ _) (lexLe p q us vs n m d1 d2 l1 l2 k) ⟨o1, o2, hx, (fun z => nomatch z), h⟩ hu
theorem le_nat (n m : Nat) : decide (n + 1 ≤ m + 1) = decide (n ≤ m) := decide_eq_decide.mpr Nat.add_le_add_iff_right
mutual
theorem cm_le : ∀ {d e : PyData} {o : Ordering}, Cm d e o → ∀ {A : Around} {s : Shared} {u v : Value} {as bs : List Addr}, Reads s.heap u d as → Reads s.heap v e bs → PyData.canLay0 d = true → PyData.canLay0 e = true → A.units + PyData.depth d + 1 < cLine →
    Ob.RcOp .LtE A s u v (o != .gt)
  | _, _, _, .ilt (i := i) (j := j) h, A, s, _, _, _, _, .int _ t, .int _ t', _, _, _ => by
    have a := Ob.RcOp.le_int (A := A) (s := s) i j t t'
    rw [decide_eq_true (by omega)] at a
    exact a
  | _, _, _, .ieq (i := i), A, s, _, _, _, _, .int _ t, .int _ t', _, _, _ => by
    have a := Ob.RcOp.le_int (A := A) (s := s) i i t t'
    rw [decide_eq_true (by omega)] at a
    exact a
  | _, _, _, .igt (i := i) (j := j) h, A, s, _, _, _, _, .int _ t, .int _ t', _, _, _ => by
    have a := Ob.RcOp.le_int (A := A) (s := s) i j t t'
    rw [decide_eq_false (by omega)] at a
    exact a
  | _, _, _, .slt h, A, s, _, _, _, _, .str _ t, .str _ t', _, _, _ => fun prog w E Q q => PySem.P.le_str (by rw [decide_eq_false (lt_not h)]; exact q)
  | _, _, _, .seq, A, s, _, _, _, _, .str _ t, .str _ t', _, _, _ => fun prog w E Q q => PySem.P.le_str (by rw [decide_eq_false (List.lt_irrefl _)]; exact q)
  | _, _, _, .sgt h, A, s, _, _, _, _, .str _ t, .str _ t', _, _, _ => fun prog w E Q q => PySem.P.le_str (by rw [decide_eq_true h]; exact q)
  | _, _, _, .tup h, A, s, _, _, _, _, ru, rv, lu, lv, hu => by
    obtain ⟨a, us, rfl, ta, ra⟩ := Reads.tup ru
    obtain ⟨b, vs, rfl, tb, rb⟩ := Reads.tup rv
    simp only [PyData.canLay0] at lu lv
    simp only [PyData.depth] at hu
    have c1 := cm_leL h ra rb lu lv (A := A.in1) (by show A.units + 1 + _ + 1 < cLine; omega)
    exact rc_leT ta tb (by omega) (by simpa using c1)
theorem cm_leL : ∀ {ds es : List PyData} {o : Ordering}, CmL ds es o → ∀ {A : Around} {s : Shared} {us vs : List Value} {as bs : List Addr}, ReadsAll s.heap us ds as → ReadsAll s.heap vs es bs → PyData.canLayAll0 ds = true → PyData.canLayAll0 es = true → A.units + PyData.depthAll ds + 1 < cLine →
    LexP .LtE A s (decide (us.length ≤ vs.length)) (us.zip vs) (o != .gt)
  | _, _, _, .nn, _, _, _, _, _, _, .nil, .nil, _, _, _ => .done
  | _, _, _, .nc, _, _, _, _, _, _, .nil, .cons _ _, _, _, _ => by
    rw [decide_eq_true (by simp)]; exact .done
  | _, _, _, .cn, _, _, _, _, _, _, .cons _ _, .nil, _, _, _ => by
    rw [decide_eq_false (by simp)]; exact .done
  | _, _, _, .same h t, A, s, _, _, _, _, .cons r1 q1, .cons r2 q2, l1, l2, hu => by
    simp only [PyData.canLayAll0, Bool.and_eq_true] at l1 l2
    simp only [PyData.depthAll] at hu
    have e := SeqAt.eqAt_reads _ _ A s _ _ _ _ r1 r2 l1.1 l2.1 (by omega)
    rw [Cm.eqv h] at e
    have c1 := cm_leL t q1 q2 l1.2 l2.2 (A := A) (by omega)
    rw [List.zip_cons_cons, List.length_cons, List.length_cons, le_nat]
    exact .same e c1
  | _, _, o, .diff h n, A, s, _, _, _, _, .cons r1 q1, .cons r2 q2, l1, l2, hu => by
    simp only [PyData.canLayAll0, Bool.and_eq_true] at l1 l2
    simp only [PyData.depthAll] at hu
    have e := SeqAt.eqAt_reads _ _ A s _ _ _ _ r1 r2 l1.1 l2.1 (by omega)
    rw [Cm.eqv h, show (o == Ordering.eq) = false by cases o <;> first | rfl | exact absurd rfl n] at e
    exact .diff e (cm_le h r1 r2 l1.1 l2.1 (A := A) (by omega))
end
def qLeC : DR2 := fun d e g R => ∃ p q o, pd d = some p ∧ pd e = some q ∧ Cm p q o ∧ SeqAt.shaped p = true ∧ SeqAt.shaped q = true ∧ R (.bl (o != .gt)) g
theorem oj_leC {X : Cx} (K : PySem.W.Frag) (hu : X.A.units + 70 < cLine) (hK : X.K = K := by rfl) : OpR X (compareOp .LtE) (lR K qLeC) := by
  subst hK
  intro pins s σ H x y v u Q I rx ry ⟨M, d, e, g, R, hr, r1, r2, q, k⟩
  obtain ⟨p, p', o, hp, hp', c, s1, s2, q⟩ := q
  obtain ⟨as, h1⟩ := Dp.reads I _ x v (r1.dp hp) rx
  obtain ⟨bs, h2⟩ := Dp.reads I _ y u (r2.dp hp') ry
  have z := cm_le c h1 h2 (SeqAt.canLay_of_shaped s1) (SeqAt.canLay_of_shaped s2) (A := X.A) (by have := SeqAt.depth_of_shaped s1; omega)
  exact z X.prog X.w X.xe (EP X pins σ Q) ⟨.bl _, H, I, rfl, ql_now hr k (.bl _) q⟩
/-! ### readings -/
theorem cm_K (k l : List Key) : Cm (ordP k) (ordP l) (cmpKs k l) := .tup (cm_Ks k l)
theorem r_leK {k l : List Key} {g : Ah} {R : DQ} (s1 : SeqAt.shaped (ordP k) = true) (s2 : SeqAt.shaped (ordP l) = true) (h : R (.bl (cmpKs k l != .gt)) g) : qLeC (ordD k) (ordD l) g R := ⟨_, _, _, pd_ord k, pd_ord l, cm_K k l, s1, s2, h⟩
theorem r_ltK {k l : List Key} {g : Ah} {R : DQ} (s1 : SeqAt.shaped (ordP k) = true) (s2 : SeqAt.shaped (ordP l) = true) (h : R (.bl (ltKs k l)) g) : qLt false false (ordD k) (ordD l) g R := r_ltT (pds_ord k) (pds_ord l) (cm_K k l) s1 s2 h
def sortT (n : Nw) (S : FD) (R : DQ) : List Dv → Ah → Prop := fun ds g1 => match ds with
  | [d] => (match vw g1 d with
    | .dcT kvs => (∀ kv ∈ kvs, kv.1 ≠ [] ∧ SeqAt.shaped (ordP kv.1) = true ∧ ∀ R' Y, R' (ordD kv.1) g1 → S [.tup (kv.1.map kD)] g1 R' Y) ∧
        ∀ ys : List (List Key), ys.Perm (kvs.map (·.1)) → ys.Pairwise (fun x y => ltKs y x = false) → n (ys.map fun k => .tup (k.map kD)) g1 R
    | _ => False)
  | _ => False
theorem r_sortK {n : Nw} {S : FD} {t : DA} {X : Xc} {ev : Ev} {g : Ah} {R : DQ} (h : t X ev g (sortT n S R)) : dSortK n S t X ev g R := h
theorem r_sortT {n : Nw} {S : FD} {d : Dv} {g : Ah} {R : DQ} {kvs : List (List Key × Dv)} (h1 : vw g d = .dcT kvs) (h2 : ∀ kv ∈ kvs, kv.1 ≠ [] ∧ SeqAt.shaped (ordP kv.1) = true ∧ ∀ R' Y, R' (ordD kv.1) g → S [.tup (kv.1.map kD)] g R' Y)
    (h3 : ∀ ys : List (List Key), ys.Perm (kvs.map (·.1)) → ys.Pairwise (fun x y => ltKs y x = false) → n (ys.map fun k => .tup (k.map kD)) g R) : sortT n S R [d] g := by
  unfold sortT
  simp only [h1]
  exact ⟨h2, h3⟩
theorem r_tupQ {t : DA} {X : Xc} {ev : Ev} {g : Ah} {R : DQ} (h : t X ev g fun ds g1 => nwTq ds g1 R) : dTupQ t X ev g R := h
theorem r_nwTq {xs : List Dv} {g : Ah} {R : DQ} (h1 : xs.length ≤ 100000) (h : R (.tq xs) g) : nwTq xs g R := ⟨szL h1, h⟩
theorem r_tupQC {d : Dv} {xs : List Dv} {g : Ah} {R : DQ} (h1 : vs' g d = .lst xs) (h : R (.tq xs) g) : cTupQ [d] g R := by
  unfold cTupQ
  simp only [h1]
  exact h
theorem r_dictQ {es : List (List Key × Dv)} {g : Ah} {R : DQ} (h : ∀ a, g a = none → R (.ref a) (ups g a (.dcT (mgT es)))) : cDictQ [.tq (prT es)] g R := ⟨es, rfl, h⟩
theorem r_seqTQ {Rd : List Dv → (Ah → Prop) → Ah → Prop} {xs : List Dv} {g : Ah} (h : Rd xs yes g) : seqQ Rd (.tq xs) g := h
/-! ### enumerate(tuple) -/
set_option maxHeartbeats 1000000 in
theorem meets_enumT {v : Value} {o : Obj} {H : Heap → Prop} (B : Begins v o H) :
    Meets (Builtin.«enumerate.__new__» ⟨[.type "enumerate", v], []⟩) (fun _ R s => H s.heap ∧
      R (.ok (.ret (.ref (s.heap.push o).objs.size))) { s with heap := (s.heap.push o).push { cls := .type "enumerate", data := .fields #[.none, .bool false, .ref s.heap.objs.size, rawInt 0, .none, .none] } }) :=
  .of_wp fun prog w A R s h => by
    obtain ⟨hp, g, d, tk, os⟩ := s; obtain ⟨h1, h⟩ := h
    have hsub := sub_enumerate
    have q1 : ∀ {A' : Around} {E : Value → Shared → Prop} {Q : Value → Shared → Prop}, Q (.ref hp.objs.size) ⟨hp.push o, g, d, tk, os⟩ → wpAny (model prog w) A' (pyIter v) Q E ⟨hp, g, d, tk, os⟩ :=
      fun q => B.iter prog w _ _ ⟨hp, g, d, tk, os⟩ _ h1 q
    wp_walk using q1
    refine wpAny_stack_any fun st => wpAny_pure ?_
    split
    · rename_i c _ _ _ _ _
      cases (c == Value.type "enumerate")
      · wp_walk using q1
        exact ⟨_, rfl, h⟩
      · wp_walk using q1
        exact ⟨_, rfl, h⟩
    · wp_walk using q1
      exact ⟨_, rfl, h⟩
section
variable {prog : Program} {w : World} {A : Around} {E : Value → Shared → Prop} {s : Shared}
theorem call_enumT {v : Value} {o : Obj} {H : Heap → Prop} {Q : Value → Shared → Prop} (B : Begins v o H) (h1 : H s.heap)
    (h : ∀ h', IsEnum h' (s.heap.objs.size + 1) s.heap.objs.size 0 .none → h'.get? s.heap.objs.size = some o → h'.objs.size = s.heap.objs.size + 2 →
      (∀ b o, s.heap.get? b = some o → h'.get? b = some o) → Q (.ref (s.heap.objs.size + 1)) { s with heap := h' }) :
    wpAny (model prog w) A (call (.type "enumerate") [v]) Q E s := by
  refine callType_new F.called_enumerate (by decide) (F.typeCall_enumerate_1 _) (F.newCall_enumerate_1 _) (fun obj => F.args_object_init_2 obj _) F.entry_enumerate_new (meets_enumT B) ⟨h1, ?_⟩
  have hz : (s.heap.push o).objs.size = s.heap.objs.size + 1 := Heap.size_push ..
  show _ ∧ _
  rw [hz]
  have he : IsEnum ((s.heap.push o).push { cls := .type "enumerate", data := .fields #[.none, .bool false, .ref s.heap.objs.size, rawInt 0, .none, .none] }) (s.heap.objs.size + 1) s.heap.objs.size 0 .none := by
    have := Heap.get?_push_size (s.heap.push o) (o := { cls := .type "enumerate", data := .fields #[.none, .bool false, .ref s.heap.objs.size, rawInt 0, .none, .none] }) rfl
    rw [hz] at this; exact this
  exact ⟨⟨_, he, rfl⟩, h _ he (Heap.get?_push_of_some _ (Heap.get?_push_size _ B.free)) (by rw [Heap.size_push, hz]) fun b o x => Heap.get?_push_of_some _ (Heap.get?_push_of_some _ x)⟩
end
def Itet (K : PySem.W.Frag) (a : Addr) : It :=
  ⟨fun i H => ∃ (xs : List V) (x : V), SqT K H a xs ∧ xs[i]? = some x, fun i H v H' => ∃ T x, v = .ref T ∧ H T = none ∧ H' = upd H T (.tup [.int (i : Nat), x]) ∧ ∀ xs, SqT K H a xs → xs[i]? = some x, fun i H => ∃ xs : List V, SqT K H a xs ∧ xs.length ≤ i⟩
theorem turn_enumT {P : Program} {w : World} {K : PySem.W.Frag} {elts : List Expr} {kk : Nat} {tpos : Pos} (a e it : Addr) (hat : a ≠ it) (hae : a ≠ e) :
    Turn P w K (.Tuple elts kk tpos) (Itet K a) [e, it] e (fun i h => (∃ old, IsEnum h e it ((i : Nat) : Int) old) ∧ h.IsTupleIter it a i ∧ e ≠ it) where
  mem := by simp
  obj := fun i h st b hb => by
    obtain ⟨⟨old, he⟩, ⟨o, ho, hc, hd⟩, _⟩ := st
    have e' : b = e ∨ b = it := by simpa using hb
    rcases e' with z | z
    · rw [z]; exact ⟨_, he, fun v q => nomatch q⟩
    · rw [z]; exact ⟨o, ho, fun v q => by rw [hd] at q; cases q⟩
  keep := fun i h h' st k => let ⟨⟨old, he⟩, hi, hne⟩ := st; ⟨⟨old, k e (by simp) _ he⟩, hi.at fun o q => k it (by simp) o q, hne⟩
  item := by
    intro X hP hw hK hc i pins s σ H E I hf st hg
    subst hP hw hK
    obtain ⟨⟨old, he⟩, hit, hne⟩ := st
    obtain ⟨xs, x, hq, hx⟩ := hg
    obtain ⟨its, rv, p, hz⟩ := I.tuple hq
    obtain ⟨u, hu, ru⟩ := rv.get hx
    have hel : e < s.heap.objs.size := Heap.lt_size he
    have hil : it < s.heap.objs.size := by obtain ⟨_, q, _⟩ := hit; exact Heap.lt_size q
    have hlt : i < its.toArray.size := by
      rw [List.size_toArray]
      exact (List.getElem?_eq_some_iff.mp hu).1
    refine wpAny_pyNext_enum_itemD (Draws.tuple (A := X.A.in1) (I.ok.hd hc) it a hat its.toArray) he ⟨hit, (show s.heap.IsTuple a its.toArray from p)⟩ hlt hne (by simp [hne, Ne.symm hae]) fun x' h' tk hx' ho hit' hT hsz hk => ?_
    have exu : x' = u := by
      simp only [List.getElem?_toArray] at hx'
      rw [hu] at hx'
      exact (Option.some.inj hx').symm
    subst exu
    refine ⟨_, rfl, wpAny_letOwnedTupleGo_enum (s := { s with heap := h', toks := tk + 1 }) ho fun h'' he' sb => ?_⟩
    have hT2 : h''.get? s.heap.objs.size = some { cls := .type "tuple", data := .seq #[.int i tk, x'] } := (sb.2 _ (Nat.ne_of_gt hel)).trans hT
    have new : ObjOk X.prog X.w (upd H s.heap.objs.size (.tup [.int (i : Nat), x])) h'' s.heap.objs.size (.tup [.int (i : Nat), x]) :=
      ⟨by show 2 ≤ sizeLine; decide, [.int i tk, x'], .cons ⟨_, rfl⟩ (.cons ru .nil), ⟨_, hT2, rfl, _, rfl⟩⟩
    have I1 : Inv X pins σ (upd H s.heap.objs.size (.tup [.int (i : Nat), x])) { s with heap := h'', toks := tk + 1 } :=
      I.turnedNew (ch := [e, it]) (fun b ob hb q => (sb.2 b (fun z => hb (by simp [z]))).trans (hk b ob (fun z => hb (by simp [z])) (fun z => hb (by simp [z])) q)) hf (Nat.le_refl _) new
    refine ⟨.ref s.heap.objs.size, _, I1, rfl, ⟨_, x, rfl, I.hok.fresh (Nat.le_refl _), rfl, fun ys hy => by rw [I.tuple_inj hy hq]; exact hx⟩, ⟨⟨x', ?_⟩, hit'.1.at fun o q => (sb.2 it (Ne.symm hne)).trans q, hne⟩, fun b hb => ?_⟩
    · have e1 : ((i + 1 : Nat) : Int) = (i : Int) + 1 := by omega
      rw [e1]; exact he'
    · have hb' : b < s.heap.objs.size := by
        have e' : b = e ∨ b = it := by simpa using hb
        rcases e' with z | z
        · rw [z]; exact hel
        · rw [z]; exact hil
      rw [upd_ne (Nat.ne_of_lt hb')]
      exact (hf b hb).1
  done := by
    intro X hP hw hK hc i pins s σ H E I hf st hg
    subst hP hw hK
    obtain ⟨⟨old, he⟩, hit, hne⟩ := st
    obtain ⟨xs, hq, hx⟩ := hg
    obtain ⟨its, rv, p, hz⟩ := I.tuple hq
    obtain ⟨f0, f1, f2, f3, f4, f5⟩ := hf it (by simp)
    have hl := rv.length
    have hn : its.toArray[i]? = none := by simp; omega
    have hT : s.TypeIs (.ref e) "enumerate" := ⟨_, he, rfl⟩
    unfold pyNext
    refine wpAny_bind (wpAny_attempt (wpAny_callSpecial?_slot (name := Str.ofString "__next__") hT F.slot_enumerate_next
      (wpAny_call_entry F.slot_enumerate_next hT F.entry_enumerate_next ?_ (F.args_enumerate_next_1 _))))
    show wpAny _ _ (field (.ref e) 2 >>= _) _ _ _
    refine wpAny_bind (wpAny_field he rfl (x := .ref it) rfl ?_)
    refine wpAny_bind (wpAny_nextOf_tuple_end (A := X.A.in1) (I.ok.hd hc) hit (show s.heap.IsTuple a its.toArray from p) hn fun h' x eb hx' => ?_)
    obtain ⟨o, ho, hcx⟩ := hx'
    refine wpAny_bind (wpAny_isInstance (T := "StopIteration") (b := true) ⟨o, ho, hcx⟩ isSubtype_stop ?_)
    exact wpAny_pure ⟨rfl, I.turned (t' := s.toks) (fun b o hb q => eb b o hb q) f0 f1 f3 f4 f5⟩
  self := fun A i s Q E st h => let ⟨⟨_, he⟩, _⟩ := st; wpAny_pyIter_enum he h
def iEnumT (K : PySem.W.Frag) (ta : TA) : TI := fun σ H R => ta σ H fun vs H1 => ∃ a xs, vs = [.ref a] ∧ SqT K H1 a xs ∧ R (Itet K a) H1
theorem pi_enumT {X : Cx} {e : Expr} {ta : TA} {p pos tpos : Pos} {elts : List Expr} {kk : Nat} (hg : Gl X "enumerate") (hm : X.mg "enumerate" = none) (ha : PA X [e] ta) (hs : starEach [e] X.env = [(false, eval e X.env)] := by rfl) :
    PI X (.Tuple elts kk tpos) (.Call (.Name "enumerate" p) [e] [] pos) (iEnumT X.K ta) := by
  refine ⟨fun pins s σ H R I h => ?_⟩
  refine Call_ (ld_blt I hg hm boot_enumerate (PyProof.Rows.callWith_type1 (thn (ha.run pos pins s σ H _ I h) fun us s1 ⟨vs, H1, I1, r1, q1⟩ => ?_) hs rfl))
  obtain ⟨a, xs, ex, hq, q⟩ := q1
  subst ex
  cases r1 with
  | cons r rr =>
    cases rr
    cases r
    obtain ⟨its, rv, p', hz⟩ := I1.tuple hq
    have hlt : a < s1.heap.objs.size := by obtain ⟨_, q, _⟩ := p'; exact Heap.lt_size q
    refine call_enumT (begins_tuple a its.toArray) (show s1.heap.IsTuple a its.toArray from p') fun h' he hit hsz hk => wpAny_pyIter_enum he ?_
    have I2 : Inv X pins σ H1 { s1 with heap := h' } := I1.kept (t' := s1.toks) hk
    refine ⟨s1.heap.objs.size + 1, [s1.heap.objs.size + 1, s1.heap.objs.size], _, _, H1, rfl, I2, turn_enumT a (s1.heap.objs.size + 1) s1.heap.objs.size (Nat.ne_of_lt hlt) (Nat.ne_of_lt (Nat.lt_succ_of_lt hlt)), ⟨⟨.none, he⟩, ⟨_, hit, rfl, rfl⟩, Nat.succ_ne_self _⟩, fun b hb => ?_, q⟩
    have e' : b = s1.heap.objs.size + 1 ∨ b = s1.heap.objs.size := by simpa using hb
    have hle : s1.heap.objs.size ≤ b := by
      rcases e' with z | z
      · rw [z]; exact Nat.le_add_right _ _
      · rw [z]; exact Nat.le_refl _
    exact I1.fpOk hle (I1.hok.fresh hle)
def enumTQ (Rd : List Dv → (Ah → Prop) → Ah → Prop) (ds : List Dv) (g1 : Ah) : Prop := match ds with
  | [d] => (match vw g1 d with
    | .tup xs => Rd (enumD 0 xs) yes g1
    | _ => False)
  | _ => False
def diEnumT (a : DA) : DI := fun X ev g R => a X ev g (enumTQ R)
theorem r_enumT {X : Xc} {ev : Ev} {g : Ah} {ta : DA} {Rd : List Dv → (Ah → Prop) → Ah → Prop} (h : ta X ev g (enumTQ Rd)) : diEnumT ta X ev g Rd := h
theorem r_enumTq {g : Ah} {Rd : List Dv → (Ah → Prop) → Ah → Prop} {xs : List Dv} (h : Rd (enumD 0 xs) yes g) : enumTQ Rd [.tq xs] g := h
theorem di_enumT {X : Cx} {W : WX} {K : PySem.W.Frag} {e : Expr} {Dt : DA} {pos p : Pos} {elts : List Expr} {kk : Nat} {tpos : Pos} (hg : Gl X "enumerate") (hm : X.mg "enumerate" = none) (ha : PA X [e] (lA K W Dt)) (hs : starEach [e] X.env = [(false, eval e X.env)] := by rfl) (hK : X.K = K := by rfl) :
    PI X (.Tuple elts kk tpos) (.Call (.Name "enumerate" p) [e] [] pos) (lI K W (diEnumT Dt)) := by
  subst hK
  exact pim (pi_enumT hg hm ha hs) fun σ H R ⟨M, ev, g, Rd, Y, c, d, q, x⟩ => ⟨M, ev, g, _, Y, c, d, fun vs ds g1 H1 hr s r k => by
    unfold enumTQ at k
    split at k
    next d =>
      obtain ⟨v, rfl, r0⟩ := rp1 r
      clear r
      have r := r0
      clear r0
      split at k
      next xs e1 =>
        obtain ⟨a, vs, rfl, h1, h2, h3⟩ := seqT_later r e1
        refine ⟨a, vs, rfl, h1, q _ _ _ _ _ hr s (fun M' g' H' m1 m2 hr' s' i => ?_) k⟩
        obtain ⟨h4, h5⟩ := h3 M' g' H' m2 s'
        refine ⟨fun i d hd => ?_, ⟨vs, h4, by rw [h5.length, enumD_len]; exact Nat.le_refl _⟩⟩
        rw [enumD_get] at hd
        obtain ⟨z, e2, rfl⟩ := map_some hd
        obtain ⟨u, h6, h7⟩ := h5.get e2
        refine ⟨⟨vs, u, h4, h6⟩, fun v H'' ⟨T, w, ev, hT, eH, y⟩ => ?_⟩
        subst ev eH
        have := y vs h4
        rw [h6] at this
        cases this
        rw [Nat.zero_add]
        exact tup2 hr' hT (.int _) h7
      next => exact k.elim
    next => exact k.elim, x⟩
/-! ### isinstance(object of an own class, that class) -/
def icB (K : PySem.W.Frag) (x : Str) : Bool := He.Fa.ok K (.cls x) && (He.eqO (PySem.W.findIn K (.ref (He.ga K x)) "__class__") (some (some (.builtin "object.__class__"))) && (He.eqO (PySem.W.specialIn K (.builtin "object.__class__") "__get__") (some (some (.builtin "getset_descriptor.__get__"))) &&
  (decide (PySem.W.takesIn K (.builtin "object.__class__") = some true) && (decide (PySem.W.mroIn K (He.ga K x) (.type "object") = some true) && decide (PySem.W.kitOne K (.ref (He.ga K x)) (.ref (He.ga K x)) = some true)))))
theorem icB_ok {K : PySem.W.Frag} {x : Str} (h : icB K x = true) : C8.InsC K (He.ga K x) := by
  unfold icB at h
  obtain ⟨h1, h⟩ := He.ba h
  obtain ⟨h2, h⟩ := He.ba h
  obtain ⟨h3, h⟩ := He.ba h
  obtain ⟨h4, h⟩ := He.ba h
  obtain ⟨h5, h6⟩ := He.ba h
  exact ⟨He.cls_ok h1, He.eqO_ok h2, He.eqO_ok h3, of_decide_eq_true h4, of_decide_eq_true h5, of_decide_eq_true h6⟩
def cIsC (C : Addr) : DCq := fun ds g R => ∃ p fs, ds = [.ref p, .ref C] ∧ g p = some (.ins C fs) ∧ R (.bl true) g
theorem cj_isC {X : Cx} {K : PySem.W.Frag} {C : Addr} (c : C8.InsC K C) (hK : X.K = K := by rfl) : CallR X (.builtin "isinstance") (lC K (cIsC C)) := by
  subst hK
  refine ccm (C8.call_isC c) fun vs H Q ⟨M, ds, g, R, hr, r, q, k⟩ => ?_
  obtain ⟨p, fs, rfl, hp, q⟩ := q
  obtain ⟨v, u, rfl, r0, r2⟩ := rp2 r
  cases r0
  cases r2
  obtain ⟨dx, ws, h5, _⟩ := mo_ins hr hp
  exact ⟨p, dx, ws, rfl, h5, ql_now hr k (.bl _) q⟩
theorem r_isC {C p : Addr} {fs : List (Str × Dv)} {g : Ah} {R : DQ} (h : g p = some (.ins C fs)) (k : R (.bl true) g) : cIsC C [.ref p, .ref C] g R := ⟨p, fs, rfl, h, k⟩
/-! ### sorted(dict with numbers as keys), however many -/
section
variable {X : Cx}
theorem call_sortedDB (hcalm : X.calm = true) : CallR X (.builtin "sorted") (fun xs H Q => ∃ (a : Addr) (kvs : List (Key × V)) (ks : List Int), xs = [.ref a] ∧ Rd H a (.dK kvs) ∧ kvs.map (·.1) = ks.map Sum.inl ∧
    ∀ (ys : List Int) (p : Addr), ys.Perm ks → ys.Pairwise (· ≤ ·) → H p = none → Q (.ref p) (upd H p (.lst (ys.map V.int)))) := by
  intro pins s σ H xs us Q I r q
  obtain ⟨a, kvs, ks, ex, hd, hks, q⟩ := q
  subst ex
  obtain ⟨u, eu, rx⟩ := vals1 r
  subst eu
  cases rx
  obtain ⟨z, lo, vs, rel, dd⟩ := dk_rd I.hok hd
  obtain ⟨ep, hat⟩ := dd.dictAt
  have hkeys : vs.map (·.1) = ks.map Sum.inl := rel.keys.symm.trans hks
  have hl : vs.length = ks.length := by
    have e := congrArg List.length hkeys
    rw [List.length_map, List.length_map] at e
    exact e
  have hlk : kvs.length = ks.length := by
    have e := congrArg List.length hks
    rw [List.length_map, List.length_map] at e
    exact e
  have h16 : vs.length ≤ sizeLine := by rw [hl, ← hlk]; exact z
  refine Calls.call_function_entry PyProof.Rows.kind_sorted PyProof.Rows.plain_sorted PyProof.Rows.entry_sorted (PyProof.Rows.args_sorted1 _) ?_
  unfold Builtin.«sorted»
  refine wpAny_bind (m := checkCount "sorted" 1 1 _) (wpAny_pure ?_)
  refine wpAny_bind (PySem.W.kdu_collect (A := X.A.in1) (PySem.W.kdl_dict (knd := mixKind X.prog X.w) (kvs := vs) (ep := ep) lo) (I.ok.hd hcalm) hat h16 fun h' tk acc hk hacc => ?_)
  have hal : acc.toList.length = ks.length := by rw [Array.length_toList, hacc.1, hl]
  have hS : IntsAre acc.toList ks := ints_each hal fun j v e => by
    obtain ⟨k, x, e1, e2⟩ := hacc.2 j v (by rw [← Array.getElem?_toList]; exact e)
    have e3 : (vs.map (·.1))[j]? = some k := by rw [List.getElem?_map, e1]; rfl
    rw [hkeys, List.getElem?_map] at e3
    cases e4 : ks[j]? with
    | none => rw [e4] at e3; cases e3
    | some y =>
      rw [e4] at e3
      have e5 : Sum.inl y = k := Option.some.inj e3
      subst e5
      rcases keyIs_shape (show keyIs (Sum.inl y) v = true from e2) with ⟨i, t, ek, ev⟩ | ⟨z, t, ek, ev⟩
      · cases ek
        exact ⟨y, t, rfl, ev⟩
      · cases ek
  have I1 : Inv X pins σ H { s with heap := h', toks := tk } := I.kept hk
  have hal2 : acc.toList.length ≤ sizeLine := by rw [hal, ← hlk]; exact z
  refine wpAny_bind (wpAny_newList ?_ hal2)
  have hoL : (h'.push (seqObj "list" acc.toList.toArray 0)).get? h'.objs.size = some (seqObj "list" acc.toList.toArray 0) := Heap.get?_push_size _ rfl
  show wpAny _ _ _ _ _ { s with heap := h'.push (seqObj "list" acc.toList.toArray 0), toks := tk }
  refine wpAny_bind (wpAny_holding (wpAny_call_entry PyProof.Rows.slot_list_sort ⟨_, hoL, rfl⟩ PyProof.Rows.entry_list_sort
    (SrtO.list_sort_ord (s := { s with heap := h'.push (seqObj "list" acc.toList.toArray 0), toks := tk }) SrtO.swo_int hoL hal2 (fun h2 => SrtO.ints_sortable hS h2) fun out h1 h2 => ⟨_, rfl, ?_⟩) (PyProof.Rows.args_list_sort _)))
  obtain ⟨g1, g2, g3⟩ := SrtO.ints_out hS h1 h2
  obtain ⟨e', he'⟩ := PyProof.Rows.sortedHeap_at (vs := acc.toList) (out := out.toArray) hoL
  have hlen : ((out.map SrtO.iv).map V.int).length ≤ sizeLine := by
    rw [List.length_map, g2.length_eq, ← hal]
    exact hal2
  refine wpAny_pure ⟨_, rfl, .ref h'.objs.size, upd H h'.objs.size (.lst ((out.map SrtO.iv).map V.int)), I1.laid (t' := tk) (fun b u e => ?_) (Nat.le_refl _)
    (show ObjOk X.prog X.w _ _ _ (.lst ((out.map SrtO.iv).map V.int)) from ⟨hlen, out, e', vals_of_ints g1, he'⟩), rfl, q _ _ g2 g3 (I1.hok.fresh (Nat.le_refl _))⟩
  have hb : b < h'.objs.size := Heap.lt_size e
  rw [PyProof.Rows.sortedHeap_old (Nat.ne_of_lt hb) (by rw [size_push']; exact Nat.lt_succ_of_lt hb)]
  exact Heap.get?_push_of_some _ e
end
def cSortDB (n : Nw) : DCq := fun ds g R => match ds with
  | [d] => (match vw g d with
    | .dct kvs => ∃ ns : List Int, kvs.map (·.1) = ns.map Sum.inl ∧ ∀ ns' : List Int, ns'.Perm ns → ns'.Pairwise (· ≤ ·) → n (ns'.map Dv.int) g R
    | _ => False)
  | _ => False
theorem cj_sortDB {X : Cx} {K : PySem.W.Frag} {n : Nw} (hc : X.calm = true) (hn : NwOk n) (hK : X.K = K := by rfl) : CallR X (.builtin "sorted") (lC K (cSortDB n)) := by
  subst hK
  refine ccm (call_sortedDB hc) fun vs H Q ⟨M, ds, g, R, hr, r, q, k⟩ => ?_
  unfold cSortDB at q
  split at q
  next d =>
    obtain ⟨v, rfl, r0⟩ := rp1 r
    split at q
    next kvs e =>
      obtain ⟨a, us, rfl, h1, h2⟩ := vw_dct r0 hr e
      obtain ⟨ns, e1, q⟩ := q
      exact ⟨a, us, ns, rfl, .inl h1, by rw [keys_eq h2, e1], fun ns' p hp hs hn' => hn _ _ _ _ _ _ _ _ hr hn' (ints_rp' _) (q ns' hp hs) k⟩
    next => exact q.elim
  next => exact q.elim
theorem r_sortDB {n : Nw} {g : Ah} {R : DQ} {d : Dv} {ns : List Int} {kvs : List (Key × Dv)} (h1 : vw g d = .dct kvs) (hk : kvs.map (·.1) = ns.map Sum.inl) (h : ∀ ns' : List Int, ns'.Perm ns → ns'.Pairwise (· ≤ ·) → n (ns'.map Dv.int) g R) : cSortDB n [d] g R := by
  unfold cSortDB
  simp only [h1]
  exact ⟨ns, hk, h⟩
/-! ### d.clear() -/
def mDClear : DMq := fun d ds g R => ∃ a kvs, d = .ref a ∧ ds = [] ∧ g a = some (.dct kvs) ∧ R .non (ups g a (.dct []))
theorem mj_dclear {X : Cx} (K : PySem.W.Frag) (hK : X.K = K := by rfl) : MtR X "dict.clear" (lM K mDClear) := by
  subst hK
  refine mtm mtd_clear fun x vs H Q ⟨M, d, ds, g, R, hr, rx, rs, q, k⟩ => ?_
  obtain ⟨a, xs, rfl, rfl, h, q⟩ := q
  cases rx
  obtain rfl := rp0 rs
  obtain ⟨us, h1, h2⟩ := mo_dct hr h
  exact ⟨a, us, rfl, rfl, h1, k _ _ _ _ (hr_put (m := .dct []) (o := .dK []) hr (.inr (mo_ne h)) .nil) (stp_put hr (.inr (mo_ne h))) .non q⟩
theorem r_dclear {a : Addr} {kvs : List (Key × Dv)} {g : Ah} {R : DQ} (h : g a = some (.dct kvs)) (k : R .non (ups g a (.dct []))) : mDClear (.ref a) [] g R := ⟨a, kvs, rfl, rfl, h, k⟩
/-! ### repr of a list that changes -/
def cReprP : DCq := fun ds g R => match ds with
  | [d] => (∃ p, pvw g d = some p ∧ p.showable = true ∧ p.hasDict = false ∧ p.depth ≤ 40 ∧ p.shown.length ≤ 100000 ∧ R (.str p.shown) g)
  | _ => False
theorem cj_reprP {X : Cx} {K : PySem.W.Frag} (gd : X.A.guards = some []) (hu : X.A.units + 64 < cLine) (hK : X.K = K := by rfl) : CallR X (.builtin "repr") (lC K cReprP) := ccm (call_reprA K gd hu hK) fun vs H Q ⟨M, ds, g, R, hr, r, q, k⟩ => by
  unfold cReprP at q
  split at q
  next d =>
    obtain ⟨v, rfl, r0⟩ := rp1 r; clear r; have r := r0; clear r0
    obtain ⟨p, e, h1, h2, h3, h4, q⟩ := q
    exact ⟨v, p, rfl, r.dpv hr e, h1, h2, h3, h4, ql_now hr k (.str _) q⟩
  next => exact q.elim
theorem r_reprP {g : Ah} {R : DQ} {d : Dv} {p : PyData} {n : Nat} (e : pvw g d = some p) (h : Sh n p) (hs : p.showable = true) (hn : n ≤ 40) (hw : p.shown.length ≤ 100000) (k : R (.str p.shown) g) : cReprP [d] g R :=
  ⟨p, e, hs, PyData.hasDict_of_canLay _ h.1, Nat.le_trans h.2 hn, hw, k⟩
theorem pvw_lst {g : Ah} {a : Addr} {xs : List Dv} {ps : List PyData} (h : g a = some (.lst xs)) (e : pds xs = some ps) : pvw g (.ref a) = some (.list ps) := by
  unfold pvw
  rw [vl_lstE h]
  show (pds xs).map PyData.list = _
  rw [e]
  rfl
theorem pds_ints : ∀ ns : List Int, pds (ns.map Dv.int) = some (ns.map PyData.int)
  | [] => rfl
  | n :: ns => pds_cons (d := .int n) rfl (pds_ints ns)
/-- a list of small numbers -/
structure IntsP (ns : List Int) : Prop where
  b : ∀ i ∈ ns, -999999999999 ≤ i ∧ i ≤ 999999999999
  l : ns.length ≤ 6000
theorem IntsP.sh {ns : List Int} (h : IntsP ns) : Sh 1 (.list (ns.map PyData.int)) := .list fun d m => by
  obtain ⟨i, _, rfl⟩ := List.mem_map.mp m
  exact .int i
theorem IntsP.showable {ns : List Int} (h : IntsP ns) : (PyData.list (ns.map PyData.int)).showable = true := by
  simp only [PyData.showable]
  refine showableAll_mem fun p m => ?_
  obtain ⟨i, mi, rfl⟩ := List.mem_map.mp m
  obtain ⟨h1, h2⟩ := h.b i mi
  exact (Prn.int (n := 0) (w := 60) h1 h2 (Nat.le_refl _)).a
theorem bulk_ints : ∀ ns : List Int, PyData.bulkAll (ns.map PyData.int) ≤ 2 * ns.length
  | [] => by simp [PyData.bulkAll]
  | n :: ns => by
    have := bulk_ints ns
    simp only [List.map_cons, PyData.bulkAll, PyData.bulk, List.length_cons]
    omega
theorem IntsP.len {ns : List Int} (h : IntsP ns) (hl : ns.length ≤ 3000) : (PyData.list (ns.map PyData.int)).shown.length ≤ 100000 := by
  have hb : (PyData.list (ns.map PyData.int)).leavesShort 14 = true := by
    simp only [PyData.leavesShort]
    have : ∀ {xs : List PyData}, (∀ p ∈ xs, p.leavesShort 14 = true) → PyData.leavesShortAll 14 xs = true := by
      intro xs
      induction xs with
      | nil => intro _; simp [PyData.leavesShortAll]
      | cons x xs ih =>
        intro h
        simp only [PyData.leavesShortAll, Bool.and_eq_true]
        exact ⟨h x List.mem_cons_self, ih fun p hp => h p (List.mem_cons_of_mem _ hp)⟩
    refine this fun p m => ?_
    obtain ⟨i, mi, rfl⟩ := List.mem_map.mp m
    obtain ⟨h1, h2⟩ := h.b i mi
    simp only [PyData.leavesShort, decide_eq_true_eq]
    exact Nat.le_trans (PyData.shown_int_le2 h1 h2) (by decide)
  have h1 := PyData.shown_le_bulk 14 (by decide) _ hb
  have h2 := bulk_ints ns
  simp only [PyData.bulk] at h1
  omega
/-! ### dicts with tuple keys: walked, made of a list of pairs -/
def diKeysT (a : DE) : DI := fun X ev g R => a X ev g fun d g1 => ∃ p o us kvs, d = .ref p ∧ g1 p = some (.lckT o us kvs) ∧ R (kvs.map fun kv => .tup (kv.1.map kD)) (fun g' => g' p = g1 p) g1
theorem kDs_rp {K : KM} {g : Ah} {H : Hp} : ∀ k : List Key, RpAll K g H (k.map kV) (k.map kD)
  | [] => .nil
  | x :: k => .cons (by cases x; exact .int _; exact .str _) (kDs_rp k)
theorem tup_rp {K : KM} {g : Ah} {H : Hp} {q : Addr} {us : List V} {ds : List Dv} (hr : HR K g H) (h : H q = some (.tup us)) (r : RpAll K g H us ds) : Rp K g H (.ref q) (.tup ds) := by
  refine .tup ?_ (fun m => ?_) h r
  · cases e : g q with
    | none => rfl
    | some m =>
      obtain ⟨o, e1, k⟩ := hr.1 q m e
      rw [h] at e1
      cases e1
      cases m <;> exact k.elim
  · have := (hr.2 q m).2
    rw [h] at this
    exact this.elim
theorem keysT_it {K : KM} {g : Ah} {H : Hp} {p : Addr} {o : Obj} {us : List (List Key × V)} {kvs : List (List Key × Dv)} (hr0 : HR K g H) (e : g p = some (.lckT o us kvs)) : ItR K g H (Itkt p o us) (kvs.map fun kv => .tup (kv.1.map kD)) (fun g' => g' p = g p) := fun M' g' H' _ _ hr s i => by
  have hl : us.length = kvs.length := RpP.length (mo_lckT hr0 e).2
  obtain ⟨h1, h2⟩ := mo_lckT hr (i.trans e)
  refine ⟨fun j d hd => ?_, h1, by rw [List.length_map, hl]; exact Nat.le_refl _⟩
  have hj : j < us.length := by
    rcases Nat.lt_or_ge j us.length with z | z
    · exact z
    · rw [List.getElem?_eq_none (by rw [List.length_map]; omega)] at hd; cases hd
  refine ⟨⟨h1, hj⟩, fun v H'' ⟨eH, k, w, q, e1, e2, e3⟩ => ?_⟩
  subst eH e2
  refine ⟨hr, .refl, ?_⟩
  have hk : ∀ {us : List (List Key × V)} {kvs : List (List Key × Dv)}, RpP ⟨K.K, M'⟩ g' H'' us kvs → us.map (·.1) = kvs.map (·.1) := by
    intro us
    induction us with
    | nil => intro kvs h; cases h; rfl
    | cons a us ih => intro kvs h; cases h with | cons _ t => rw [List.map_cons, List.map_cons, ih t]
  have h3 := congrArg (fun l => l[j]?) (hk h2)
  simp only [List.getElem?_map, e1] at h3
  rw [List.getElem?_map] at hd
  cases e4 : kvs[j]? with
  | none => rw [e4] at hd; cases hd
  | some y =>
    rw [e4] at hd h3
    cases hd
    have h4 : k = y.1 := Option.some.inj h3
    show Rp _ _ _ _ (.tup (y.1.map kD))
    rw [← h4]
    exact tup_rp hr e3 (kDs_rp k)
def sLkT (s : DS) : DS := fun P ev g => ∃ a kvs, g a = some (.dcT kvs) ∧ ∀ o us, s ⟨fun ev' g' => g' a = some (.lckT o us kvs) ∧ P.nx ev' (ups g' a (.dcT kvs)), fun v g' => g' a = some (.lckT o us kvs) ∧ P.rt v (ups g' a (.dcT kvs)), fun ev' g' => g' a = some (.lckT o us kvs) ∧ P.bk ev' (ups g' a (.dcT kvs)), fun ev' g' => g' a = some (.lckT o us kvs) ∧ P.ct ev' (ups g' a (.dcT kvs)), fun _ _ _ => False⟩ ev (ups g a (.lckT o us kvs))
def dLkT (e : DE) : DE := fun X ev g R => ∃ a kvs, g a = some (.dcT kvs) ∧ ∀ o us, e (fun _ _ => False) ev (ups g a (.lckT o us kvs)) fun v g' => g' a = some (.lckT o us kvs) ∧ R v (ups g' a (.dcT kvs))
section
variable {X : Cx} {W : WX} {K : PySem.W.Frag} {tg e : Expr} {Da : DE} {st : Stmt} {A : DS}
theorem di_keysT (h : PE X e (lE K W Da)) : PI X tg e (lI K W (diKeysT Da)) :=
  pim (pi_keys h) fun σ H R ⟨M, ev, g, Rd, Y, c, d, q, x⟩ => ⟨M, ev, g, _, Y, c, d, fun v d g1 H1 hr s r k => by
    obtain ⟨p, o, us, kvs, rfl, h1, h2⟩ := k
    cases r
    exact ⟨p, o, rfl, .inr ⟨us, (mo_lckT hr h1).1, q _ _ _ _ _ hr s (keysT_it hr h1) h2⟩⟩, x⟩
theorem lckT_in {KK : KM} {g : Ah} {H : Hp} {a : Addr} {o : Obj} {us : List (List Key × V)} {kvs : List (List Key × Dv)} (hr : HR KK g H) (e : g a = some (.dcT kvs)) (h1 : H a = some (.dT us)) (h2 : RpP KK g H us kvs) : HR KK (ups g a (.lckT o us kvs)) (upd H a (.frz o (.dT us))) ∧ Stp g H (ups g a (.lckT o us kvs)) (upd H a (.frz o (.dT us))) :=
  ⟨hr_put hr (.inr (mo_ne e)) (show OkO _ _ _ (.frz _ _) (.lckT _ _ _) from ⟨⟨rfl, rfl⟩, h2⟩), stp_put hr (.inr (mo_ne e))⟩
theorem lckT_out {KK : KM} {g : Ah} {H : Hp} {a : Addr} {o : Obj} {us : List (List Key × V)} {kvs : List (List Key × Dv)} (hr : HR KK g H) (e : g a = some (.lckT o us kvs)) : H a = some (.frz o (.dT us)) ∧ HR KK (ups g a (.dcT kvs)) (upd H a (.dT us)) ∧ Stp g H (ups g a (.dcT kvs)) (upd H a (.dT us)) := by
  obtain ⟨h1, h2⟩ := mo_lckT hr e
  exact ⟨h1, hr_put hr (.inr (mo_ne e)) (show OkO _ _ _ (.dT _) (.dcT _) from h2), stp_put hr (.inr (mo_ne e))⟩
theorem ds_lkT (h : PS X st (lS K W A)) : PS X st (lS K W (sLkT A)) :=
  psm (ps_lock h) fun E σ H ⟨M, ev, g, P, c, ⟨a, kvs, e, d⟩, l⟩ => by
    obtain ⟨us, h1, h2⟩ := mo_dcT c.hr e
    refine ⟨a, _, h1, trivial, fun od => ?_⟩
    obtain ⟨hr1, s1⟩ := lckT_in (o := od) c.hr e h1 h2
    refine ⟨M, ev, _, _, c.go hr1 s1, d od us, ⟨fun σ' ev' g' H' c' s' ⟨k1, k2⟩ => ?_, fun v x g' H' r' s' rv ⟨k1, k2⟩ => ?_, fun σ' ev' g' H' c' s' ⟨k1, k2⟩ => ?_, fun σ' ev' g' H' c' s' ⟨k1, k2⟩ => ?_, fun _ _ _ _ _ _ _ _ _ _ z => z.elim⟩⟩
    · obtain ⟨h3, hr3, s3⟩ := lckT_out c'.hr k1
      exact ⟨h3, l.nx _ _ _ _ (c'.go hr3 s3) ((s1.trans s').trans s3) k2⟩
    · obtain ⟨h3, hr3, s3⟩ := lckT_out r' k1
      exact ⟨h3, l.rt _ _ _ _ hr3 ((s1.trans s').trans s3) (rv.go s3) k2⟩
    · obtain ⟨h3, hr3, s3⟩ := lckT_out c'.hr k1
      exact ⟨h3, l.bk _ _ _ _ (c'.go hr3 s3) ((s1.trans s').trans s3) k2⟩
    · obtain ⟨h3, hr3, s3⟩ := lckT_out c'.hr k1
      exact ⟨h3, l.ct _ _ _ _ (c'.go hr3 s3) ((s1.trans s').trans s3) k2⟩
theorem de_lkT (h : PE X e (lE K W Da)) : PE X e (lE K W (dLkT Da)) :=
  pem (pe_lock h) fun σ H Q ⟨M, ev, g, R, Y, c, ⟨a, kvs, e, d⟩, q, x⟩ => by
    obtain ⟨us, h1, h2⟩ := mo_dcT c.hr e
    refine ⟨a, _, h1, trivial, fun od => ?_⟩
    obtain ⟨hr1, s1⟩ := lckT_in (o := od) c.hr e h1 h2
    refine ⟨M, ev, _, _, _, c.go hr1 s1, d od us, fun v x g' H' r' s' rv ⟨k1, k2⟩ => ?_, fun _ _ _ _ _ _ _ _ z => z.elim⟩
    obtain ⟨h3, hr3, s3⟩ := lckT_out r' k1
    exact ⟨h3, q _ _ _ _ hr3 ((s1.trans s').trans s3) (rv.go s3) k2⟩
end
section
variable {X : Xc} {ev : Ev} {g : Ah} {R : DQ} {a e : DE} {P : De} {s : DS} {p : Addr} {kvs : List (List Key × Dv)} {d : Dv} {o : Obj} {us : List (List Key × V)} {ky : Key} {x : Dv}
theorem r_slkT (h : g p = some (.dcT kvs)) (k : ∀ o us, s ⟨fun ev' g' => g' p = some (.lckT o us kvs) ∧ P.nx ev' (ups g' p (.dcT kvs)), fun v g' => g' p = some (.lckT o us kvs) ∧ P.rt v (ups g' p (.dcT kvs)), fun ev' g' => g' p = some (.lckT o us kvs) ∧ P.bk ev' (ups g' p (.dcT kvs)), fun ev' g' => g' p = some (.lckT o us kvs) ∧ P.ct ev' (ups g' p (.dcT kvs)), fun _ _ _ => False⟩ ev (ups g p (.lckT o us kvs))) : sLkT s P ev g := ⟨p, kvs, h, k⟩
theorem r_dlkT (h : g p = some (.dcT kvs)) (k : ∀ o us, e (fun _ _ => False) ev (ups g p (.lckT o us kvs)) fun v g' => g' p = some (.lckT o us kvs) ∧ R v (ups g' p (.dcT kvs))) : dLkT e X ev g R := ⟨p, kvs, h, k⟩
def keyQT (Rd : List Dv → (Ah → Prop) → Ah → Prop) (d : Dv) (g : Ah) : Prop := ∃ p o us kvs, d = .ref p ∧ g p = some (.lckT o us kvs) ∧ Rd (kvs.map fun kv => .tup (kv.1.map kD)) (fun g' => g' p = g p) g
theorem r_keysT {Rd : List Dv → (Ah → Prop) → Ah → Prop} (h : a X ev g (keyQT Rd)) : diKeysT a X ev g Rd := h
theorem r_keysTL {Rd : List Dv → (Ah → Prop) → Ah → Prop} (h : g p = some (.lckT o us kvs)) (k : Rd (kvs.map fun kv => .tup (kv.1.map kD)) (fun g' => g' p = g p) g) : keyQT Rd (.ref p) g := ⟨p, o, us, kvs, rfl, h, k⟩
theorem r_ixKT {ks : List Key} (h1 : g p = some (.lckT o us kvs)) (h2 : valD kvs ks = some x) (h : R x g) : qIx (.ref p) (.tup (ks.map kD)) g R := by
  have e : vw g (.ref p) = .ref p := by rw [vw_refE, h1]; rfl
  unfold qIx
  rw [e]
  simp only [h1]
  rw [kOfs_kD]
  show got (valD kvs ks) _
  rw [h2]
  exact h
end
section
variable {X : Cx} {K : PySem.W.Frag}
theorem call_dictL (hc : X.calm = true) (hu : X.A.units + 64 < cLine) : CallR X (.type "dict") (fun xs H Q => ∃ (a : Addr) (es : List Pt), xs = [.ref a] ∧ SqL X.K H a (es.map fun e => V.ref e.1) ∧
    (∀ e ∈ es, H e.1 = some (.tup [.ref e.2.2.1, e.2.2.2]) ∧ H e.2.2.1 = some (.tup (e.2.1.map kV))) ∧ ∀ p, H p = none → Q (.ref p) (upd H p (.dT (es.foldl (fun acc e => putK acc e.2.1 e.2.2.2) [])))) := by
  intro pins s σ H xs us Q I r h
  obtain ⟨a, es, rfl, ha, he, q⟩ := h
  obtain rfl := Vals.ref1 r
  obtain ⟨its, rv, ⟨o, n, ho, hcl, hd, hdat⟩, hz⟩ := I.list ha
  have ei : its = (es.map (·.1)).map Value.ref := refs_at (ps := es.map (·.1)) (by rw [List.map_map]; exact rv)
  subst ei
  rw [List.length_map] at hz
  have all : ∀ es : List Pt, (∀ e ∈ es, H e.1 = some (.tup [.ref e.2.2.1, e.2.2.2]) ∧ H e.2.2.1 = some (.tup (e.2.1.map kV))) → ∃ ps : List (List Key × Addr × Value), Paired (fun (e : Pt) (p : List Key × Addr × Value) => p.1 = e.2.1 ∧ p.2.1 = e.2.2.1 ∧ RelV e.2.2.2 p.2.2 ∧ PairAt s.heap e.1 (.ref p.2.1) p.2.2) es ps := by
    intro es
    induction es with
    | nil => exact fun _ => ⟨[], .nil⟩
    | cons e es ih =>
      intro h
      obtain ⟨ps, ih⟩ := ih fun x hx => h x (List.mem_cons_of_mem _ hx)
      obtain ⟨_, its, r1, ob, g1, g2, n2, g3⟩ := (show ObjOk X.prog X.w H s.heap e.1 (.tup [.ref e.2.2.1, e.2.2.2]) from I.hok _ _ (h e List.mem_cons_self).1)
      obtain ⟨u1, u2, rfl, e1, e2⟩ := vals2 r1
      cases e1
      exact ⟨(e.2.1, e.2.2.1, u2) :: ps, .cons ⟨rfl, rfl, e2, .inl ⟨ob, g1, g2, n2, g3⟩⟩ ih⟩
  obtain ⟨ps, hp⟩ := all es he
  have hlen : ps.length = es.length := hp.length.symm
  have at_ : ∀ (j : Nat) (p : List Key × Addr × Value), ps[j]? = some p → ∃ e, es[j]? = some e ∧ p.1 = e.2.1 ∧ p.2.1 = e.2.2.1 ∧ RelV e.2.2.2 p.2.2 ∧ PairAt s.heap e.1 (.ref p.2.1) p.2.2 := by
    clear hlen all hz he q rv hdat ho ha r
    induction hp with
    | nil => intro j p h; cases h
    | cons h t ih =>
      intro j p e
      cases j with
      | zero => cases e; exact ⟨_, rfl, h⟩
      | succ j => exact ih j p e
  have keys : ∀ e ∈ es, (tupleKind (mixKind X.prog X.w)).is s.heap e.2.1 e.2.2.1 := fun e m => L2.key_of I.hok (he e m).2
  refine call_dict_pairsH (knd := tupleKind (mixKind X.prog X.w)) (ps := ps) (PairArg.list (prog := X.prog) (w := X.w) a ((es.map (·.1)).map Value.ref).toArray (fun j => ((es[j]?).map (·.1)).getD 0) (ps.map fun p => (Value.ref p.2.1, p.2.2))) (I.ok.hd hc) (show X.A.in1.in1.units < cLine from by
      show X.A.units + 1 + 1 < cLine
      omega) ⟨⟨o, n, ho, hcl, hd, hdat⟩, ?_, fun j k v e => ?_⟩ ⟨by rw [List.length_map], fun i key v e => ?_⟩ (fun h' kp x hx => ?_) (by rw [List.length_map, hlen]; exact hz) fun h' tk hd' kp => ?_
  · rw [List.size_toArray, List.length_map, List.length_map, List.length_map, hlen]
  · rw [List.getElem?_map] at e
    cases e2 : ps[j]? with
    | none => rw [e2] at e; cases e
    | some p =>
      rw [e2] at e
      cases e
      obtain ⟨el, e3, _, _, _, pa⟩ := at_ j p e2
      simp only [e3, Option.map_some, Option.getD_some]
      exact ⟨by simp [e3], pa⟩
  · have e : (ps.map fun p => (Value.ref p.2.1, p.2.2))[i]? = some (key, v) := e
    rw [List.getElem?_map] at e
    cases e2 : ps[i]? with
    | none => rw [e2] at e; cases e
    | some p =>
      rw [e2] at e
      cases e
      exact ⟨p.1, p.2.1, rfl, rfl⟩
  · obtain ⟨j, hj, e⟩ := List.getElem_of_mem hx
    obtain ⟨el, e3, k1, k2, _, _⟩ := at_ j x (by rw [List.getElem?_eq_getElem hj, e])
    have m := List.mem_of_getElem? e3
    obtain ⟨ok, it, n3, g1, g2, g3, g4⟩ := keys el m
    rw [k1, k2]
    exact ⟨ok, it, n3, kp _ _ (Nat.ne_of_lt (Heap.lt_size g1)) (fun z => nomatch z) g1, g2, g3, g4⟩
  · have hm : (s.heap.objs.size == sysModules) = false := beq_eq_false_iff_ne.mpr (Nat.ne_of_gt I.big)
    have fr : H s.heap.objs.size = none := I.hok.fresh (Nat.le_refl _)
    have kt : ∀ (es : List Pt) (ps : List (List Key × Addr × Value)), Paired (fun (e : Pt) (p : List Key × Addr × Value) => p.1 = e.2.1 ∧ p.2.1 = e.2.2.1 ∧ RelV e.2.2.2 p.2.2 ∧ PairAt s.heap e.1 (.ref p.2.1) p.2.2) es ps → (∀ e ∈ es, H e.2.2.1 = some (.tup (e.2.1.map kV))) →
        ∀ (acc : List (List Key × V)) (bcc : List (List Key × Addr × Value)), L2.KT H acc bcc → L2.KT H (es.foldl (fun acc e => putK acc e.2.1 e.2.2.2) acc) (storedAllH bcc ps) := by
      intro es ps h
      induction h with
      | nil => exact fun _ acc bcc k => k
      | @cons e p es ps h t ih =>
        intro hh acc bcc k
        obtain ⟨k1, k2, k3, _⟩ := h
        refine ih (fun x hx => hh x (List.mem_cons_of_mem _ hx)) _ _ ?_
        show L2.KT H (putK acc e.2.1 e.2.2.2) (storedH bcc p.1 p.2.1 p.2.2)
        rw [k1]
        exact k.put _ (by rw [k2]; exact hh e List.mem_cons_self) k3
    have K1 := kt es ps hp (fun e m => (he e m).2) [] [] .nil
    obtain ⟨od, eds, epd, g1, g2, g3, g4, g5, g6⟩ := hd'
    have kp' : ∀ b ob, s.heap.get? b = some ob → h'.get? b = some ob := fun b ob e => kp b ob (fun z => nomatch z) e
    have l2 : (es.foldl (fun acc e => putK acc e.2.1 e.2.2.2) ([] : List (List Key × V))).length ≤ sizeLine := by
      rw [K1.length]
      refine Nat.le_trans (storedAllH_length ps []) ?_
      rw [List.length_nil, Nat.zero_add, hlen]
      exact hz
    refine ⟨.ref s.heap.objs.size, _, I.laid (t' := tk) (a := s.heap.objs.size) (o := .dT _) kp' (Nat.le_refl _) ⟨l2, hm, storedAllH [] ps, K1.keeps fun b ys e => ?_, od, eds, epd, g1, g2, g3, g4, g6⟩, rfl, q _ fr⟩
    rw [upd_ne (ne_of_none e fr)]
    exact e
def cDictL : DCq := fun ds g R => match ds with
  | [d] => (match vw g d with
    | .lst xs => ∃ es : List (List Key × Dv), xs = prT es ∧ ∀ a, g a = none → R (.ref a) (ups g a (.dcT (mgT es)))
    | _ => False)
  | _ => False
theorem cj_dictL (hc : X.calm = true) (hu : X.A.units + 64 < cLine) (hK : X.K = K := by rfl) : CallR X (.type "dict") (lC K cDictL) := ccm (call_dictL hc hu) fun vs H Q ⟨M, ds, g, R, hr, r, q, k⟩ => by
  subst hK
  unfold cDictL at q
  split at q
  next d =>
    obtain ⟨v, rfl, r0⟩ := rp1 r
    split at q
    next xs e =>
      obtain ⟨es, rfl, q⟩ := q
      obtain ⟨a, us, rfl, h1, h2⟩ := vw_lst r0 hr e
      obtain ⟨ps, rfl, hp⟩ := prT_ok h2
      refine ⟨a, ps, rfl, h1, fun e he => ?_, fun p hp' => ?_⟩
      · have : ∀ {ps : List Pt} {es : List (List Key × Dv)}, Paired (fun (e : Pt) (d : List Key × Dv) => e.2.1 = d.1 ∧ H e.1 = some (.tup [.ref e.2.2.1, e.2.2.2]) ∧ H e.2.2.1 = some (.tup (e.2.1.map kV)) ∧ Rp ⟨X.K, M⟩ g H e.2.2.2 d.2) ps es → ∀ e ∈ ps, H e.1 = some (.tup [.ref e.2.2.1, e.2.2.2]) ∧ H e.2.2.1 = some (.tup (e.2.1.map kV)) := by
          intro ps es h
          induction h with
          | nil => exact fun _ h => nomatch h
          | cons h t ih =>
            intro e he
            rcases List.mem_cons.mp he with rfl | he
            · exact ⟨h.2.1, h.2.2.1⟩
            · exact ih e he
        exact this hp e he
      · have rr : RpP ⟨X.K, M⟩ g H (ps.foldl (fun acc e => putK acc e.2.1 e.2.2.2) []) (mgT es) := mgT_ok hp .nil
        exact k _ _ _ _ (hr_put (m := .dcT (mgT es)) (o := .dT _) hr (.inl hp') rr) (stp_put hr (.inl hp')) (.ref p) (q p (hr_off hr hp'))
    next => exact q.elim
  next => exact q.elim
theorem r_dictL {es : List (List Key × Dv)} {d : Dv} {g : Ah} {R : DQ} (e : vw g d = .lst (prT es)) (h : ∀ a, g a = none → R (.ref a) (ups g a (.dcT (mgT es)))) : cDictL [d] g R := by
  unfold cDictL
  simp only [e]
  exact ⟨es, rfl, h⟩
end
/-! ### d.pop(k), there -/
theorem mtd_pop {X : Cx} : MtR X "dict.pop" (fun x vs H Q => ∃ (a : Addr) (kvs : List (Key × V)) (k : Key) (v : V), x = .ref a ∧ vs = [kV k] ∧ H a = some (.dK kvs) ∧ valV kvs k = some v ∧ Q v (upd H a (.dK (dropK kvs k)))) := by
  intro pins s σ H x vs v us Q I rx rv h
  obtain ⟨a, kvs, k, w, ex, ev, e, l, q⟩ := h
  subst ex
  subst ev
  obtain rfl : v = Value.ref a := rx
  obtain ⟨u, eu, ru⟩ := vals1 rv
  subst eu
  exact d_pop I e ru l (.inl rfl) fun w' s' I' rw' => ⟨w, _, I', rw', q⟩
def mDPop : DMq := fun d ds g R => ∃ a kvs e k x, d = .ref a ∧ ds = [e] ∧ kOf e = some k ∧ g a = some (.dct kvs) ∧ valD kvs k = some x ∧ R x (ups g a (.dct (dropD kvs k)))
theorem mj_dpop {X : Cx} (K : PySem.W.Frag) (hK : X.K = K := by rfl) : MtR X "dict.pop" (lM K mDPop) := by
  subst hK
  refine mtm mtd_pop fun x vs H Q ⟨M, d, ds, g, R, hr, rx, rs, q, k⟩ => ?_
  obtain ⟨a, kvs, e, ky, y, rfl, rfl, hk, h, hv, q⟩ := q
  cases rx
  obtain ⟨v, rfl, r0⟩ := rp1 rs
  obtain rfl := kOf_ok r0 hk
  obtain ⟨us, h1, h2⟩ := mo_dct hr h
  obtain ⟨w, e1, e2⟩ := (h2.val (k := ky)).1 y hv
  have sp : Stp g H (ups g a (.dct (dropD kvs ky))) (upd H a (.dK (dropK us ky))) := stp_put hr (.inr (mo_ne h))
  exact ⟨a, us, ky, w, rfl, rfl, h1, e1, k _ _ _ _ (hr_put (m := .dct (dropD kvs ky)) (o := .dK (dropK us ky)) hr (.inr (mo_ne h)) h2.dropK) sp (e2.go sp) q⟩
theorem r_dpop {a : Addr} {kvs : List (Key × Dv)} {g : Ah} {R : DQ} {e x : Dv} {k : Key} (h : g a = some (.dct kvs)) (hk : kOf e = some k) (hv : valD kvs k = some x) (q : R x (ups g a (.dct (dropD kvs k)))) : mDPop (.ref a) [e] g R := ⟨a, kvs, e, k, x, rfl, rfl, hk, h, hv, q⟩
theorem valD_drop (kvs : List (Key × Dv)) (k j : Key) : valD (dropD kvs k) j = if j = k then none else valD kvs j := by
  induction kvs with
  | nil => simp [dropD, valD]
  | cons e r ih =>
    obtain ⟨i, d⟩ := e
    unfold dropD at ih ⊢
    by_cases z : i = k
    · rw [List.filter_cons_of_neg (by simp [z]), ih]
      by_cases y : j = k
      · rw [if_pos y, if_pos y]
      · rw [if_neg y, if_neg y, valD, if_neg (fun q => y (by rw [← q, z]))]
    · rw [List.filter_cons_of_pos (by simp [z]), valD, ih, valD]
      by_cases y : i = j
      · rw [if_pos y, if_pos y, if_neg (fun q => z (by rw [y, q]))]
      · rw [if_neg y, if_neg y]
theorem dropD_len (kvs : List (Key × Dv)) (k : Key) : (dropD kvs k).length ≤ kvs.length := List.length_filter_le _ _
/-! ### tuples whose object is known: slices, sums, count; sorted(tuple of numbers) -/
section
variable {X : Cx}
theorem rp_tqOk {K : KM} {g : Ah} {H : Hp} {v : V} {xs : List Dv} (r : Rp K g H v (.tq xs)) : ∃ a vs o, v = .ref a ∧ H a = some (.frz o (.tup vs)) ∧ o.dict = none ∧ RpAll K g H vs xs := by
  cases r with
  | tq h1 h2 h3 h4 h5 => exact ⟨_, _, _, rfl, h3, h4, h5⟩
/-- t[lo:hi], not the whole of it -/
theorem sl_tupQ : SlR X (fun x lo hi H Q => ∃ a xs, x = .ref a ∧ SqT X.K H a xs ∧ (HT.sIx xs.length 0 lo = 0 ∧ HT.sIx xs.length xs.length hi = xs.length → Q (.ref a) H) ∧
    (¬ (HT.sIx xs.length 0 lo = 0 ∧ HT.sIx xs.length xs.length hi = xs.length) → ∀ p o, H p = none → o.dict = none → Q (.ref p) (upd H p (.frz o (.tup (cutV xs lo hi)))))) := by
  intro pins s σ H x v vl vu lo hi sl Q I rx hs pl pu h
  obtain ⟨a, xs, rfl, hx, q1, q2⟩ := h
  by_cases hw : HT.sIx xs.length 0 lo = 0 ∧ HT.sIx xs.length xs.length hi = xs.length
  · exact sl_tupA pins s σ H _ v vl vu lo hi sl Q I rx hs pl pu ⟨a, xs, rfl, hx, q1, fun z => absurd hw z⟩
  · cases rx
    obtain ⟨its, r, ht, hz⟩ := I.tuple hx
    have hlen : its.toArray.size = xs.length := by rw [List.size_toArray]; exact r.length.symm
    refine ⟨"tuple", _, PyProof.Rows.slot_tuple_getitem.lookup, ht.typeIs, ?_⟩
    refine HT.getItem_tuple_cut ht hs pl pu (by rw [hlen]; exact hw) ?_ (by rw [hlen]; exact hz)
    rw [hlen]
    have at' := Heap.get?_push_size s.heap (o := { cls := .type "tuple", data := .seq ((its.toArray.toList.drop (HT.sIx xs.length 0 lo)).take (HT.sIx xs.length xs.length hi - HT.sIx xs.length 0 lo)).toArray }) rfl
    exact ⟨.ref s.heap.objs.size, _, I.laid (t' := s.toks) (o := .frz { cls := .type "tuple", data := .seq ((its.toArray.toList.drop (HT.sIx xs.length 0 lo)).take (HT.sIx xs.length xs.length hi - HT.sIx xs.length 0 lo)).toArray } (.tup (cutV xs lo hi))) (fun b ob q => Heap.get?_push_of_some _ q) (Nat.le_refl _)
      ⟨at', Nat.le_trans (cutV_length xs lo hi) hz, _, (r.drop (HT.sIx xs.length 0 lo)).take (HT.sIx xs.length xs.length hi - HT.sIx xs.length 0 lo), ⟨_, at', rfl, _, rfl⟩⟩, rfl, q2 hw _ _ (I.hok.fresh (Nat.le_refl _)) rfl⟩
/-- t + u -/
theorem op_catQ : OpR X (binaryOp .Add) (fun x y H Q => ∃ a b xs ys, x = .ref a ∧ y = .ref b ∧ SqT X.K H a xs ∧ SqT X.K H b ys ∧ xs.length + ys.length ≤ sizeLine ∧ (xs = [] → Q (.ref b) H) ∧ (xs ≠ [] → ys = [] → Q (.ref a) H) ∧
    (xs ≠ [] → ys ≠ [] → ∀ p o, H p = none → o.dict = none → Q (.ref p) (upd H p (.frz o (.tup (xs ++ ys)))))) := by
  intro pins s σ H x y v u Q I rx ry h
  obtain ⟨a, b, xs, ys, rfl, rfl, ha, hb, hz, q1, q2, q3⟩ := h
  by_cases hx : xs = []
  · exact op_catT0 X.K rfl pins s σ H _ _ v u Q I rx ry ⟨a, b, xs, ys, rfl, rfl, ha, hb, hz, q1, q2, fun z => absurd hx z⟩
  by_cases hy : ys = []
  · exact op_catT0 X.K rfl pins s σ H _ _ v u Q I rx ry ⟨a, b, xs, ys, rfl, rfl, ha, hb, hz, q1, q2, fun _ z => absurd hy z⟩
  cases rx
  cases ry
  obtain ⟨its, r1, p1, _⟩ := I.tuple ha
  obtain ⟨its2, r2, p2, _⟩ := I.tuple hb
  refine HT.cat_tup p1 p2 (fun z => hx (r1.nil_iff.mp z)) (fun z => absurd (r2.nil_iff.mp z) hy) (fun z => ?_) (by rw [← r1.length, ← r2.length]; exact hz)
  have at' := Heap.get?_push_size s.heap (o := { cls := .type "tuple", data := .seq (its ++ its2).toArray }) rfl
  exact ⟨.ref s.heap.objs.size, _, I.laid (t' := s.toks) (o := .frz { cls := .type "tuple", data := .seq (its ++ its2).toArray } (.tup (xs ++ ys))) (fun b ob q => Heap.get?_push_of_some _ q) (Nat.le_refl _)
    ⟨at', by rw [List.length_append]; exact hz, _, r1.append r2, ⟨_, at', rfl, _, rfl⟩⟩, rfl, q3 hx hy _ _ (I.hok.fresh (Nat.le_refl _)) rfl⟩
end
/-- the items of a tuple, if its object is known -/
def tqI : Dv → Option (List Dv)
  | .tq xs => some xs
  | _ => none
def qSlQ : DSq := fun d lo hi g R => match d with
  | .tq xs => R (.tq (cutX xs lo hi)) g
  | .tup xs => (¬ (HT.sIx xs.length 0 lo = 0 ∧ HT.sIx xs.length xs.length hi = xs.length)) ∧ R (.tq (cutX xs lo hi)) g
  | _ => False
def qAddQ : DR2 := fun d e g R => match d, e with
  | .tq xs, .tq ys => xs.length + ys.length ≤ sizeLine ∧ R (.tq (xs ++ ys)) g
  | _, _ => False
def mCountI : DMq := fun d ds g R => ∃ (xs : List Dv) (ps : List PyData) (k : Int), d = .tq xs ∧ ds = [.int k] ∧ pds xs = some ps ∧ PyData.plainAll ps = true ∧ R (.int ((ps.countP fun z => PyData.eqv z (.int k) : Nat) : Int)) g
def isTq (_ : Ah) (d : Dv) : Prop := ∃ xs, d = .tq xs
def cSortT (n : Nw) : DCq := fun ds g R => match ds with
  | [d] => (match vw g d with
    | .tup xs => ∃ ns : List Int, xs = ns.map Dv.int ∧ ∀ ns' : List Int, ns'.Perm ns → ns'.Pairwise (· ≤ ·) → n (ns'.map Dv.int) g R
    | _ => False)
  | _ => False
section
variable {X : Cx} {K : PySem.W.Frag}
theorem oj_slQ (hK : X.K = K := by rfl) : SlR X (lSl K qSlQ) := by
  subst hK
  refine slm sl_tupQ fun x l u H Q h => ?_
  obtain ⟨M, d, g, R, hr, rx, q, k⟩ := h
  unfold qSlQ at q
  split at q
  next xs =>
    obtain ⟨a, vs, o, rfl, h1, h2, h3⟩ := rp_tqOk rx
    refine ⟨a, vs, rfl, .inl (.inr ⟨o, h1⟩), fun w => ?_, fun _ p o hp hd => tq_ok hr hp hd (h3.cut l u) q k⟩
    have e : cutX xs l u = xs := by
      unfold cutX
      rw [← h3.length, w.1, w.2, List.drop_zero, Nat.sub_zero, List.take_of_length_le (by rw [h3.length]; exact Nat.le_refl _)]
    rw [e] at q
    exact ql_now hr k rx q
  next xs =>
    obtain ⟨a, vs, rfl, h1, h2⟩ := rp_tup rx
    exact ⟨a, vs, rfl, SqT.of h1, fun w => absurd w (by rw [h2.length]; exact q.1), fun _ p o hp hd => tq_ok hr hp hd (h2.cut l u) q.2 k⟩
  next => exact q.elim
theorem oj_addQ (hK : X.K = K := by rfl) : OpR X (binaryOp .Add) (lR K qAddQ) := by
  subst hK
  refine opm op_catQ fun x y H Q h => ?_
  obtain ⟨M, d, e, g, R, hr, rx, ry, q, k⟩ := h
  unfold qAddQ at q
  split at q
  next xs ys =>
    obtain ⟨a, vs, o, rfl, h1, h2, h3⟩ := rp_tqOk rx
    obtain ⟨b, ws, o', rfl, h4, h5, h6⟩ := rp_tqOk ry
    refine ⟨a, b, vs, ws, rfl, rfl, .inl (.inr ⟨o, h1⟩), .inl (.inr ⟨o', h4⟩), by rw [h3.length, h6.length]; exact q.1, fun z => ?_, fun _ z => ?_, fun _ _ p o hp hd => tq_ok hr hp hd (h3.append h6) q.2 k⟩
    · subst z
      cases h3
      exact ql_now hr k ry q.2
    · subst z
      cases h6
      rw [List.append_nil] at q
      exact ql_now hr k rx q.2
  next => exact q.elim
end
section
variable {X : Cx} {W : WX} {K : PySem.W.Frag} {o e : Expr} {es : List Expr} {Do : DE} {Dt : DA} {to : TE} {t : TA} {pos p apos cpos : Pos} {name : Str} {id : String} {q : DMq} {r : V → List V → Hp → VK → Prop}
/-- a method of a tuple whose object is known -/
theorem pe_bmQ (pa : PlainAttrs "tuple") (slot : Slot "tuple" name id) (hty : typeOf (.builtin id) = pure (.type "method_descriptor")) (hm : MtR X id r) (ho : PE X o to) (ha : PA X (e :: es) t)
    (hbase : attributeBase o name X.env (eval o X.env) = eval o X.env := by rfl)
    (hfew : ((backTo cpos (starEach (e :: es) X.env)).all (fun x => !x.1) && (backToKw cpos (keywordEach [] X.env)).all (fun x => x.1.isSome)
      && decide ((e :: es).length + ([] : List Keyword).length + (if ([] : List Keyword).isEmpty then 0 else 1) < 30)) = true := by rfl)
    (hline : (apos.endLine == cpos.line) = true := by rfl) (hs : starEach (e :: es) X.env = (false, eval e X.env) :: starEach es X.env := by rfl) (hplain : (backTo cpos (starEach es X.env)).any (·.1) = false := by rfl) :
    PE X (.Call (.Attribute o name apos) (e :: es) [] cpos) (fun σ H Q => to σ H fun x H1 => (∃ p ob vs, x = .ref p ∧ H1 p = some (.frz ob (.tup vs)) ∧ ob.dict = none) ∧ t σ H1 fun xs H2 => r x xs H2 Q) := by
  refine ⟨fun pins s σ H Q I h => ?_⟩
  refine wpAny_Call_method_late hbase hfew hline rfl (thn (ho.run pins s σ H _ I h) fun v s1 ⟨x, H1, I1, r1, ⟨p, ob, vs, ex, hp, hd⟩, q1⟩ => ?_)
  subst ex
  have hv := r1
  cases hv
  obtain ⟨h1, hz, its, rv, o', ho', hcl, n, hdat⟩ := (show ObjOk X.prog X.w H1 s1.heap p (.frz ob (.tup vs)) from I1.hok p _ hp)
  refine ⟨"tuple", id, pa, slot, hty, ⟨o', ho', hcl⟩, fun a ea => ?_, ?_⟩
  · cases ea
    exact ⟨ob, h1, hd⟩
  · have hA := ha.run cpos pins s1 σ H1 _ I1 q1
    rw [hs] at hA ⊢
    refine Calls.callWith_builtin (by show (false || (backTo cpos (starEach es X.env)).any (·.1)) = false; rw [hplain] <;> rfl) (Calls.evalArgs_plain ?_)
    exact thn hA fun us s2 ⟨vs, H2, I2, r2, q2⟩ => hm pins s2 σ H2 _ vs _ us Q I2 r1 r2 q2
theorem de_mtQ (pa : PlainAttrs "tuple") (slot : Slot "tuple" name id) (hty : typeOf (.builtin id) = pure (.type "method_descriptor")) (hm : MtR X id (lM K q)) (ho : PE X o (lE K W Do)) (ha : PA X (e :: es) (lA K W Dt)) (hK : X.K = K := by rfl)
    (hbase : attributeBase o name X.env (eval o X.env) = eval o X.env := by rfl)
    (hfew : ((backTo cpos (starEach (e :: es) X.env)).all (fun x => !x.1) && (backToKw cpos (keywordEach [] X.env)).all (fun x => x.1.isSome)
      && decide ((e :: es).length + ([] : List Keyword).length + (if ([] : List Keyword).isEmpty then 0 else 1) < 30)) = true := by rfl)
    (hline : (apos.endLine == cpos.line) = true := by rfl) (hs : starEach (e :: es) X.env = (false, eval e X.env) :: starEach es X.env := by rfl) (hplain : (backTo cpos (starEach es X.env)).any (·.1) = false := by rfl) :
    PE X (.Call (.Attribute o name apos) (e :: es) [] cpos) (lE K W (dMt isTq q Do Dt)) := by
  subst hK
  exact pem (pe_bmQ pa slot hty hm ho ha hbase hfew hline hs hplain) fun σ H Q ⟨M, ev, g, R, Y, c, d, k, x⟩ => ⟨M, ev, g, _, Y, c, d, fun v d g1 H1 hr s r h => ⟨by
    obtain ⟨xs, rfl⟩ := h.1
    obtain ⟨a, vs, o, rfl, h1, h2, h3⟩ := rp_tqOk r
    exact ⟨a, o, vs, rfl, h1, h2⟩, M, ev, g1, _, Y, c.go hr s, h.2, fun vs ds g2 H2 hr2 s2 r2 h2 => ⟨M, d, ds, g2, R, hr2, r.go s2, r2, h2, k.go (s.trans s2)⟩, x.go s⟩, x⟩
theorem mj_countI (hu : X.A.units + 64 < cLine) (hK : X.K = K := by rfl) : MtR X "tuple.count" (lM K mCountI) := by
  subst hK
  intro pins s σ H x xs v us Q I rx rxs ⟨M, d, ds, g, R, hr, r, rs, q, k⟩
  obtain ⟨zs, ps, n, rfl, rfl, hp, hsh, q⟩ := q
  obtain ⟨a, vs, o, rfl, h1, h2, h3⟩ := rp_tqOk r
  obtain ⟨u, rfl, ru⟩ := rp1 rs
  cases ru
  obtain ⟨w', rfl, t', rfl⟩ := vals1 rxs
  cases rx
  obtain ⟨ho, hz, its, rv, o', ho', hcl, n', hdat⟩ := (show ObjOk X.prog X.w H s.heap a (.frz o (.tup vs)) from I.hok a _ h1)
  obtain ⟨as, ra⟩ := Dp.readsAll I ps vs its (h3.dp hp) rv
  refine SeqAt.count_tuple_data (vs := its.toArray) (xs := ps) (d := .int n) (as := as) (bs := []) ⟨o', ho', hcl, n', hdat⟩ (by simpa using ra) ?_ hsh rfl ?_ ?_
  · exact .int _ _
  · have : min (PyData.depthAll ps) (PyData.int n).depth = 0 := by show min _ 0 = 0; exact Nat.min_zero _
    omega
  · exact ⟨.int _, H, I.tok _, ⟨_, rfl⟩, ql_now hr k (.int _) q⟩
theorem call_sortedTI : CallR X (.builtin "sorted") (fun xs H Q => ∃ (a : Addr) (ns : List Int), xs = [.ref a] ∧ SqT X.K H a (ns.map V.int) ∧
    ∀ (ys : List Int) (p : Addr), ys.Perm ns → ys.Pairwise (· ≤ ·) → H p = none → Q (.ref p) (upd H p (.lst (ys.map V.int)))) := by
  intro pins s σ H xs us Q I r q
  obtain ⟨a, ns, ex, hd, q⟩ := q
  subst ex
  obtain ⟨u, eu, rx⟩ := vals1 r
  subst eu
  cases rx
  obtain ⟨its, rv, pl, hz⟩ := I.tuple hd
  obtain ⟨o, ho, hc, n, hdt⟩ := id pl
  have hl : its.length = ns.length := by
    have := rv.length
    rw [List.length_map] at this
    omega
  rw [List.length_map] at hz
  refine Calls.call_function_entry PyProof.Rows.kind_sorted PyProof.Rows.plain_sorted PyProof.Rows.entry_sorted (PyProof.Rows.args_sorted1 _) ?_
  unfold Builtin.«sorted»
  refine wpAny_bind (m := checkCount "sorted" 1 1 _) (wpAny_pure ?_)
  refine wpAny_bind (wpAny_collect_seq a (.inr rfl) ho hc hdt (fun h' hk => ?_) (by rw [List.size_toArray]; omega))
  have hS : IntsAre its ns := rv.ints
  have I1 : Inv X pins σ H { s with heap := h' } := I.kept (t' := s.toks) hk
  have hal2 : its.length ≤ sizeLine := by omega
  have eta : its.toArray.toList = its := by simp
  rw [eta]
  refine wpAny_bind (wpAny_newList ?_ hal2)
  have hoL : (h'.push (seqObj "list" its.toArray 0)).get? h'.objs.size = some (seqObj "list" its.toArray 0) := Heap.get?_push_size _ rfl
  show wpAny _ _ _ _ _ { s with heap := h'.push (seqObj "list" its.toArray 0) }
  refine wpAny_bind (wpAny_holding (wpAny_call_entry PyProof.Rows.slot_list_sort ⟨_, hoL, rfl⟩ PyProof.Rows.entry_list_sort
    (SrtO.list_sort_ord (s := { s with heap := h'.push (seqObj "list" its.toArray 0) }) SrtO.swo_int hoL hal2 (fun h2 => SrtO.ints_sortable hS h2) fun out h1 h2 => ⟨_, rfl, ?_⟩) (PyProof.Rows.args_list_sort _)))
  obtain ⟨g1, g2, g3⟩ := SrtO.ints_out hS h1 h2
  obtain ⟨e', he'⟩ := PyProof.Rows.sortedHeap_at (vs := its) (out := out.toArray) hoL
  have hlen : ((out.map SrtO.iv).map V.int).length ≤ sizeLine := by
    rw [List.length_map, g2.length_eq]
    exact hz
  refine wpAny_pure ⟨_, rfl, .ref h'.objs.size, upd H h'.objs.size (.lst ((out.map SrtO.iv).map V.int)), I1.laid (t' := s.toks) (fun b u e => ?_) (Nat.le_refl _)
    (show ObjOk X.prog X.w _ _ _ (.lst ((out.map SrtO.iv).map V.int)) from ⟨hlen, out, e', vals_of_ints g1, he'⟩), rfl, q _ _ g2 g3 (I1.hok.fresh (Nat.le_refl _))⟩
  have hb : b < h'.objs.size := Heap.lt_size e
  rw [PyProof.Rows.sortedHeap_old (Nat.ne_of_lt hb) (by rw [size_push']; exact Nat.lt_succ_of_lt hb)]
  exact Heap.get?_push_of_some _ e
theorem cj_sortT {n : Nw} (hn : NwOk n) (hK : X.K = K := by rfl) : CallR X (.builtin "sorted") (lC K (cSortT n)) := by
  subst hK
  refine ccm call_sortedTI fun vs H Q ⟨M, ds, g, R, hr, r, q, k⟩ => ?_
  unfold cSortT at q
  split at q
  next d =>
    obtain ⟨v, rfl, r0⟩ := rp1 r
    split at q
    next xs e =>
      obtain ⟨a, us, rfl, h1, h2⟩ := vw_tup r0 e
      obtain ⟨ns, rfl, q⟩ := q
      obtain rfl := rp_ints' h2
      exact ⟨a, ns, rfl, h1, fun ns' p hp hs hn' => hn _ _ _ _ _ _ _ _ hr hn' (ints_rp' _) (q ns' hp hs) k⟩
    next => exact q.elim
  next => exact q.elim
end
/-! ### tuple(range(a, b)), list(range(a, b)) -/
def rgI (a b : Int) : List Int := (List.range (b - a).toNat).map fun i => a + (i : Nat)
theorem rgI_V (a b : Int) : rgV a b = (rgI a b).map V.int := by unfold rgV rgI; rw [List.map_map]; rfl
def dTupRg (Da Db : DE) : DE := fun X ev g R => Da X ev g fun d g1 => Db X ev g1 fun e g2 => ∃ i j, d = .int i ∧ e = .int j ∧ RgOk i j ∧ R (.tup ((rgI i j).map Dv.int)) g2
def dLstRg (n : Nw) (Da Db : DE) : DE := fun X ev g R => Da X ev g fun d g1 => Db X ev g1 fun e g2 => ∃ i j, d = .int i ∧ e = .int j ∧ RgOk i j ∧ n ((rgI i j).map Dv.int) g2 R
section
variable {X : Cx} {W : WX} {K : PySem.W.Frag} {a b : Expr} {Da Db : DE} {p p2 pos pos2 : Pos}
theorem de_tupRg (hc : X.calm = true) (hg : Gl X "tuple") (hm : X.mg "tuple" = none) (hg2 : Gl X "range") (hm2 : X.mg "range" = none) (ha : PE X a (lE K W Da)) (hb : PE X b (lE K W Db)) (na : starEach [a, b] X.env = (false, eval a X.env) :: starEach [b] X.env := by rfl)
    (nb : starEach [b] X.env = (false, eval b X.env) :: starEach [] X.env := by rfl) (hp : (backTo pos2 (starEach [b] X.env)).any (·.1) = false := by rfl)
    (nc : starEach [.Call (.Name "range" p2) [a, b] [] pos2] X.env = (false, eval (.Call (.Name "range" p2) [a, b] [] pos2) X.env) :: starEach [] X.env := by rfl) :
    PE X (.Call (.Name "tuple" p) [.Call (.Name "range" p2) [a, b] [] pos2] [] pos) (lE K W (dTupRg Da Db)) :=
  pem (pe_tupRg hc hg hm (prg_2 hg2 hm2 ha hb na nb hp) nc) fun σ H Q ⟨M, ev, g, R, Y, c, d, q, x⟩ => ⟨M, ev, g, _, Y, c, d, fun v d1 g1 H1 hr s r k => ⟨M, ev, g1, _, Y, c.go hr s, k, fun u e g2 H2 hr2 s2 r2 h => by
    obtain ⟨i, j, rfl, rfl, ok, h⟩ := h
    cases r
    cases r2
    refine ⟨i, j, rfl, rfl, ok, fun p hp => ?_⟩
    rw [rgI_V]
    exact nT_ok hr2 hp (ints_rp' _) h (q.go (s.trans s2)), x.go s⟩, x⟩
theorem de_lstRg {n : Nw} (hc : X.calm = true) (hn : NwOk n) (hg : Gl X "list") (hm : X.mg "list" = none) (hg2 : Gl X "range") (hm2 : X.mg "range" = none) (ha : PE X a (lE K W Da)) (hb : PE X b (lE K W Db)) (na : starEach [a, b] X.env = (false, eval a X.env) :: starEach [b] X.env := by rfl)
    (nb : starEach [b] X.env = (false, eval b X.env) :: starEach [] X.env := by rfl) (hp : (backTo pos2 (starEach [b] X.env)).any (·.1) = false := by rfl)
    (nc : starEach [.Call (.Name "range" p2) [a, b] [] pos2] X.env = (false, eval (.Call (.Name "range" p2) [a, b] [] pos2) X.env) :: starEach [] X.env := by rfl) :
    PE X (.Call (.Name "list" p) [.Call (.Name "range" p2) [a, b] [] pos2] [] pos) (lE K W (dLstRg n Da Db)) :=
  pem (pe_listRg hc hg hm (prg_2 hg2 hm2 ha hb na nb hp) nc) fun σ H Q ⟨M, ev, g, R, Y, c, d, q, x⟩ => ⟨M, ev, g, _, Y, c, d, fun v d1 g1 H1 hr s r k => ⟨M, ev, g1, _, Y, c.go hr s, k, fun u e g2 H2 hr2 s2 r2 h => by
    obtain ⟨i, j, rfl, rfl, ok, h⟩ := h
    cases r
    cases r2
    refine ⟨i, j, rfl, rfl, ok, fun p hp => ?_⟩
    rw [rgI_V]
    exact hn _ _ _ _ _ _ _ _ hr2 hp (ints_rp' _) h (q.go (s.trans s2)), x.go s⟩, x⟩
end
/-! ### readings -/
section
variable {g : Ah} {R : DQ} {d : Dv} {xs ys : List Dv} {ns : List Int} {n : Nw} {lo hi : Option Int}
theorem r_slQ (h : R (.tq (cutX xs lo hi)) g) : qSlQ (.tq xs) lo hi g R := h
theorem r_slQT (hw : ¬ (HT.sIx xs.length 0 lo = 0 ∧ HT.sIx xs.length xs.length hi = xs.length)) (h : R (.tq (cutX xs lo hi)) g) : qSlQ (.tup xs) lo hi g R := ⟨hw, h⟩
theorem r_addQ (hz : xs.length + ys.length ≤ 100000) (h : R (.tq (xs ++ ys)) g) : qAddQ (.tq xs) (.tq ys) g R := ⟨szL hz, h⟩
theorem r_isTq {A : Prop} (k : A) : isTq g (.tq xs) ∧ A := ⟨⟨xs, rfl⟩, k⟩
theorem r_countI {ps : List PyData} {k : Int} (e : pds xs = some ps) (hp : PyData.plainAll ps = true) (h : R (.int ((ps.countP fun z => PyData.eqv z (.int k) : Nat) : Int)) g) : mCountI (.tq xs) [.int k] g R := ⟨xs, ps, k, rfl, rfl, e, hp, h⟩
theorem r_sortTI (e : vw g d = .tup (ns.map Dv.int)) (h : ∀ ns' : List Int, ns'.Perm ns → ns'.Pairwise (· ≤ ·) → n (ns'.map Dv.int) g R) : cSortT n [d] g R := by
  unfold cSortT
  simp only [e]
  exact ⟨ns, rfl, h⟩
end
def top (i : Nat) : Stmt := PySem.Challenge.pw_steadwhole_k80_headers_and_certificates.main.body.getD i (.Pass ⟨0, 0, 0, 0⟩)
abbrev s_is_within : Stmt := top 6
abbrev s_is_plain : Stmt := top 7
abbrev s_Pen__init_ : Stmt := inClass (top 8) 0
abbrev s_Pen_seal : Stmt := inClass (top 8) 1
abbrev s_Registry__init_ : Stmt := inClass (top 9) 0
abbrev s_Registry_name : Stmt := inClass (top 9) 1
abbrev s_Registry_pen : Stmt := inClass (top 9) 2
abbrev s_Registry_note_seal : Stmt := inClass (top 9) 3
abbrev s_Registry_is_sealed : Stmt := inClass (top 9) 4
abbrev s_is_count : Stmt := top 11
abbrev s_is_row_of : Stmt := top 12
abbrev s_are_owners : Stmt := top 15
abbrev s_is_natural : Stmt := top 16
abbrev s_is_header : Stmt := top 17
abbrev s_quorum : Stmt := top 18
abbrev s_is_certificate : Stmt := top 19
abbrev s_law_next : Stmt := top 21
abbrev s_law_owners : Stmt := top 22
abbrev s_law_with : Stmt := top 23
abbrev s_law_header : Stmt := top 24
abbrev s_law_bad_headers : Stmt := top 25
abbrev s_law_forms : Stmt := top 26
abbrev s_law_sealed : Stmt := top 27
abbrev s_law_asked : Stmt := top 28
abbrev s_law_wrong : Stmt := top 29
abbrev s_law : Stmt := top 30
abbrev nm_is_within : List Str := ["value", "most", "todo", "part", "depth", "each"]
abbrev pm_is_within : List Str := ["value", "most"]
theorem sc_is_within : FnScope nm_is_within pm_is_within (defScope s_is_within) := ⟨rfl, rfl, rfl, by decide +kernel, rfl, by decide +kernel, by decide +kernel⟩
theorem bd_is_within : BindAll "is_within" "is_within" s_is_within pm_is_within := fun _ _ _ _ _ _ us hl => match us, hl with | [_, _], _ => rfl
abbrev nm_is_plain : List Str := ["value"]
abbrev pm_is_plain : List Str := ["value"]
theorem sc_is_plain : FnScope nm_is_plain pm_is_plain (defScope s_is_plain) := ⟨rfl, rfl, rfl, by decide +kernel, rfl, by decide +kernel, by decide +kernel⟩
theorem bd_is_plain : BindAll "is_plain" "is_plain" s_is_plain pm_is_plain := fun _ _ _ _ _ _ us hl => match us, hl with | [_], _ => rfl
abbrev nm_Pen__init_ : List Str := ["self", "owner", "registry"]
abbrev pm_Pen__init_ : List Str := ["self", "owner", "registry"]
theorem sc_Pen__init_ : FnScope nm_Pen__init_ pm_Pen__init_ (defScope s_Pen__init_) := ⟨rfl, rfl, rfl, by decide +kernel, rfl, by decide +kernel, by decide +kernel⟩
theorem bd_Pen__init_ : BindAll "__init__" "Pen.__init__" s_Pen__init_ pm_Pen__init_ := fun _ _ _ _ _ _ us hl => match us, hl with | [_, _, _], _ => rfl
abbrev nm_Pen_seal : List Str := ["self", "body"]
abbrev pm_Pen_seal : List Str := ["self", "body"]
theorem sc_Pen_seal : FnScope nm_Pen_seal pm_Pen_seal (defScope s_Pen_seal) := ⟨rfl, rfl, rfl, by decide +kernel, rfl, by decide +kernel, by decide +kernel⟩
theorem bd_Pen_seal : BindAll "seal" "Pen.seal" s_Pen_seal pm_Pen_seal := fun _ _ _ _ _ _ us hl => match us, hl with | [_, _], _ => rfl
abbrev nm_Registry__init_ : List Str := ["self"]
abbrev pm_Registry__init_ : List Str := ["self"]
theorem sc_Registry__init_ : FnScope nm_Registry__init_ pm_Registry__init_ (defScope s_Registry__init_) := ⟨rfl, rfl, rfl, by decide +kernel, rfl, by decide +kernel, by decide +kernel⟩
theorem bd_Registry__init_ : BindAll "__init__" "Registry.__init__" s_Registry__init_ pm_Registry__init_ := fun _ _ _ _ _ _ us hl => match us, hl with | [_], _ => rfl
abbrev nm_Registry_name : List Str := ["self", "value", "text"]
abbrev pm_Registry_name : List Str := ["self", "value"]
theorem sc_Registry_name : FnScope nm_Registry_name pm_Registry_name (defScope s_Registry_name) := ⟨rfl, rfl, rfl, by decide +kernel, rfl, by decide +kernel, by decide +kernel⟩
theorem bd_Registry_name : BindAll "name" "Registry.name" s_Registry_name pm_Registry_name := fun _ _ _ _ _ _ us hl => match us, hl with | [_, _], _ => rfl
abbrev nm_Registry_pen : List Str := ["self", "owner"]
abbrev pm_Registry_pen : List Str := ["self", "owner"]
theorem sc_Registry_pen : FnScope nm_Registry_pen pm_Registry_pen (defScope s_Registry_pen) := ⟨rfl, rfl, rfl, by decide +kernel, rfl, by decide +kernel, by decide +kernel⟩
theorem bd_Registry_pen : BindAll "pen" "Registry.pen" s_Registry_pen pm_Registry_pen := fun _ _ _ _ _ _ us hl => match us, hl with | [_, _], _ => rfl
abbrev nm_Registry_note_seal : List Str := ["self", "owner", "value"]
abbrev pm_Registry_note_seal : List Str := ["self", "owner", "value"]
theorem sc_Registry_note_seal : FnScope nm_Registry_note_seal pm_Registry_note_seal (defScope s_Registry_note_seal) := ⟨rfl, rfl, rfl, by decide +kernel, rfl, by decide +kernel, by decide +kernel⟩
theorem bd_Registry_note_seal : BindAll "note_seal" "Registry.note_seal" s_Registry_note_seal pm_Registry_note_seal := fun _ _ _ _ _ _ us hl => match us, hl with | [_, _, _], _ => rfl
abbrev nm_Registry_is_sealed : List Str := ["self", "owner", "value"]
abbrev pm_Registry_is_sealed : List Str := ["self", "owner", "value"]
theorem sc_Registry_is_sealed : FnScope nm_Registry_is_sealed pm_Registry_is_sealed (defScope s_Registry_is_sealed) := ⟨rfl, rfl, rfl, by decide +kernel, rfl, by decide +kernel, by decide +kernel⟩
theorem bd_Registry_is_sealed : BindAll "is_sealed" "Registry.is_sealed" s_Registry_is_sealed pm_Registry_is_sealed := fun _ _ _ _ _ _ us hl => match us, hl with | [_, _, _], _ => rfl
abbrev nm_is_count : List Str := ["value", "low", "high"]
abbrev pm_is_count : List Str := ["value", "low", "high"]
theorem sc_is_count : FnScope nm_is_count pm_is_count (defScope s_is_count) := ⟨rfl, rfl, rfl, by decide +kernel, rfl, by decide +kernel, by decide +kernel⟩
theorem bd_is_count : BindAll "is_count" "is_count" s_is_count pm_is_count := fun _ _ _ _ _ _ us hl => match us, hl with | [_, _, _], _ => rfl
abbrev nm_is_row_of : List Str := ["value", "low", "high"]
abbrev pm_is_row_of : List Str := ["value", "low", "high"]
theorem sc_is_row_of : FnScope nm_is_row_of pm_is_row_of (defScope s_is_row_of) := ⟨rfl, rfl, rfl, by decide +kernel, rfl, by decide +kernel, by decide +kernel⟩
theorem bd_is_row_of : BindAll "is_row_of" "is_row_of" s_is_row_of pm_is_row_of := fun _ _ _ _ _ _ us hl => match us, hl with | [_, _, _], _ => rfl
abbrev nm_are_owners : List Str := ["value", "owner"]
abbrev pm_are_owners : List Str := ["value"]
theorem sc_are_owners : FnScope nm_are_owners pm_are_owners (defScope s_are_owners) := ⟨rfl, rfl, rfl, by decide +kernel, rfl, by decide +kernel, by decide +kernel⟩
theorem bd_are_owners : BindAll "are_owners" "are_owners" s_are_owners pm_are_owners := fun _ _ _ _ _ _ us hl => match us, hl with | [_], _ => rfl
abbrev nm_is_natural : List Str := ["value"]
abbrev pm_is_natural : List Str := ["value"]
theorem sc_is_natural : FnScope nm_is_natural pm_is_natural (defScope s_is_natural) := ⟨rfl, rfl, rfl, by decide +kernel, rfl, by decide +kernel, by decide +kernel⟩
theorem bd_is_natural : BindAll "is_natural" "is_natural" s_is_natural pm_is_natural := fun _ _ _ _ _ _ us hl => match us, hl with | [_], _ => rfl
abbrev nm_is_header : List Str := ["value", "part"]
abbrev pm_is_header : List Str := ["value"]
theorem sc_is_header : FnScope nm_is_header pm_is_header (defScope s_is_header) := ⟨rfl, rfl, rfl, by decide +kernel, rfl, by decide +kernel, by decide +kernel⟩
theorem bd_is_header : BindAll "is_header" "is_header" s_is_header pm_is_header := fun _ _ _ _ _ _ us hl => match us, hl with | [_], _ => rfl
abbrev nm_quorum : List Str := ["owners"]
abbrev pm_quorum : List Str := ["owners"]
theorem sc_quorum : FnScope nm_quorum pm_quorum (defScope s_quorum) := ⟨rfl, rfl, rfl, by decide +kernel, rfl, by decide +kernel, by decide +kernel⟩
theorem bd_quorum : BindAll "quorum" "quorum" s_quorum pm_quorum := fun _ _ _ _ _ _ us hl => match us, hl with | [_], _ => rfl
abbrev nm_is_certificate : List Str := ["registry", "value", "header", "owners", "_", "number", "sealers", "body", "last", "sealer"]
abbrev pm_is_certificate : List Str := ["registry", "value", "header", "owners"]
theorem sc_is_certificate : FnScope nm_is_certificate pm_is_certificate (defScope s_is_certificate) := ⟨rfl, rfl, rfl, by decide +kernel, rfl, by decide +kernel, by decide +kernel⟩
theorem bd_is_certificate : BindAll "is_certificate" "is_certificate" s_is_certificate pm_is_certificate := fun _ _ _ _ _ _ us hl => match us, hl with | [_, _, _, _], _ => rfl
abbrev nm_law_next : List Str := ["state", "limit", "cell", "value"]
abbrev pm_law_next : List Str := ["state", "limit"]
theorem sc_law_next : FnScope nm_law_next pm_law_next (defScope s_law_next) := ⟨rfl, rfl, rfl, by decide +kernel, rfl, by decide +kernel, by decide +kernel⟩
theorem bd_law_next : BindAll "_law_next" "_law_next" s_law_next pm_law_next := fun _ _ _ _ _ _ us hl => match us, hl with | [_, _], _ => rfl
abbrev nm_law_owners : List Str := ["state", "count", "start", "step", "owners", "place", "turn"]
abbrev pm_law_owners : List Str := ["state"]
theorem sc_law_owners : FnScope nm_law_owners pm_law_owners (defScope s_law_owners) := ⟨rfl, rfl, rfl, by decide +kernel, rfl, by decide +kernel, by decide +kernel⟩
theorem bd_law_owners : BindAll "_law_owners" "_law_owners" s_law_owners pm_law_owners := fun _ _ _ _ _ _ us hl => match us, hl with | [_], _ => rfl
abbrev nm_law_with : List Str := ["value", "index", "part"]
abbrev pm_law_with : List Str := ["value", "index", "part"]
theorem sc_law_with : FnScope nm_law_with pm_law_with (defScope s_law_with) := ⟨rfl, rfl, rfl, by decide +kernel, rfl, by decide +kernel, by decide +kernel⟩
theorem bd_law_with : BindAll "_law_with" "_law_with" s_law_with pm_law_with := fun _ _ _ _ _ _ us hl => match us, hl with | [_, _, _], _ => rfl
abbrev nm_law_header : List Str := ["state", "owners", "parts", "k"]
abbrev pm_law_header : List Str := ["state", "owners"]
theorem sc_law_header : FnScope nm_law_header pm_law_header (defScope s_law_header) := ⟨rfl, rfl, rfl, by decide +kernel, rfl, by decide +kernel, by decide +kernel⟩
theorem bd_law_header : BindAll "_law_header" "_law_header" s_law_header pm_law_header := fun _ _ _ _ _ _ us hl => match us, hl with | [_, _], _ => rfl
abbrev nm_law_bad_headers : List Str := ["state", "header", "owners", "bad", "index", "part", "place", "owner", "few", "other"]
abbrev pm_law_bad_headers : List Str := ["state", "header"]
theorem sc_law_bad_headers : FnScope nm_law_bad_headers pm_law_bad_headers (defScope s_law_bad_headers) := ⟨rfl, rfl, rfl, by decide +kernel, rfl, by decide +kernel, by decide +kernel⟩
theorem bd_law_bad_headers : BindAll "_law_bad_headers" "_law_bad_headers" s_law_bad_headers pm_law_bad_headers := fun _ _ _ _ _ _ us hl => match us, hl with | [_, _], _ => rfl
abbrev nm_law_forms : List Str := ["state", "header", "bad"]
abbrev pm_law_forms : List Str := ["state", "header"]
theorem sc_law_forms : FnScope nm_law_forms pm_law_forms (defScope s_law_forms) := ⟨rfl, rfl, rfl, by decide +kernel, rfl, by decide +kernel, by decide +kernel⟩
theorem bd_law_forms : BindAll "_law_forms" "_law_forms" s_law_forms pm_law_forms := fun _ _ _ _ _ _ us hl => match us, hl with | [_, _], _ => rfl
abbrev nm_law_sealed : List Str := ["state", "registry", "header", "number", "owners", "body", "others", "sealers", "pens", "owner", "pen", "pick"]
abbrev pm_law_sealed : List Str := ["state", "registry", "header", "number"]
theorem sc_law_sealed : FnScope nm_law_sealed pm_law_sealed (defScope s_law_sealed) := ⟨rfl, rfl, rfl, by decide +kernel, rfl, by decide +kernel, by decide +kernel⟩
theorem bd_law_sealed : BindAll "_law_sealed" "_law_sealed" s_law_sealed pm_law_sealed := fun _ _ _ _ _ _ us hl => match us, hl with | [_, _, _, _], _ => rfl
abbrev nm_law_asked : List Str := ["registry", "header", "number", "sealers"]
abbrev pm_law_asked : List Str := ["registry", "header", "number", "sealers"]
theorem sc_law_asked : FnScope nm_law_asked pm_law_asked (defScope s_law_asked) := ⟨rfl, rfl, rfl, by decide +kernel, rfl, by decide +kernel, by decide +kernel⟩
theorem bd_law_asked : BindAll "_law_asked" "_law_asked" s_law_asked pm_law_asked := fun _ _ _ _ _ _ us hl => match us, hl with | [_, _, _, _], _ => rfl
abbrev nm_law_wrong : List Str := ["state", "registry", "header", "number", "sealers", "stranger", "owners", "unsealed", "owner", "rows", "row", "right", "bad", "value", "other"]
abbrev pm_law_wrong : List Str := ["state", "registry", "header", "number", "sealers", "stranger"]
theorem sc_law_wrong : FnScope nm_law_wrong pm_law_wrong (defScope s_law_wrong) := ⟨rfl, rfl, rfl, by decide +kernel, rfl, by decide +kernel, by decide +kernel⟩
theorem bd_law_wrong : BindAll "_law_wrong" "_law_wrong" s_law_wrong pm_law_wrong := fun _ _ _ _ _ _ us hl => match us, hl with | [_, _, _, _, _, _], _ => rfl
abbrev nm_law : List Str := ["script", "state", "owners", "header", "registry", "number", "pens", "body", "sealers", "owner", "some", "stranger", "other"]
abbrev pm_law : List Str := ["script"]
theorem sc_law : FnScope nm_law pm_law (defScope s_law) := ⟨rfl, rfl, rfl, by decide +kernel, rfl, by decide +kernel, by decide +kernel⟩
theorem bd_law : BindAll "law" "law" s_law pm_law := fun _ _ _ _ _ _ us hl => match us, hl with | [_], _ => rfl
/-- what the top has left -/
structure Txt (K : PySem.W.Frag) (mg : Str → Option Value) : Prop where
  f_is_within : GFun K mg "is_within" s_is_within
  f_is_plain : GFun K mg "is_plain" s_is_plain
  f_Pen__init_ : GMak K mg "Pen" (He.ga K "Pen") "Pen.__init__" s_Pen__init_
  f_Pen_seal : GMet K (He.ga K "Pen") "seal" "Pen.seal" s_Pen_seal
  f_Registry__init_ : GMak K mg "Registry" (He.ga K "Registry") "Registry.__init__" s_Registry__init_
  f_Registry_name : GMet K (He.ga K "Registry") "name" "Registry.name" s_Registry_name
  f_Registry_pen : GMet K (He.ga K "Registry") "pen" "Registry.pen" s_Registry_pen
  f_Registry_note_seal : GMet K (He.ga K "Registry") "note_seal" "Registry.note_seal" s_Registry_note_seal
  f_Registry_is_sealed : GMet K (He.ga K "Registry") "is_sealed" "Registry.is_sealed" s_Registry_is_sealed
  f_is_count : GFun K mg "is_count" s_is_count
  f_is_row_of : GFun K mg "is_row_of" s_is_row_of
  f_are_owners : GFun K mg "are_owners" s_are_owners
  f_is_natural : GFun K mg "is_natural" s_is_natural
  f_is_header : GFun K mg "is_header" s_is_header
  f_quorum : GFun K mg "quorum" s_quorum
  f_is_certificate : GFun K mg "is_certificate" s_is_certificate
  f_law_next : GFun K mg "_law_next" s_law_next
  f_law_owners : GFun K mg "_law_owners" s_law_owners
  f_law_with : GFun K mg "_law_with" s_law_with
  f_law_header : GFun K mg "_law_header" s_law_header
  f_law_bad_headers : GFun K mg "_law_bad_headers" s_law_bad_headers
  f_law_forms : GFun K mg "_law_forms" s_law_forms
  f_law_sealed : GFun K mg "_law_sealed" s_law_sealed
  f_law_asked : GFun K mg "_law_asked" s_law_asked
  f_law_wrong : GFun K mg "_law_wrong" s_law_wrong
  f_law : GFun K mg "law" s_law
  g_MOST_DEEP : ∃ u, mg "MOST_DEEP" = some u ∧ RelV (.int 30) u
  g_MOST_INTEGER : ∃ u, mg "MOST_INTEGER" = some u ∧ RelV (.int 1000000000000000000000000000000000000000000000000000000000000) u
  g_MOST_OWNER : ∃ u, mg "MOST_OWNER" = some u ∧ RelV (.int 999) u
  z_ValueError : mg "ValueError" = none
  z_abs : mg "abs" = none
  z_bool : mg "bool" = none
  z_int : mg "int" = none
  z_isinstance : mg "isinstance" = none
  z_len : mg "len" = none
  z_list : mg "list" = none
  z_range : mg "range" = none
  z_repr : mg "repr" = none
  z_sorted : mg "sorted" = none
  z_str : mg "str" = none
  z_tuple : mg "tuple" = none
  g_TrothError : mg "TrothError" = some (.ref (He.ga K "TrothError"))
  g_InvalidArgument : mg "InvalidArgument" = some (.ref (He.ga K "InvalidArgument"))
  g_Pen : mg "Pen" = some (.ref (He.ga K "Pen"))
  c_Pen : Cls K (He.ga K "Pen")
  n_Pen_owner : NoAttr K (He.ga K "Pen") "owner"
  n_Pen_registry : NoAttr K (He.ga K "Pen") "_registry"
  g_Registry : mg "Registry" = some (.ref (He.ga K "Registry"))
  c_Registry : Cls K (He.ga K "Registry")
  n_Registry_names : NoAttr K (He.ga K "Registry") "_names"
  n_Registry_pens : NoAttr K (He.ga K "Registry") "_pens"
  n_Registry_seals : NoAttr K (He.ga K "Registry") "_seals"
  x_TrothError : PySem.W.excIn K (He.ga K "TrothError") He.veBase "ValueError.__new__" = true ∧ PySem.W.keepIn K (.ref (He.ga K "TrothError")) = true ∧ PySem.W.subIn K (.ref (He.ga K "TrothError")) (.type "BaseException") = some true ∧ PySem.W.typeIn K (.ref (He.ga K "TrothError")) = some (.type "type")
  xc_TrothError : ExcC K (He.ga K "TrothError")
  kv_TrothError : PySem.W.kitOne K (.ref (He.ga K "TrothError")) (.type "ValueError") = some true
  e_TrothError_TrothError : PySem.W.exmOne K (.ref (He.ga K "TrothError")) (.ref (He.ga K "TrothError")) = some true
  k_TrothError_TrothError : PySem.W.kitOne K (.ref (He.ga K "TrothError")) (.ref (He.ga K "TrothError")) = some true
  e_TrothError_InvalidArgument : PySem.W.exmOne K (.ref (He.ga K "TrothError")) (.ref (He.ga K "InvalidArgument")) = some false
  k_TrothError_InvalidArgument : PySem.W.kitOne K (.ref (He.ga K "TrothError")) (.ref (He.ga K "InvalidArgument")) = some false
  x_InvalidArgument : PySem.W.excIn K (He.ga K "InvalidArgument") He.veBase "ValueError.__new__" = true ∧ PySem.W.keepIn K (.ref (He.ga K "InvalidArgument")) = true ∧ PySem.W.subIn K (.ref (He.ga K "InvalidArgument")) (.type "BaseException") = some true ∧ PySem.W.typeIn K (.ref (He.ga K "InvalidArgument")) = some (.type "type")
  xc_InvalidArgument : ExcC K (He.ga K "InvalidArgument")
  kv_InvalidArgument : PySem.W.kitOne K (.ref (He.ga K "InvalidArgument")) (.type "ValueError") = some true
  e_InvalidArgument_TrothError : PySem.W.exmOne K (.ref (He.ga K "InvalidArgument")) (.ref (He.ga K "TrothError")) = some true
  k_InvalidArgument_TrothError : PySem.W.kitOne K (.ref (He.ga K "InvalidArgument")) (.ref (He.ga K "TrothError")) = some true
  e_InvalidArgument_InvalidArgument : PySem.W.exmOne K (.ref (He.ga K "InvalidArgument")) (.ref (He.ga K "InvalidArgument")) = some true
  k_InvalidArgument_InvalidArgument : PySem.W.kitOne K (.ref (He.ga K "InvalidArgument")) (.ref (He.ga K "InvalidArgument")) = some true
def B_is_within (K : PySem.W.Frag) : DS :=
    (sSeq (sAsg (dLst nM (dCons (dTup (dCons (dVar 0) (dCons (dC (.int 0)) dNil))) dNil)) (gNm 2))
    (sSeq (sWh (dTru (dVar 2)) (sSeq (sAsg (dMt isL mPop (dVar 2) dNil) (gTp 2 (gCo (gNm 3) (gCo (gNm 4) gNi))))
    (sIf (dTru (dB cIsi (dCons (dVar 3) (dCons (dC (.ty "tuple")) dNil)))) (sSeq (sIf (dTst (dOp (qLt false true) (dVar 4) (dVar 1))) (sRet (dC (.bl false))) sNx)
    (sDrop (dMt isL mExtend (dVar 2) (dCons (dLc nF [5] (diSeq (dVar 3)) (tN 5) dtYes (dTup (dCons (dVar 5) (dCons (dOp (qAdd nF) (dVar 4) (dC (.int 1))) dNil)))) dNil)))) (sIf (dTru (dB cIsi (dCons (dVar 3) (dCons (dC (.ty "int")) dNil)))) (sIf (dTst (dOp (qLt false true) (dB cAbs (dCons (dVar 3) dNil)) (dC (.int 1000000000000000000000000000000000000000000000000000000000000)))) (sRet (dC (.bl false))) sNx) (sIf (dtAnd (dTst (dOp (qIs false) (dVar 3) (dC .non))) (dtNot (dTru (dB cIsi (dCons (dVar 3) (dCons (dC (.ty "str")) dNil)))))) (sRet (dC (.bl false))) sNx)))))
    (sRet (dC (.bl true)))))
def D_is_within (K : PySem.W.Frag) : FD := dFun 2 4 (B_is_within K)
theorem U_is_within {K : PySem.W.Frag} {x0 x1 : Dv} {g : Ah} {R : DQ} {Y : Xc} (h : B_is_within K ⟨fun _ g => R .non g, R, fun _ _ => False, fun _ _ => False, fun x _ g => Y x g⟩ [some x0, some x1, none, none, none, none] g) : D_is_within K [x0, x1] g R Y := ⟨rfl, h⟩
theorem ok_is_within {P : Program} {w : World} {K : PySem.W.Frag} {mg : Str → Option Value} {base : Heap} (T : Txt K mg) : CalD P w K mg base 1 "is_within" (D_is_within K) :=
  T.f_is_within.calD sc_is_within bd_is_within rfl fun f cdv A outer s H E b =>
    (ds_cons (ds_set (i := 2) sc_is_within.nd rfl (Or.inl rfl) (de_lst nM_ok (da_cons (de_tup (da_cons (de_var (pv 0)) (da_cons (de_int pe_int) da_nil))) da_nil)))
    (ds_cons (ds_wh b.po (dt_tru (de_var (pv 2)) (by intro _; rfl)) (ds_cons (ds_asg (de_mt0 PySem.F.plainAttrs_list PySem.F.slot_list_pop PySem.F.type_list_pop (mj_pop K) (ty_lst K) (de_var (pv 2))) (dg_tp (n := 2) b.calm (dgs_cons (dg_nm (pg_name (i := 3) sc_is_within.nd rfl (Or.inl rfl))) (dgs_cons (dg_nm (pg_name (i := 4) sc_is_within.nd rfl (Or.inr rfl))) dgs_nil))))
    (ds_one (ds_if (dt_tru (de_cb (cj_isi K) (by rfl) T.z_isinstance (by decide +kernel) (da_cons (de_var (pv 3)) (da_cons (de_ty (pe_bltn (v := .ty "tuple") (by rfl) T.z_tuple (by decide +kernel) rfl)) da_nil))) (by intro _; rfl)) (ds_cons (ds_if (dt_cmp (oj_ge K) (de_var (pv 4)) (de_var (pv 1)) (nomark _)) (ds_one (ds_ret (de_bl pe_bl))) ds_nil)
    (ds_one (ds_drop (de_mt PySem.F.plainAttrs_list PySem.F.slot_list_extend PySem.F.type_list_extend (mj_extend K) (ty_lst K) (de_var (pv 2)) (da_cons (de_lc (own := [("each", 5)]) b.calm nF_ok sc_is_within.nd (di_seq (de_var (pv 3))) (blkOk_by (own := [("each", 5)]) (N := nm_is_within) (sc := defScope s_is_within) (by decide +kernel)) lt_n (fun _ _ _ _ _ => pg_name (i := 5) sc_is_within.nd rfl (Or.inl rfl)) (fun _ _ _ _ _ => dts_nil) (fun _ _ _ _ _ => (de_tup (da_cons (de_var (pv 5)) (da_cons (de_op (oj_add K nF_ok) (de_var (pv 4)) (de_int pe_int)) da_nil))))) da_nil))))) (ds_one (ds_if (dt_tru (de_cb (cj_isi K) (by rfl) T.z_isinstance (by decide +kernel) (da_cons (de_var (pv 3)) (da_cons (de_ty (pe_bltn (v := .ty "int") (by rfl) T.z_int (by decide +kernel) rfl)) da_nil))) (by intro _; rfl)) (ds_one (ds_if (dt_cmp (oj_ge K) (de_cb (cj_abs K) (by rfl) T.z_abs (by decide +kernel) (da_cons (de_var (pv 3)) da_nil)) (de_int (pe_gc (by rfl) T.g_MOST_INTEGER)) (nomark _)) (ds_one (ds_ret (de_bl pe_bl))) ds_nil)) (ds_one (ds_if (PW.pt (dw_and (dt_cmp (oj_isnot K) (de_var (pv 3)) (de_non pe_non) (nomark _)) (dw_and1 (dt_not (dt_tru (de_cb (cj_isi K) (by rfl) T.z_isinstance (by decide +kernel) (da_cons (de_var (pv 3)) (da_cons (de_ty (pe_bltn (v := .ty "str") (by rfl) T.z_str (by decide +kernel) rfl)) da_nil))) (by intro _; rfl)))))) (ds_one (ds_ret (de_bl pe_bl))) ds_nil))))))))
    (ds_one (ds_ret (de_bl pe_bl)))))
def B_is_plain (K : PySem.W.Frag) : DS :=
    (sRet (dCall (D_is_within K) (dCons (dVar 0) (dCons (dC (.int 30)) dNil))))
def D_is_plain (K : PySem.W.Frag) : FD := dFun 1 0 (B_is_plain K)
theorem U_is_plain {K : PySem.W.Frag} {x0 : Dv} {g : Ah} {R : DQ} {Y : Xc} (h : B_is_plain K ⟨fun _ g => R .non g, R, fun _ _ => False, fun _ _ => False, fun x _ g => Y x g⟩ [some x0] g) : D_is_plain K [x0] g R Y := ⟨rfl, h⟩
theorem ok_is_plain {P : Program} {w : World} {K : PySem.W.Frag} {mg : Str → Option Value} {base : Heap} (T : Txt K mg) : CalD P w K mg base 2 "is_plain" (D_is_plain K) :=
  T.f_is_plain.calD sc_is_plain bd_is_plain rfl fun f cdv A outer s H E b =>
    (ds_one (ds_ret (de_call b (ok_is_within T) (by decide) rfl (da_cons (de_var (pv 0)) (da_cons (de_int (pe_gc (by rfl) T.g_MOST_DEEP)) da_nil)))))
def B_Pen__init_ (K : PySem.W.Frag) : DS :=
    (sSeq (sFl (fun C => C = He.ga K "Pen") (dVar 0) (dVar 1) "owner")
    (sFl (fun C => C = He.ga K "Pen") (dVar 0) (dVar 2) "_registry"))
def D_Pen__init_ (K : PySem.W.Frag) : FD := dFun 3 0 (B_Pen__init_ K)
theorem U_Pen__init_ {K : PySem.W.Frag} {x0 x1 x2 : Dv} {g : Ah} {R : DQ} {Y : Xc} (h : B_Pen__init_ K ⟨fun _ g => R .non g, R, fun _ _ => False, fun _ _ => False, fun x _ g => Y x g⟩ [some x0, some x1, some x2] g) : D_Pen__init_ K [x0, x1, x2] g R Y := ⟨rfl, h⟩
theorem ok_Pen__init_ {P : Program} {w : World} {K : PySem.W.Frag} {mg : Str → Option Value} {base : Heap} (T : Txt K mg) : MakD P w K mg base 1 "Pen" (He.ga K "Pen") (D_Pen__init_ K) :=
  T.f_Pen__init_.makD sc_Pen__init_ bd_Pen__init_ rfl fun f cdv A outer s H E b =>
    (ds_cons (ds_fl (P' := (fun C => C = He.ga K "Pen")) (fun C h => by subst h; exact ⟨T.c_Pen, T.n_Pen_owner⟩) (de_var (pv 0)) (de_var (pv 1)))
    (ds_one (ds_fl (P' := (fun C => C = He.ga K "Pen")) (fun C h => by subst h; exact ⟨T.c_Pen, T.n_Pen_registry⟩) (de_var (pv 0)) (de_var (pv 2)))))
def B_Registry_note_seal (K : PySem.W.Frag) : DS :=
    (sAsg (dC (.bl true)) (gSb (dFld (fun C => C = He.ga K "Registry") (dVar 0) "_seals") (dTup (dCons (dB cRepr (dCons (dVar 1) dNil)) (dCons (dB cRepr (dCons (dVar 2) dNil)) dNil)))))
def D_Registry_note_seal (K : PySem.W.Frag) : FD := dFun 3 0 (B_Registry_note_seal K)
theorem U_Registry_note_seal {K : PySem.W.Frag} {x0 x1 x2 : Dv} {g : Ah} {R : DQ} {Y : Xc} (h : B_Registry_note_seal K ⟨fun _ g => R .non g, R, fun _ _ => False, fun _ _ => False, fun x _ g => Y x g⟩ [some x0, some x1, some x2] g) : D_Registry_note_seal K [x0, x1, x2] g R Y := ⟨rfl, h⟩
theorem ok_Registry_note_seal {P : Program} {w : World} {K : PySem.W.Frag} {mg : Str → Option Value} {base : Heap} (T : Txt K mg) : MetD P w K mg base 1 (He.ga K "Registry") "note_seal" (D_Registry_note_seal K) :=
  T.f_Registry_note_seal.metD sc_Registry_note_seal bd_Registry_note_seal rfl fun f cdv A outer s H E b =>
    (ds_one (ds_asg (de_bl pe_bl) (dg_sb (sj_set b.hu1) (de_fld (P := (fun C => C = He.ga K "Registry")) (fun C h => by subst h; exact ⟨T.c_Registry, T.n_Registry_seals⟩) (de_var (pv 0))) (de_tup (da_cons (de_cb (cj_repr K b.gd b.hu64) (by rfl) T.z_repr (by decide +kernel) (da_cons (de_var (pv 1)) da_nil)) (da_cons (de_cb (cj_repr K b.gd b.hu64) (by rfl) T.z_repr (by decide +kernel) (da_cons (de_var (pv 2)) da_nil)) da_nil))))))
def B_Pen_seal (K : PySem.W.Frag) : DS :=
    (sSeq (sDrop (dMeth (He.ga K "Registry") "note_seal" (D_Registry_note_seal K) (dFld (fun C => C = He.ga K "Pen") (dVar 0) "_registry") (dCons (dFld (fun C => C = He.ga K "Pen") (dVar 0) "owner") (dCons (dVar 1) dNil))))
    (sRet (dTup (dCons (dC (.str "sealed")) (dCons (dFld (fun C => C = He.ga K "Pen") (dVar 0) "owner") (dCons (dVar 1) dNil))))))
def D_Pen_seal (K : PySem.W.Frag) : FD := dFun 2 0 (B_Pen_seal K)
theorem U_Pen_seal {K : PySem.W.Frag} {x0 x1 : Dv} {g : Ah} {R : DQ} {Y : Xc} (h : B_Pen_seal K ⟨fun _ g => R .non g, R, fun _ _ => False, fun _ _ => False, fun x _ g => Y x g⟩ [some x0, some x1] g) : D_Pen_seal K [x0, x1] g R Y := ⟨rfl, h⟩
theorem ok_Pen_seal {P : Program} {w : World} {K : PySem.W.Frag} {mg : Str → Option Value} {base : Heap} (T : Txt K mg) : MetD P w K mg base 2 (He.ga K "Pen") "seal" (D_Pen_seal K) :=
  T.f_Pen_seal.metD sc_Pen_seal bd_Pen_seal rfl fun f cdv A outer s H E b =>
    (ds_cons (ds_drop (de_meth b (ok_Registry_note_seal T) (by decide) (de_fld (P := (fun C => C = He.ga K "Pen")) (fun C h => by subst h; exact ⟨T.c_Pen, T.n_Pen_registry⟩) (de_var (pv 0))) (da_cons (de_fld (P := (fun C => C = He.ga K "Pen")) (fun C h => by subst h; exact ⟨T.c_Pen, T.n_Pen_owner⟩) (de_var (pv 0))) (da_cons (de_var (pv 1)) da_nil))))
    (ds_one (ds_ret (de_tup (da_cons (de_str pe_str) (da_cons (de_fld (P := (fun C => C = He.ga K "Pen")) (fun C h => by subst h; exact ⟨T.c_Pen, T.n_Pen_owner⟩) (de_var (pv 0))) (da_cons (de_var (pv 1)) da_nil)))))))
def B_Registry__init_ (K : PySem.W.Frag) : DS :=
    (sSeq (sFl (fun C => C = He.ga K "Registry") (dVar 0) (dD0 dM) "_names")
    (sSeq (sFl (fun C => C = He.ga K "Registry") (dVar 0) (dD0 dM) "_pens")
    (sFl (fun C => C = He.ga K "Registry") (dVar 0) dD0T "_seals")))
def D_Registry__init_ (K : PySem.W.Frag) : FD := dFun 1 0 (B_Registry__init_ K)
theorem U_Registry__init_ {K : PySem.W.Frag} {x0 : Dv} {g : Ah} {R : DQ} {Y : Xc} (h : B_Registry__init_ K ⟨fun _ g => R .non g, R, fun _ _ => False, fun _ _ => False, fun x _ g => Y x g⟩ [some x0] g) : D_Registry__init_ K [x0] g R Y := ⟨rfl, h⟩
theorem ok_Registry__init_ {P : Program} {w : World} {K : PySem.W.Frag} {mg : Str → Option Value} {base : Heap} (T : Txt K mg) : MakD P w K mg base 1 "Registry" (He.ga K "Registry") (D_Registry__init_ K) :=
  T.f_Registry__init_.makD sc_Registry__init_ bd_Registry__init_ rfl fun f cdv A outer s H E b =>
    (ds_cons (ds_fl (P' := (fun C => C = He.ga K "Registry")) (fun C h => by subst h; exact ⟨T.c_Registry, T.n_Registry_names⟩) (de_var (pv 0)) (de_d0 dM_ok))
    (ds_cons (ds_fl (P' := (fun C => C = He.ga K "Registry")) (fun C h => by subst h; exact ⟨T.c_Registry, T.n_Registry_pens⟩) (de_var (pv 0)) (de_d0 dM_ok))
    (ds_one (ds_fl (P' := (fun C => C = He.ga K "Registry")) (fun C h => by subst h; exact ⟨T.c_Registry, T.n_Registry_seals⟩) (de_var (pv 0)) de_d0T))))
def B_Registry_name (K : PySem.W.Frag) : DS :=
    (sSeq (sAsg (dB cRepr (dCons (dVar 1) dNil)) (gNm 2))
    (sSeq (sIf (dTst (dOp (qIn false) (dVar 2) (dFld (fun C => C = He.ga K "Registry") (dVar 0) "_names"))) (sAsg (dOp (qAdd nF) (dB cLen (dCons (dFld (fun C => C = He.ga K "Registry") (dVar 0) "_names") dNil)) (dC (.int 1))) (gSb (dFld (fun C => C = He.ga K "Registry") (dVar 0) "_names") (dVar 2))) sNx)
    (sRet (dOp qIx (dFld (fun C => C = He.ga K "Registry") (dVar 0) "_names") (dVar 2)))))
def D_Registry_name (K : PySem.W.Frag) : FD := dFun 2 1 (B_Registry_name K)
theorem U_Registry_name {K : PySem.W.Frag} {x0 x1 : Dv} {g : Ah} {R : DQ} {Y : Xc} (h : B_Registry_name K ⟨fun _ g => R .non g, R, fun _ _ => False, fun _ _ => False, fun x _ g => Y x g⟩ [some x0, some x1, none] g) : D_Registry_name K [x0, x1] g R Y := ⟨rfl, h⟩
theorem ok_Registry_name {P : Program} {w : World} {K : PySem.W.Frag} {mg : Str → Option Value} {base : Heap} (T : Txt K mg) : MetD P w K mg base 1 (He.ga K "Registry") "name" (D_Registry_name K) :=
  T.f_Registry_name.metD sc_Registry_name bd_Registry_name rfl fun f cdv A outer s H E b =>
    (ds_cons (ds_set (i := 2) sc_Registry_name.nd rfl (Or.inl rfl) (de_cb (cj_repr K b.gd b.hu64) (by rfl) T.z_repr (by decide +kernel) (da_cons (de_var (pv 1)) da_nil)))
    (ds_cons (ds_if (dt_cmp (oj_notin K b.hu65) (de_var (pv 2)) (de_fld (P := (fun C => C = He.ga K "Registry")) (fun C h => by subst h; exact ⟨T.c_Registry, T.n_Registry_names⟩) (de_var (pv 0))) rfl) (ds_one (ds_asg (de_op (oj_add K nF_ok) (de_cb (cj_len K) (by rfl) T.z_len (by decide +kernel) (da_cons (de_fld (P := (fun C => C = He.ga K "Registry")) (fun C h => by subst h; exact ⟨T.c_Registry, T.n_Registry_names⟩) (de_var (pv 0))) da_nil)) (de_int pe_int)) (dg_sb (sj_set b.hu1) (de_fld (P := (fun C => C = He.ga K "Registry")) (fun C h => by subst h; exact ⟨T.c_Registry, T.n_Registry_names⟩) (de_var (pv 0))) (de_var (pv 2))))) ds_nil)
    (ds_one (ds_ret (de_ix (oj_ix K b.hu1) (de_fld (P := (fun C => C = He.ga K "Registry")) (fun C h => by subst h; exact ⟨T.c_Registry, T.n_Registry_names⟩) (de_var (pv 0))) (de_var (pv 2)) (fun _ _ => rfl))))))
def B_Registry_pen (K : PySem.W.Frag) : DS :=
    (sSeq (sIf (dTst (dOp (qIn true) (dVar 1) (dFld (fun C => C = He.ga K "Registry") (dVar 0) "_pens"))) (sRs (He.ga K "InvalidArgument")) sNx)
    (sSeq (sAsg (dC (.bl true)) (gSb (dFld (fun C => C = He.ga K "Registry") (dVar 0) "_pens") (dVar 1)))
    (sRet (dMake (He.ga K "Pen") (D_Pen__init_ K) (dCons (dVar 1) (dCons (dVar 0) dNil))))))
def D_Registry_pen (K : PySem.W.Frag) : FD := dFun 2 0 (B_Registry_pen K)
theorem U_Registry_pen {K : PySem.W.Frag} {x0 x1 : Dv} {g : Ah} {R : DQ} {Y : Xc} (h : B_Registry_pen K ⟨fun _ g => R .non g, R, fun _ _ => False, fun _ _ => False, fun x _ g => Y x g⟩ [some x0, some x1] g) : D_Registry_pen K [x0, x1] g R Y := ⟨rfl, h⟩
theorem ok_Registry_pen {P : Program} {w : World} {K : PySem.W.Frag} {mg : Str → Option Value} {base : Heap} (T : Txt K mg) : MetD P w K mg base 3 (He.ga K "Registry") "pen" (D_Registry_pen K) :=
  T.f_Registry_pen.metD sc_Registry_pen bd_Registry_pen rfl fun f cdv A outer s H E b =>
    (ds_cons (ds_if (dt_cmp (oj_in K b.hu65) (de_var (pv 1)) (de_fld (P := (fun C => C = He.ga K "Registry")) (fun C h => by subst h; exact ⟨T.c_Registry, T.n_Registry_pens⟩) (de_var (pv 0))) rfl) (ds_one (ds_rs b.calm b.tk T.g_InvalidArgument T.x_InvalidArgument rfl)) ds_nil)
    (ds_cons (ds_asg (de_bl pe_bl) (dg_sb (sj_set b.hu1) (de_fld (P := (fun C => C = He.ga K "Registry")) (fun C h => by subst h; exact ⟨T.c_Registry, T.n_Registry_pens⟩) (de_var (pv 0))) (de_var (pv 1))))
    (ds_one (ds_ret (de_make b (ok_Pen__init_ T) (by decide) rfl (da_cons (de_var (pv 1)) (da_cons (de_var (pv 0)) da_nil)))))))
def B_Registry_is_sealed (K : PySem.W.Frag) : DS :=
    (sRet (dOp (qIn true) (dTup (dCons (dB cRepr (dCons (dVar 1) dNil)) (dCons (dB cRepr (dCons (dVar 2) dNil)) dNil))) (dFld (fun C => C = He.ga K "Registry") (dVar 0) "_seals")))
def D_Registry_is_sealed (K : PySem.W.Frag) : FD := dFun 3 0 (B_Registry_is_sealed K)
theorem U_Registry_is_sealed {K : PySem.W.Frag} {x0 x1 x2 : Dv} {g : Ah} {R : DQ} {Y : Xc} (h : B_Registry_is_sealed K ⟨fun _ g => R .non g, R, fun _ _ => False, fun _ _ => False, fun x _ g => Y x g⟩ [some x0, some x1, some x2] g) : D_Registry_is_sealed K [x0, x1, x2] g R Y := ⟨rfl, h⟩
theorem ok_Registry_is_sealed {P : Program} {w : World} {K : PySem.W.Frag} {mg : Str → Option Value} {base : Heap} (T : Txt K mg) : MetD P w K mg base 1 (He.ga K "Registry") "is_sealed" (D_Registry_is_sealed K) :=
  T.f_Registry_is_sealed.metD sc_Registry_is_sealed bd_Registry_is_sealed rfl fun f cdv A outer s H E b =>
    (ds_one (ds_ret (de_cmp (oj_in K b.hu65) (de_tup (da_cons (de_cb (cj_repr K b.gd b.hu64) (by rfl) T.z_repr (by decide +kernel) (da_cons (de_var (pv 1)) da_nil)) (da_cons (de_cb (cj_repr K b.gd b.hu64) (by rfl) T.z_repr (by decide +kernel) (da_cons (de_var (pv 2)) da_nil)) da_nil))) (de_fld (P := (fun C => C = He.ga K "Registry")) (fun C h => by subst h; exact ⟨T.c_Registry, T.n_Registry_seals⟩) (de_var (pv 0))) rfl)))
def B_is_count (K : PySem.W.Frag) : DS :=
    (sRet (dAnd (dB cIsi (dCons (dVar 0) (dCons (dC (.ty "int")) dNil))) (dAnd (dNot (dB cIsi (dCons (dVar 0) (dCons (dC (.ty "bool")) dNil)))) (dChain (qLt true true) (qLt true true) (dVar 1) (dVar 0) (dVar 2)))))
def D_is_count (K : PySem.W.Frag) : FD := dFun 3 0 (B_is_count K)
theorem U_is_count {K : PySem.W.Frag} {x0 x1 x2 : Dv} {g : Ah} {R : DQ} {Y : Xc} (h : B_is_count K ⟨fun _ g => R .non g, R, fun _ _ => False, fun _ _ => False, fun x _ g => Y x g⟩ [some x0, some x1, some x2] g) : D_is_count K [x0, x1, x2] g R Y := ⟨rfl, h⟩
theorem ok_is_count {P : Program} {w : World} {K : PySem.W.Frag} {mg : Str → Option Value} {base : Heap} (T : Txt K mg) : CalD P w K mg base 1 "is_count" (D_is_count K) :=
  T.f_is_count.calD sc_is_count bd_is_count rfl fun f cdv A outer s H E b =>
    (ds_one (ds_ret (de_and (de_cb (cj_isi K) (by rfl) T.z_isinstance (by decide +kernel) (da_cons (de_var (pv 0)) (da_cons (de_ty (pe_bltn (v := .ty "int") (by rfl) T.z_int (by decide +kernel) rfl)) da_nil))) (de_and (de_not (de_cb (cj_isi K) (by rfl) T.z_isinstance (by decide +kernel) (da_cons (de_var (pv 0)) (da_cons (de_ty (pe_bltn (v := .ty "bool") (by rfl) T.z_bool (by decide +kernel) rfl)) da_nil)))) (pe_one (de_chain (oj_le K) (oj_le K) (de_var (pv 1)) (de_var (pv 0)) (de_var (pv 2))))))))
def B_is_row_of (K : PySem.W.Frag) : DS :=
    (sRet (dAnd (dB cIsi (dCons (dVar 0) (dCons (dC (.ty "tuple")) dNil))) (dChain (qLt true true) (qLt true true) (dVar 1) (dB cLen (dCons (dVar 0) dNil)) (dVar 2))))
def D_is_row_of (K : PySem.W.Frag) : FD := dFun 3 0 (B_is_row_of K)
theorem U_is_row_of {K : PySem.W.Frag} {x0 x1 x2 : Dv} {g : Ah} {R : DQ} {Y : Xc} (h : B_is_row_of K ⟨fun _ g => R .non g, R, fun _ _ => False, fun _ _ => False, fun x _ g => Y x g⟩ [some x0, some x1, some x2] g) : D_is_row_of K [x0, x1, x2] g R Y := ⟨rfl, h⟩
theorem ok_is_row_of {P : Program} {w : World} {K : PySem.W.Frag} {mg : Str → Option Value} {base : Heap} (T : Txt K mg) : CalD P w K mg base 1 "is_row_of" (D_is_row_of K) :=
  T.f_is_row_of.calD sc_is_row_of bd_is_row_of rfl fun f cdv A outer s H E b =>
    (ds_one (ds_ret (de_and (de_cb (cj_isi K) (by rfl) T.z_isinstance (by decide +kernel) (da_cons (de_var (pv 0)) (da_cons (de_ty (pe_bltn (v := .ty "tuple") (by rfl) T.z_tuple (by decide +kernel) rfl)) da_nil))) (pe_one (de_chain (oj_le K) (oj_le K) (de_var (pv 1)) (de_cb (cj_len K) (by rfl) T.z_len (by decide +kernel) (da_cons (de_var (pv 0)) da_nil)) (de_var (pv 2)))))))
def B_are_owners (K : PySem.W.Frag) : DS :=
    (sSeq (sIf (dtOr (dtNot (dTru (dB cIsi (dCons (dVar 0) (dCons (dC (.ty "tuple")) dNil))))) (dTst (dOp (qIn false) (dB cLen (dCons (dVar 0) dNil)) (dTup (dCons (dC (.int 4)) (dCons (dC (.int 7)) (dCons (dC (.int 10)) dNil))))))) (sRet (dC (.bl false))) sNx)
    (sSeq (sFor (diSeq (dVar 0)) (gNm 1) (sIf (dtOr (dtNot (dTru (dCall (D_is_count K) (dCons (dVar 1) (dCons (dC (.int 1)) (dCons (dC (.int 999)) dNil)))))) (dTst (dOp (qLt true false) (dMt isTq mCountI (dVar 0) (dCons (dVar 1) dNil)) (dC (.int 1))))) (sRet (dC (.bl false))) sNx))
    (sRet (dC (.bl true)))))
def D_are_owners (K : PySem.W.Frag) : FD := dFun 1 1 (B_are_owners K)
theorem U_are_owners {K : PySem.W.Frag} {x0 : Dv} {g : Ah} {R : DQ} {Y : Xc} (h : B_are_owners K ⟨fun _ g => R .non g, R, fun _ _ => False, fun _ _ => False, fun x _ g => Y x g⟩ [some x0, none] g) : D_are_owners K [x0] g R Y := ⟨rfl, h⟩
theorem ok_are_owners {P : Program} {w : World} {K : PySem.W.Frag} {mg : Str → Option Value} {base : Heap} (T : Txt K mg) : CalD P w K mg base 2 "are_owners" (D_are_owners K) :=
  T.f_are_owners.calD sc_are_owners bd_are_owners rfl fun f cdv A outer s H E b =>
    (ds_cons (ds_if (PW.pt (dw_or (dt_not (dt_tru (de_cb (cj_isi K) (by rfl) T.z_isinstance (by decide +kernel) (da_cons (de_var (pv 0)) (da_cons (de_ty (pe_bltn (v := .ty "tuple") (by rfl) T.z_tuple (by decide +kernel) rfl)) da_nil))) (by intro _; rfl))) (dw_or1 (dt_cmp (oj_notin K b.hu65) (de_cb (cj_len K) (by rfl) T.z_len (by decide +kernel) (da_cons (de_var (pv 0)) da_nil)) (de_tup (da_cons (de_int pe_int) (da_cons (de_int pe_int) (da_cons (de_int pe_int) da_nil)))) rfl)))) (ds_one (ds_ret (de_bl pe_bl))) ds_nil)
    (ds_cons (ds_for b.po b.calm (di_seq (de_var (pv 0))) (dg_nm (pg_name (i := 1) sc_are_owners.nd rfl (Or.inl rfl))) (ds_one (ds_if (PW.pt (dw_or (dt_not (dt_tru (de_call b (ok_is_count T) (by decide) rfl (da_cons (de_var (pv 1)) (da_cons (de_int pe_int) (da_cons (de_int (pe_gc (by rfl) T.g_MOST_OWNER)) da_nil)))) (by intro _; rfl))) (dw_or1 (dt_cmp (oj_gt K b.hu) (de_mtQ PySem.F.plainAttrs_tuple PySem.F.slot_tuple_count PySem.F.type_tuple_count (mj_countI b.hu64) (de_var (pv 0)) (da_cons (de_var (pv 1)) da_nil)) (de_int pe_int) (nomark _))))) (ds_one (ds_ret (de_bl pe_bl))) ds_nil)))
    (ds_one (ds_ret (de_bl pe_bl)))))
def B_is_natural (K : PySem.W.Frag) : DS :=
    (sRet (dAnd (dB cIsi (dCons (dVar 0) (dCons (dC (.ty "int")) dNil))) (dAnd (dNot (dB cIsi (dCons (dVar 0) (dCons (dC (.ty "bool")) dNil)))) (dOp (qLt false true) (dVar 0) (dC (.int 0))))))
def D_is_natural (K : PySem.W.Frag) : FD := dFun 1 0 (B_is_natural K)
theorem U_is_natural {K : PySem.W.Frag} {x0 : Dv} {g : Ah} {R : DQ} {Y : Xc} (h : B_is_natural K ⟨fun _ g => R .non g, R, fun _ _ => False, fun _ _ => False, fun x _ g => Y x g⟩ [some x0] g) : D_is_natural K [x0] g R Y := ⟨rfl, h⟩
theorem ok_is_natural {P : Program} {w : World} {K : PySem.W.Frag} {mg : Str → Option Value} {base : Heap} (T : Txt K mg) : CalD P w K mg base 1 "is_natural" (D_is_natural K) :=
  T.f_is_natural.calD sc_is_natural bd_is_natural rfl fun f cdv A outer s H E b =>
    (ds_one (ds_ret (de_and (de_cb (cj_isi K) (by rfl) T.z_isinstance (by decide +kernel) (da_cons (de_var (pv 0)) (da_cons (de_ty (pe_bltn (v := .ty "int") (by rfl) T.z_int (by decide +kernel) rfl)) da_nil))) (de_and (de_not (de_cb (cj_isi K) (by rfl) T.z_isinstance (by decide +kernel) (da_cons (de_var (pv 0)) (da_cons (de_ty (pe_bltn (v := .ty "bool") (by rfl) T.z_bool (by decide +kernel) rfl)) da_nil)))) (pe_one (de_cmp (oj_ge K) (de_var (pv 0)) (de_int pe_int) (nomark _)))))))
def B_is_header (K : PySem.W.Frag) : DS :=
    (sSeq (sIf (dtOr (dtNot (dTru (dCall (D_is_plain K) (dCons (dVar 0) dNil)))) (dtOr (dtNot (dTru (dCall (D_is_row_of K) (dCons (dVar 0) (dCons (dC (.int 6)) (dCons (dC (.int 6)) dNil)))))) (dTst (dOp (qEq false) (dOp qIx (dVar 0) (dC (.int 0))) (dC (.str "header")))))) (sRet (dC (.bl false))) sNx)
    (sRet (dAnd (dOp (qEq true) (dLc nF [1] (diSeq (dSl qSlQ (dVar 0) (doI (dC (.int 1))) (doI (dC (.int 5))))) (tN 1) (dtNot (dTru (dCall (D_is_natural K) (dCons (dVar 1) dNil)))) (dVar 1)) (dLst nF dNil)) (dCall (D_are_owners K) (dCons (dOp qIx (dVar 0) (dC (.int 5))) dNil)))))
def D_is_header (K : PySem.W.Frag) : FD := dFun 1 1 (B_is_header K)
theorem U_is_header {K : PySem.W.Frag} {x0 : Dv} {g : Ah} {R : DQ} {Y : Xc} (h : B_is_header K ⟨fun _ g => R .non g, R, fun _ _ => False, fun _ _ => False, fun x _ g => Y x g⟩ [some x0, none] g) : D_is_header K [x0] g R Y := ⟨rfl, h⟩
theorem ok_is_header {P : Program} {w : World} {K : PySem.W.Frag} {mg : Str → Option Value} {base : Heap} (T : Txt K mg) : CalD P w K mg base 3 "is_header" (D_is_header K) :=
  T.f_is_header.calD sc_is_header bd_is_header rfl fun f cdv A outer s H E b =>
    (ds_cons (ds_if (PW.pt (dw_or (dt_not (dt_tru (de_call b (ok_is_plain T) (by decide) rfl (da_cons (de_var (pv 0)) da_nil)) (by intro _; rfl))) (dw_or (dt_not (dt_tru (de_call b (ok_is_row_of T) (by decide) rfl (da_cons (de_var (pv 0)) (da_cons (de_int pe_int) (da_cons (de_int pe_int) da_nil)))) (by intro _; rfl))) (dw_or1 (dt_cmp (oj_ne K b.hu64) (de_ix (oj_ix K b.hu1) (de_var (pv 0)) (de_int pe_int) (fun _ _ => rfl)) (de_str pe_str) (nomark _)))))) (ds_one (ds_ret (de_bl pe_bl))) ds_nil)
    (ds_one (ds_ret (de_and (de_cmp (oj_eq K b.hu64) (de_lc (own := [("part", 1)]) b.calm nF_ok sc_is_header.nd (di_seq (de_sl oj_slQ (de_var (pv 0)) (do_i K (de_int pe_int)) (do_i K (de_int pe_int)))) (blkOk_by (own := [("part", 1)]) (N := nm_is_header) (sc := defScope s_is_header) (by decide +kernel)) lt_n (fun _ _ _ _ _ => pg_name (i := 1) sc_is_header.nd rfl (Or.inl rfl)) (fun _ _ _ _ _ => pts_one (dt_not (dt_tru (de_call (b.blk) (ok_is_natural T) (by decide) rfl (da_cons (de_var (pv 1)) da_nil)) (by intro _; rfl)))) (fun _ _ _ _ _ => (de_var (pv 1)))) (de_lst nF_ok da_nil) (nomark _)) (pe_one (de_call b (ok_are_owners T) (by decide) rfl (da_cons (de_ix (oj_ix K b.hu1) (de_var (pv 0)) (de_int pe_int) (fun _ _ => rfl)) da_nil)))))))
def B_quorum (K : PySem.W.Frag) : DS :=
    (sRet (dOp (qAdd nF) (dOp (qMul' nF) (dC (.int 2)) (dOp qFdiv (dOp qSub (dB cLen (dCons (dVar 0) dNil)) (dC (.int 1))) (dC (.int 3)))) (dC (.int 1))))
def D_quorum (K : PySem.W.Frag) : FD := dFun 1 0 (B_quorum K)
theorem U_quorum {K : PySem.W.Frag} {x0 : Dv} {g : Ah} {R : DQ} {Y : Xc} (h : B_quorum K ⟨fun _ g => R .non g, R, fun _ _ => False, fun _ _ => False, fun x _ g => Y x g⟩ [some x0] g) : D_quorum K [x0] g R Y := ⟨rfl, h⟩
theorem ok_quorum {P : Program} {w : World} {K : PySem.W.Frag} {mg : Str → Option Value} {base : Heap} (T : Txt K mg) : CalD P w K mg base 1 "quorum" (D_quorum K) :=
  T.f_quorum.calD sc_quorum bd_quorum rfl fun f cdv A outer s H E b =>
    (ds_one (ds_ret (de_op (oj_add K nF_ok) (de_op (oj_mul K nF_ok) (de_int pe_int) (de_op (oj_fdiv K) (de_op (oj_sub K) (de_cb (cj_len K) (by rfl) T.z_len (by decide +kernel) (da_cons (de_var (pv 0)) da_nil)) (de_int pe_int)) (de_int pe_int))) (de_int pe_int))))
def B_is_certificate (K : PySem.W.Frag) : DS :=
    (sSeq (sIf (dtOr (dtNot (dTru (dCall (D_is_plain K) (dCons (dVar 1) dNil)))) (dtOr (dtNot (dTru (dCall (D_is_row_of K) (dCons (dVar 1) (dCons (dC (.int 3)) (dCons (dC (.int 3)) dNil)))))) (dTst (dOp (qEq false) (dOp qIx (dVar 1) (dC (.int 0))) (dC (.str "certificate")))))) (sRet (dC (.bl false))) sNx)
    (sSeq (sAsg (dVar 1) (gTp 3 (gCo (gNm 4) (gCo (gNm 5) (gCo (gNm 6) gNi)))))
    (sSeq (sIf (dtOr (dtNot (dTru (dCall (D_is_natural K) (dCons (dVar 5) dNil)))) (dtOr (dtNot (dTru (dB cIsi (dCons (dVar 6) (dCons (dC (.ty "tuple")) dNil))))) (dTst (dOp (qLt false false) (dB cLen (dCons (dVar 6) dNil)) (dCall (D_quorum K) (dCons (dVar 3) dNil)))))) (sRet (dC (.bl false))) sNx)
    (sSeq (sAsg (dTup (dCons (dC (.str "precommit")) (dCons (dOp qIx (dVar 2) (dC (.int 1))) (dCons (dVar 5) (dCons (dMeth (He.ga K "Registry") "name" (D_Registry_name K) (dVar 0) (dCons (dVar 2) dNil)) dNil))))) (gNm 7))
    (sSeq (sAsg (dC (.int 0)) (gNm 8))
    (sSeq (sFor (diSeq (dVar 6)) (gNm 9) (sSeq (sIf (dtOr (dtNot (dTru (dCall (D_is_count K) (dCons (dVar 9) (dCons (dOp (qAdd nF) (dVar 8) (dC (.int 1))) (dCons (dC (.int 999)) dNil)))))) (dTst (dOp (qIn false) (dVar 9) (dVar 3)))) (sRet (dC (.bl false))) sNx)
    (sSeq (sIf (dtNot (dTru (dMeth (He.ga K "Registry") "is_sealed" (D_Registry_is_sealed K) (dVar 0) (dCons (dVar 9) (dCons (dVar 7) dNil))))) (sRet (dC (.bl false))) sNx)
    (sAsg (dVar 9) (gNm 8)))))
    (sRet (dC (.bl true)))))))))
def D_is_certificate (K : PySem.W.Frag) : FD := dFun 4 6 (B_is_certificate K)
theorem U_is_certificate {K : PySem.W.Frag} {x0 x1 x2 x3 : Dv} {g : Ah} {R : DQ} {Y : Xc} (h : B_is_certificate K ⟨fun _ g => R .non g, R, fun _ _ => False, fun _ _ => False, fun x _ g => Y x g⟩ [some x0, some x1, some x2, some x3, none, none, none, none, none, none] g) : D_is_certificate K [x0, x1, x2, x3] g R Y := ⟨rfl, h⟩
theorem ok_is_certificate {P : Program} {w : World} {K : PySem.W.Frag} {mg : Str → Option Value} {base : Heap} (T : Txt K mg) : CalD P w K mg base 3 "is_certificate" (D_is_certificate K) :=
  T.f_is_certificate.calD sc_is_certificate bd_is_certificate rfl fun f cdv A outer s H E b =>
    (ds_cons (ds_if (PW.pt (dw_or (dt_not (dt_tru (de_call b (ok_is_plain T) (by decide) rfl (da_cons (de_var (pv 1)) da_nil)) (by intro _; rfl))) (dw_or (dt_not (dt_tru (de_call b (ok_is_row_of T) (by decide) rfl (da_cons (de_var (pv 1)) (da_cons (de_int pe_int) (da_cons (de_int pe_int) da_nil)))) (by intro _; rfl))) (dw_or1 (dt_cmp (oj_ne K b.hu64) (de_ix (oj_ix K b.hu1) (de_var (pv 1)) (de_int pe_int) (fun _ _ => rfl)) (de_str pe_str) (nomark _)))))) (ds_one (ds_ret (de_bl pe_bl))) ds_nil)
    (ds_cons (ds_asg (de_var (pv 1)) (dg_tp (n := 3) b.calm (dgs_cons (dg_nm (pg_name (i := 4) sc_is_certificate.nd rfl (Or.inl rfl))) (dgs_cons (dg_nm (pg_name (i := 5) sc_is_certificate.nd rfl (Or.inl rfl))) (dgs_cons (dg_nm (pg_name (i := 6) sc_is_certificate.nd rfl (Or.inl rfl))) dgs_nil)))))
    (ds_cons (ds_if (PW.pt (dw_or (dt_not (dt_tru (de_call b (ok_is_natural T) (by decide) rfl (da_cons (de_var (pv 5)) da_nil)) (by intro _; rfl))) (dw_or (dt_not (dt_tru (de_cb (cj_isi K) (by rfl) T.z_isinstance (by decide +kernel) (da_cons (de_var (pv 6)) (da_cons (de_ty (pe_bltn (v := .ty "tuple") (by rfl) T.z_tuple (by decide +kernel) rfl)) da_nil))) (by intro _; rfl))) (dw_or1 (dt_cmp (oj_lt K b.hu) (de_cb (cj_len K) (by rfl) T.z_len (by decide +kernel) (da_cons (de_var (pv 6)) da_nil)) (de_call b (ok_quorum T) (by decide) rfl (da_cons (de_var (pv 3)) da_nil)) (nomark _)))))) (ds_one (ds_ret (de_bl pe_bl))) ds_nil)
    (ds_cons (ds_set (i := 7) sc_is_certificate.nd rfl (Or.inl rfl) (de_tup (da_cons (de_str pe_str) (da_cons (de_ix (oj_ix K b.hu1) (de_var (pv 2)) (de_int pe_int) (fun _ _ => rfl)) (da_cons (de_var (pv 5)) (da_cons (de_meth b (ok_Registry_name T) (by decide) (de_var (pv 0)) (da_cons (de_var (pv 2)) da_nil)) da_nil))))))
    (ds_cons (ds_set (i := 8) sc_is_certificate.nd rfl (Or.inl rfl) (de_int pe_int))
    (ds_cons (ds_for b.po b.calm (di_seq (de_var (pv 6))) (dg_nm (pg_name (i := 9) sc_is_certificate.nd rfl (Or.inl rfl))) (ds_cons (ds_if (PW.pt (dw_or (dt_not (dt_tru (de_call b (ok_is_count T) (by decide) rfl (da_cons (de_var (pv 9)) (da_cons (de_op (oj_add K nF_ok) (de_var (pv 8)) (de_int pe_int)) (da_cons (de_int (pe_gc (by rfl) T.g_MOST_OWNER)) da_nil)))) (by intro _; rfl))) (dw_or1 (dt_cmp (oj_notin K b.hu65) (de_var (pv 9)) (de_var (pv 3)) rfl)))) (ds_one (ds_ret (de_bl pe_bl))) ds_nil)
    (ds_cons (ds_if (dt_not (dt_tru (de_meth b (ok_Registry_is_sealed T) (by decide) (de_var (pv 0)) (da_cons (de_var (pv 9)) (da_cons (de_var (pv 7)) da_nil))) (by intro _; rfl))) (ds_one (ds_ret (de_bl pe_bl))) ds_nil)
    (ds_one (ds_set (i := 8) sc_is_certificate.nd rfl (Or.inl rfl) (de_var (pv 9)))))))
    (ds_one (ds_ret (de_bl pe_bl)))))))))
def B_law_next (K : PySem.W.Frag) : DS :=
    (sSeq (sIf (dtAnd (dTst (dOp (qEq true) (dOp qIx (dVar 0) (dC (.int 2))) (dC (.int 0)))) (dTst (dOp (qLt false false) (dOp qIx (dVar 0) (dC (.int 1))) (dB cLen (dCons (dOp qIx (dVar 0) (dC (.int 0))) dNil))))) (sSeq (sAsg (dOp qIx (dOp qIx (dVar 0) (dC (.int 0))) (dOp qIx (dVar 0) (dC (.int 1)))) (gNm 2))
    (sSeq (sAugS (dVar 0) (dC (.int 1)) qIAdd (dC (.int 1)))
    (sIf (dTst (dOp (qLt false true) (dVar 2) (dOp qPow (dC (.int 10)) (dC (.int 18))))) (sAsg (dVar 2) (gSb (dVar 0) (dC (.int 2)))) (sAsg (dOp qMod (dB cInt (dCons (dOp (qAdd nF) (dOp (qAdd nF) (dOp (qMul' nF) (dOp qIx (dVar 0) (dC (.int 3))) (dC (.int 48271))) (dOp qMod (dB cInt (dCons (dVar 2) dNil)) (dC (.int 2147483647)))) (dC (.int 7))) dNil)) (dC (.int 2147483647))) (gSb (dVar 0) (dC (.int 3))))))) sNx)
    (sSeq (sIf (dTst (dOp (qLt true false) (dOp qIx (dVar 0) (dC (.int 2))) (dC (.int 0)))) (sSeq (sAsg (dOp qMod (dB cInt (dCons (dOp qIx (dVar 0) (dC (.int 2))) dNil)) (dVar 1)) (gNm 3))
    (sSeq (sAsg (dOp qFdiv (dOp qIx (dVar 0) (dC (.int 2))) (dVar 1)) (gSb (dVar 0) (dC (.int 2))))
    (sRet (dVar 3)))) sNx)
    (sSeq (sAsg (dOp qMod (dB cInt (dCons (dOp (qAdd nF) (dOp (qMul' nF) (dOp qIx (dVar 0) (dC (.int 3))) (dC (.int 69621))) (dC (.int 12345))) dNil)) (dC (.int 2147483647))) (gSb (dVar 0) (dC (.int 3))))
    (sRet (dOp qMod (dB cInt (dCons (dOp qFdiv (dOp qIx (dVar 0) (dC (.int 3))) (dC (.int 7))) dNil)) (dVar 1))))))
def D_law_next (K : PySem.W.Frag) : FD := dFun 2 2 (B_law_next K)
theorem U_law_next {K : PySem.W.Frag} {x0 x1 : Dv} {g : Ah} {R : DQ} {Y : Xc} (h : B_law_next K ⟨fun _ g => R .non g, R, fun _ _ => False, fun _ _ => False, fun x _ g => Y x g⟩ [some x0, some x1, none, none] g) : D_law_next K [x0, x1] g R Y := ⟨rfl, h⟩
theorem ok_law_next {P : Program} {w : World} {K : PySem.W.Frag} {mg : Str → Option Value} {base : Heap} (T : Txt K mg) : CalD P w K mg base 1 "_law_next" (D_law_next K) :=
  T.f_law_next.calD sc_law_next bd_law_next rfl fun f cdv A outer s H E b =>
    (ds_cons (ds_if (PW.pt (dw_and (dt_cmp (oj_eq K b.hu64) (de_ix (oj_ix K b.hu1) (de_var (pv 0)) (de_int pe_int) (fun _ _ => rfl)) (de_int pe_int) (nomark _)) (dw_and1 (dt_cmp (oj_lt K b.hu) (de_ix (oj_ix K b.hu1) (de_var (pv 0)) (de_int pe_int) (fun _ _ => rfl)) (de_cb (cj_len K) (by rfl) T.z_len (by decide +kernel) (da_cons (de_ix (oj_ix K b.hu1) (de_var (pv 0)) (de_int pe_int) (fun _ _ => rfl)) da_nil)) (nomark _))))) (ds_cons (ds_set (i := 2) sc_law_next.nd rfl (Or.inl rfl) (de_ix (oj_ix K b.hu1) (de_ix (oj_ix K b.hu1) (de_var (pv 0)) (de_int pe_int) (fun _ _ => rfl)) (de_ix (oj_ix K b.hu1) (de_var (pv 0)) (de_int pe_int) (fun _ _ => rfl)) (fun _ _ => rfl)))
    (ds_cons (ds_augS b.hu1 (de_var (pv 0)) (de_int pe_int) (oj_iadd K) (de_int pe_int))
    (ds_one (ds_if (dt_cmp (oj_ge K) (de_var (pv 2)) (de_op (oj_pow K) (de_int pe_int) (de_int pe_int)) (nomark _)) (ds_one (ds_asg (de_var (pv 2)) (dg_sb (sj_set b.hu1) (de_var (pv 0)) (de_int pe_int)))) (ds_one (ds_asg (de_op (oj_mod K) (de_cty (cj_int K) (by rfl) T.z_int (by decide +kernel) (da_cons (de_op (oj_add K nF_ok) (de_op (oj_add K nF_ok) (de_op (oj_mul K nF_ok) (de_ix (oj_ix K b.hu1) (de_var (pv 0)) (de_int pe_int) (fun _ _ => rfl)) (de_int pe_int)) (de_op (oj_mod K) (de_cty (cj_int K) (by rfl) T.z_int (by decide +kernel) (da_cons (de_var (pv 2)) da_nil)) (de_int pe_int))) (de_int pe_int)) da_nil)) (de_int pe_int)) (dg_sb (sj_set b.hu1) (de_var (pv 0)) (de_int pe_int)))))))) ds_nil)
    (ds_cons (ds_if (dt_cmp (oj_gt K b.hu) (de_ix (oj_ix K b.hu1) (de_var (pv 0)) (de_int pe_int) (fun _ _ => rfl)) (de_int pe_int) (nomark _)) (ds_cons (ds_set (i := 3) sc_law_next.nd rfl (Or.inl rfl) (de_op (oj_mod K) (de_cty (cj_int K) (by rfl) T.z_int (by decide +kernel) (da_cons (de_ix (oj_ix K b.hu1) (de_var (pv 0)) (de_int pe_int) (fun _ _ => rfl)) da_nil)) (de_var (pv 1))))
    (ds_cons (ds_asg (de_op (oj_fdiv K) (de_ix (oj_ix K b.hu1) (de_var (pv 0)) (de_int pe_int) (fun _ _ => rfl)) (de_var (pv 1))) (dg_sb (sj_set b.hu1) (de_var (pv 0)) (de_int pe_int)))
    (ds_one (ds_ret (de_var (pv 3)))))) ds_nil)
    (ds_cons (ds_asg (de_op (oj_mod K) (de_cty (cj_int K) (by rfl) T.z_int (by decide +kernel) (da_cons (de_op (oj_add K nF_ok) (de_op (oj_mul K nF_ok) (de_ix (oj_ix K b.hu1) (de_var (pv 0)) (de_int pe_int) (fun _ _ => rfl)) (de_int pe_int)) (de_int pe_int)) da_nil)) (de_int pe_int)) (dg_sb (sj_set b.hu1) (de_var (pv 0)) (de_int pe_int)))
    (ds_one (ds_ret (de_op (oj_mod K) (de_cty (cj_int K) (by rfl) T.z_int (by decide +kernel) (da_cons (de_op (oj_fdiv K) (de_ix (oj_ix K b.hu1) (de_var (pv 0)) (de_int pe_int) (fun _ _ => rfl)) (de_int pe_int)) da_nil)) (de_var (pv 1))))))))
def B_law_owners (K : PySem.W.Frag) : DS :=
    (sSeq (sAsg (dOp qIx (dLst nF (dCons (dC (.int 4)) (dCons (dC (.int 4)) (dCons (dC (.int 7)) (dCons (dC (.int 10)) dNil))))) (dCall (D_law_next K) (dCons (dVar 0) (dCons (dC (.int 4)) dNil)))) (gNm 1))
    (sSeq (sAsg (dOp (qAdd nF) (dC (.int 1)) (dCall (D_law_next K) (dCons (dVar 0) (dCons (dC (.int 900)) dNil)))) (gNm 2))
    (sSeq (sAsg (dOp (qAdd nF) (dC (.int 1)) (dCall (D_law_next K) (dCons (dVar 0) (dCons (dC (.int 9)) dNil)))) (gNm 3))
    (sSeq (sAsg (dLc nF [5] (diR1 (dCons (dVar 1) dNil)) (tN 5) dtYes (dOp (qAdd nF) (dVar 2) (dOp (qMul' nF) (dVar 3) (dVar 5)))) (gNm 4))
    (sSeq (sFor (diR1 (dCons (dC (.int 3)) dNil)) (gNm 6) (sSeq (sAsg (dCall (D_law_next K) (dCons (dVar 0) (dCons (dVar 1) dNil))) (gNm 5))
    (sAsg (dOp (qAdd nF) (dSl (qSl nF) (dVar 4) (doI (dVar 5)) doNo) (dUn (qRev nF) (dSl (qSl nF) (dVar 4) doNo (doI (dVar 5))))) (gNm 4))))
    (sRet (dB cTupQ (dCons (dVar 4) dNil))))))))
def D_law_owners (K : PySem.W.Frag) : FD := dFun 1 6 (B_law_owners K)
theorem U_law_owners {K : PySem.W.Frag} {x0 : Dv} {g : Ah} {R : DQ} {Y : Xc} (h : B_law_owners K ⟨fun _ g => R .non g, R, fun _ _ => False, fun _ _ => False, fun x _ g => Y x g⟩ [some x0, none, none, none, none, none, none] g) : D_law_owners K [x0] g R Y := ⟨rfl, h⟩
theorem ok_law_owners {P : Program} {w : World} {K : PySem.W.Frag} {mg : Str → Option Value} {base : Heap} (T : Txt K mg) : CalD P w K mg base 2 "_law_owners" (D_law_owners K) :=
  T.f_law_owners.calD sc_law_owners bd_law_owners rfl fun f cdv A outer s H E b =>
    (ds_cons (ds_set (i := 1) sc_law_owners.nd rfl (Or.inl rfl) (de_ix (oj_ix K b.hu1) (de_lst nF_ok (da_cons (de_int pe_int) (da_cons (de_int pe_int) (da_cons (de_int pe_int) (da_cons (de_int pe_int) da_nil))))) (de_call b (ok_law_next T) (by decide) rfl (da_cons (de_var (pv 0)) (da_cons (de_int pe_int) da_nil))) (fun _ _ => rfl)))
    (ds_cons (ds_set (i := 2) sc_law_owners.nd rfl (Or.inr rfl) (de_op (oj_add K nF_ok) (de_int pe_int) (de_call b (ok_law_next T) (by decide) rfl (da_cons (de_var (pv 0)) (da_cons (de_int pe_int) da_nil)))))
    (ds_cons (ds_set (i := 3) sc_law_owners.nd rfl (Or.inr rfl) (de_op (oj_add K nF_ok) (de_int pe_int) (de_call b (ok_law_next T) (by decide) rfl (da_cons (de_var (pv 0)) (da_cons (de_int pe_int) da_nil)))))
    (ds_cons (ds_setLc (i := 4) (own := [("place", 5)]) b.calm nF_ok sc_law_owners.nd rfl rfl (sw_true rfl rfl rfl (by decide +kernel)) (di_r1 rfl T.z_range (da_cons (de_var (pv 1)) da_nil)) (blkOk_by (own := [("place", 5)]) (N := nm_law_owners) (sc := defScope s_law_owners) (by decide +kernel)) lt_n (fun _ _ _ _ _ => pg_name (i := 5) sc_law_owners.nd rfl (Or.inl rfl)) (fun _ _ _ _ _ => dts_nil) (fun _ _ _ _ _ => (de_op (oj_add K nF_ok) (de_var (pv 2)) (de_op (oj_mul K nF_ok) (de_var (pv 3)) (de_var (pv 5))))))
    (ds_cons (ds_for b.po b.calm (di_r1 rfl T.z_range (da_cons (de_int pe_int) da_nil)) (dg_nm (pg_name (i := 6) sc_law_owners.nd rfl (Or.inl rfl))) (ds_cons (ds_set (i := 5) sc_law_owners.nd rfl (Or.inl rfl) (de_call b (ok_law_next T) (by decide) rfl (da_cons (de_var (pv 0)) (da_cons (de_var (pv 1)) da_nil))))
    (ds_one (ds_set (i := 4) sc_law_owners.nd rfl (Or.inl rfl) (de_op (oj_add K nF_ok) (de_sl (oj_sl K nF_ok) (de_var (pv 4)) (do_i K (de_var (pv 5))) (do_no K)) (de_rev nF_ok (de_sl (oj_sl K nF_ok) (de_var (pv 4)) (do_no K) (do_i K (de_var (pv 5))))))))))
    (ds_one (ds_ret (de_cty (cj_tupQ) (by rfl) T.z_tuple (by decide +kernel) (da_cons (de_var (pv 4)) da_nil)))))))))
def B_law_with (K : PySem.W.Frag) : DS :=
    (sRet (dOp qAddQ (dOp qAddQ (dSl qSlQ (dVar 0) doNo (doI (dVar 1))) (dTupQ (dCons (dVar 2) dNil))) (dSl qSlQ (dVar 0) (doI (dOp (qAdd nF) (dVar 1) (dC (.int 1)))) doNo)))
def D_law_with (K : PySem.W.Frag) : FD := dFun 3 0 (B_law_with K)
theorem U_law_with {K : PySem.W.Frag} {x0 x1 x2 : Dv} {g : Ah} {R : DQ} {Y : Xc} (h : B_law_with K ⟨fun _ g => R .non g, R, fun _ _ => False, fun _ _ => False, fun x _ g => Y x g⟩ [some x0, some x1, some x2] g) : D_law_with K [x0, x1, x2] g R Y := ⟨rfl, h⟩
theorem ok_law_with {P : Program} {w : World} {K : PySem.W.Frag} {mg : Str → Option Value} {base : Heap} (T : Txt K mg) : CalD P w K mg base 1 "_law_with" (D_law_with K) :=
  T.f_law_with.calD sc_law_with bd_law_with rfl fun f cdv A outer s H E b =>
    (ds_one (ds_ret (de_op (oj_addQ) (de_op (oj_addQ) (de_sl oj_slQ (de_var (pv 0)) (do_no K) (do_i K (de_var (pv 1)))) (de_tupQ (da_cons (de_var (pv 2)) da_nil))) (de_sl oj_slQ (de_var (pv 0)) (do_i K (de_op (oj_add K nF_ok) (de_var (pv 1)) (de_int pe_int))) (do_no K)))))
def B_law_header (K : PySem.W.Frag) : DS :=
    (sSeq (sAsg (dLc nF [3] (diR1 (dCons (dC (.int 4)) dNil)) (tN 3) dtYes (dCall (D_law_next K) (dCons (dVar 0) (dCons (dC (.int 1000)) dNil)))) (gNm 2))
    (sRet (dTup (dCons (dC (.str "header")) (dCons (dOp (qAdd nF) (dOp qIx (dVar 2) (dC (.int 0))) (dC (.int 1))) (dCons (dOp qIx (dVar 2) (dC (.int 1))) (dCons (dOp qIx (dVar 2) (dC (.int 2))) (dCons (dOp qIx (dVar 2) (dC (.int 3))) (dCons (dVar 1) dNil)))))))))
def D_law_header (K : PySem.W.Frag) : FD := dFun 2 2 (B_law_header K)
theorem U_law_header {K : PySem.W.Frag} {x0 x1 : Dv} {g : Ah} {R : DQ} {Y : Xc} (h : B_law_header K ⟨fun _ g => R .non g, R, fun _ _ => False, fun _ _ => False, fun x _ g => Y x g⟩ [some x0, some x1, none, none] g) : D_law_header K [x0, x1] g R Y := ⟨rfl, h⟩
theorem ok_law_header {P : Program} {w : World} {K : PySem.W.Frag} {mg : Str → Option Value} {base : Heap} (T : Txt K mg) : CalD P w K mg base 2 "_law_header" (D_law_header K) :=
  T.f_law_header.calD sc_law_header bd_law_header rfl fun f cdv A outer s H E b =>
    (ds_cons (ds_setLc (i := 2) (own := [("k", 3)]) b.calm nF_ok sc_law_header.nd rfl rfl (sw_true rfl rfl rfl (by decide +kernel)) (di_r1 rfl T.z_range (da_cons (de_int pe_int) da_nil)) (blkOk_by (own := [("k", 3)]) (N := nm_law_header) (sc := defScope s_law_header) (by decide +kernel)) lt_n (fun _ _ _ _ _ => pg_name (i := 3) sc_law_header.nd rfl (Or.inl rfl)) (fun _ _ _ _ _ => dts_nil) (fun _ _ _ _ _ => (de_call (b.blk) (ok_law_next T) (by decide) rfl (da_cons (de_var (pv 0)) (da_cons (de_int pe_int) da_nil)))))
    (ds_one (ds_ret (de_tup (da_cons (de_str pe_str) (da_cons (de_op (oj_add K nF_ok) (de_ix (oj_ix K b.hu1) (de_var (pv 2)) (de_int pe_int) (fun _ _ => rfl)) (de_int pe_int)) (da_cons (de_ix (oj_ix K b.hu1) (de_var (pv 2)) (de_int pe_int) (fun _ _ => rfl)) (da_cons (de_ix (oj_ix K b.hu1) (de_var (pv 2)) (de_int pe_int) (fun _ _ => rfl)) (da_cons (de_ix (oj_ix K b.hu1) (de_var (pv 2)) (de_int pe_int) (fun _ _ => rfl)) (da_cons (de_var (pv 1)) da_nil))))))))))
def B_law_bad_headers (K : PySem.W.Frag) : DS :=
    (sSeq (sAsg (dOp qIx (dVar 1) (dC (.int 5))) (gNm 2))
    (sSeq (sAsg (dLst nM (dCons (dC .non) (dCons (dC (.bl true)) (dCons (dC (.int 7)) (dCons (dC (.str "header")) (dCons (dTup dNil) (dCons (dLst nF dNil) (dCons (dB (cList nF) (dCons (dVar 1) dNil)) (dCons (dSl (qSl nF) (dVar 1) doNo (doI (dC (.int 5)))) (dCons (dOp (qAdd nF) (dVar 1) (dTup (dCons (dC (.int 0)) dNil))) (dCons (dLst nF (dCons (dC (.str "ab")) dNil)) dNil))))))))))) (gNm 3))
    (sSeq (sFor (diR1 (dCons (dC (.int 6)) dNil)) (gNm 4) (sFor (diSeq (dLst nF (dCons (dC .non) (dCons (dC (.str "x")) (dCons (dUn qNeg (dC (.int 1))) (dCons (dC (.bl true)) (dCons (dTup dNil) (dCons (dLst nF (dCons (dC (.int 1)) dNil)) dNil)))))))) (gNm 5) (sDrop (dMt isL mAppend (dVar 3) (dCons (dCall (D_law_with K) (dCons (dVar 1) (dCons (dVar 4) (dCons (dVar 5) dNil)))) dNil)))))
    (sSeq (sAsg (dCall (D_law_next K) (dCons (dVar 0) (dCons (dB cLen (dCons (dVar 2) dNil)) dNil))) (gNm 6))
    (sSeq (sFor (diSeq (dLst nF (dCons (dC (.int 0)) (dCons (dC (.int 1000)) (dCons (dC (.bl true)) (dCons (dC .non) (dCons (dC (.str "a")) (dCons (dOp qIx (dVar 2) (dOp qSub (dVar 6) (dC (.int 1)))) dNil)))))))) (gNm 7) (sDrop (dMt isL mAppend (dVar 3) (dCons (dCall (D_law_with K) (dCons (dVar 1) (dCons (dC (.int 5)) (dCons (dCall (D_law_with K) (dCons (dVar 2) (dCons (dVar 6) (dCons (dVar 7) dNil)))) dNil)))) dNil))))
    (sSeq (sAsg (dLst nF (dCons (dSl qSlQ (dVar 2) doNo (doI (dC (.int 1)))) (dCons (dTup (dCons (dC (.int 1)) (dCons (dC (.int 2)) (dCons (dC (.int 3)) (dCons (dC (.int 4)) (dCons (dC (.int 5)) dNil)))))) (dCons (dTup (dCons (dC (.int 1)) (dCons (dC (.int 2)) (dCons (dC (.int 3)) (dCons (dC (.int 4)) (dCons (dC (.int 5)) (dCons (dC (.int 6)) (dCons (dC (.int 7)) (dCons (dC (.int 8)) dNil))))))))) (dCons (dTupRg (dC (.int 1)) (dC (.int 14))) dNil))))) (gNm 8))
    (sSeq (sFor (diSeq (dOp (qAdd nF) (dVar 8) (dLst nF (dCons (dSl qSlQ (dVar 2) doNo (doI (dOp qSub (dB cLen (dCons (dVar 2) dNil)) (dC (.int 1))))) (dCons (dOp qAddQ (dVar 2) (dTupQ (dCons (dOp (qAdd nF) (dOp qIx (dVar 2) (dC (.int 0))) (dC (.int 1000))) dNil))) (dCons (dB (cList nF) (dCons (dVar 2) dNil)) (dCons (dSl qSlQ (dVar 2) doNo (doI (dC (.int 3)))) dNil))))))) (gNm 9) (sDrop (dMt isL mAppend (dVar 3) (dCons (dCall (D_law_with K) (dCons (dVar 1) (dCons (dC (.int 5)) (dCons (dVar 9) dNil)))) dNil))))
    (sRet (dFrz (dVar 3))))))))))
def D_law_bad_headers (K : PySem.W.Frag) : FD := dFun 2 8 (B_law_bad_headers K)
theorem U_law_bad_headers {K : PySem.W.Frag} {x0 x1 : Dv} {g : Ah} {R : DQ} {Y : Xc} (h : B_law_bad_headers K ⟨fun _ g => R .non g, R, fun _ _ => False, fun _ _ => False, fun x _ g => Y x g⟩ [some x0, some x1, none, none, none, none, none, none, none, none] g) : D_law_bad_headers K [x0, x1] g R Y := ⟨rfl, h⟩
theorem ok_law_bad_headers {P : Program} {w : World} {K : PySem.W.Frag} {mg : Str → Option Value} {base : Heap} (T : Txt K mg) : CalD P w K mg base 2 "_law_bad_headers" (D_law_bad_headers K) :=
  T.f_law_bad_headers.calD sc_law_bad_headers bd_law_bad_headers rfl fun f cdv A outer s H E b =>
    (ds_cons (ds_set (i := 2) sc_law_bad_headers.nd rfl (Or.inl rfl) (de_ix (oj_ix K b.hu1) (de_var (pv 1)) (de_int pe_int) (fun _ _ => rfl)))
    (ds_cons (ds_set (i := 3) sc_law_bad_headers.nd rfl (Or.inl rfl) (de_lst nM_ok (da_cons (de_non pe_non) (da_cons (de_bl pe_bl) (da_cons (de_int pe_int) (da_cons (de_str pe_str) (da_cons (de_tup da_nil) (da_cons (de_lst nF_ok da_nil) (da_cons (de_cty (cj_list K b.calm nF_ok) (by rfl) T.z_list (by decide +kernel) (da_cons (de_var (pv 1)) da_nil)) (da_cons (de_sl (oj_sl K nF_ok) (de_var (pv 1)) (do_no K) (do_i K (de_int pe_int))) (da_cons (de_op (oj_add K nF_ok) (de_var (pv 1)) (de_tup (da_cons (de_int pe_int) da_nil))) (da_cons (de_lst nF_ok (da_cons (de_str pe_str) da_nil)) da_nil))))))))))))
    (ds_cons (ds_for b.po b.calm (di_r1 rfl T.z_range (da_cons (de_int pe_int) da_nil)) (dg_nm (pg_name (i := 4) sc_law_bad_headers.nd rfl (Or.inl rfl))) (ds_one (ds_for b.po b.calm (di_seq (de_lst nF_ok (da_cons (de_non pe_non) (da_cons (de_str pe_str) (da_cons (de_neg (de_int pe_int)) (da_cons (de_bl pe_bl) (da_cons (de_tup da_nil) (da_cons (de_lst nF_ok (da_cons (de_int pe_int) da_nil)) da_nil)))))))) (dg_nm (pg_name (i := 5) sc_law_bad_headers.nd rfl (Or.inl rfl))) (ds_one (ds_drop (de_mt PySem.F.plainAttrs_list PySem.F.slot_list_append PySem.F.type_list_append (mj_append K) (ty_lst K) (de_var (pv 3)) (da_cons (de_call b (ok_law_with T) (by decide) rfl (da_cons (de_var (pv 1)) (da_cons (de_var (pv 4)) (da_cons (de_var (pv 5)) da_nil)))) da_nil)))))))
    (ds_cons (ds_set (i := 6) sc_law_bad_headers.nd rfl (Or.inl rfl) (de_call b (ok_law_next T) (by decide) rfl (da_cons (de_var (pv 0)) (da_cons (de_cb (cj_len K) (by rfl) T.z_len (by decide +kernel) (da_cons (de_var (pv 2)) da_nil)) da_nil))))
    (ds_cons (ds_for b.po b.calm (di_seq (de_lst nF_ok (da_cons (de_int pe_int) (da_cons (de_int pe_int) (da_cons (de_bl pe_bl) (da_cons (de_non pe_non) (da_cons (de_str pe_str) (da_cons (de_ix (oj_ix K b.hu1) (de_var (pv 2)) (de_op (oj_sub K) (de_var (pv 6)) (de_int pe_int)) (fun _ _ => rfl)) da_nil)))))))) (dg_nm (pg_name (i := 7) sc_law_bad_headers.nd rfl (Or.inl rfl))) (ds_one (ds_drop (de_mt PySem.F.plainAttrs_list PySem.F.slot_list_append PySem.F.type_list_append (mj_append K) (ty_lst K) (de_var (pv 3)) (da_cons (de_call b (ok_law_with T) (by decide) rfl (da_cons (de_var (pv 1)) (da_cons (de_int pe_int) (da_cons (de_call b (ok_law_with T) (by decide) rfl (da_cons (de_var (pv 2)) (da_cons (de_var (pv 6)) (da_cons (de_var (pv 7)) da_nil)))) da_nil)))) da_nil)))))
    (ds_cons (ds_set (i := 8) sc_law_bad_headers.nd rfl (Or.inl rfl) (de_lst nF_ok (da_cons (de_sl oj_slQ (de_var (pv 2)) (do_no K) (do_i K (de_int pe_int))) (da_cons (de_tup (da_cons (de_int pe_int) (da_cons (de_int pe_int) (da_cons (de_int pe_int) (da_cons (de_int pe_int) (da_cons (de_int pe_int) da_nil)))))) (da_cons (de_tup (da_cons (de_int pe_int) (da_cons (de_int pe_int) (da_cons (de_int pe_int) (da_cons (de_int pe_int) (da_cons (de_int pe_int) (da_cons (de_int pe_int) (da_cons (de_int pe_int) (da_cons (de_int pe_int) da_nil))))))))) (da_cons (de_tupRg b.calm (by rfl) T.z_tuple (by rfl) T.z_range (de_int pe_int) (de_int pe_int)) da_nil))))))
    (ds_cons (ds_for b.po b.calm (di_seq (de_op (oj_add K nF_ok) (de_var (pv 8)) (de_lst nF_ok (da_cons (de_sl oj_slQ (de_var (pv 2)) (do_no K) (do_i K (de_op (oj_sub K) (de_cb (cj_len K) (by rfl) T.z_len (by decide +kernel) (da_cons (de_var (pv 2)) da_nil)) (de_int pe_int)))) (da_cons (de_op (oj_addQ) (de_var (pv 2)) (de_tupQ (da_cons (de_op (oj_add K nF_ok) (de_ix (oj_ix K b.hu1) (de_var (pv 2)) (de_int pe_int) (fun _ _ => rfl)) (de_int pe_int)) da_nil))) (da_cons (de_cty (cj_list K b.calm nF_ok) (by rfl) T.z_list (by decide +kernel) (da_cons (de_var (pv 2)) da_nil)) (da_cons (de_sl oj_slQ (de_var (pv 2)) (do_no K) (do_i K (de_int pe_int))) da_nil))))))) (dg_nm (pg_name (i := 9) sc_law_bad_headers.nd rfl (Or.inl rfl))) (ds_one (ds_drop (de_mt PySem.F.plainAttrs_list PySem.F.slot_list_append PySem.F.type_list_append (mj_append K) (ty_lst K) (de_var (pv 3)) (da_cons (de_call b (ok_law_with T) (by decide) rfl (da_cons (de_var (pv 1)) (da_cons (de_int pe_int) (da_cons (de_var (pv 9)) da_nil)))) da_nil)))))
    (ds_one (ds_ret (de_frz (de_var (pv 3))))))))))))
def B_law_forms (K : PySem.W.Frag) : DS :=
    (sSeq (sIf (dTst (dOp (qIsB false) (dCall (D_is_header K) (dCons (dVar 1) dNil)) (dC (.bl true)))) (sRet (dC (.bl false))) sNx)
    (sRet (dOp (qEq true) (dLc nF [2] (diSeq (dCall (D_law_bad_headers K) (dCons (dVar 0) (dCons (dVar 1) dNil)))) (tN 2) (dTst (dOp (qIsB false) (dCall (D_is_header K) (dCons (dVar 2) dNil)) (dC (.bl false)))) (dVar 2)) (dLst nF dNil))))
def D_law_forms (K : PySem.W.Frag) : FD := dFun 2 1 (B_law_forms K)
theorem U_law_forms {K : PySem.W.Frag} {x0 x1 : Dv} {g : Ah} {R : DQ} {Y : Xc} (h : B_law_forms K ⟨fun _ g => R .non g, R, fun _ _ => False, fun _ _ => False, fun x _ g => Y x g⟩ [some x0, some x1, none] g) : D_law_forms K [x0, x1] g R Y := ⟨rfl, h⟩
theorem ok_law_forms {P : Program} {w : World} {K : PySem.W.Frag} {mg : Str → Option Value} {base : Heap} (T : Txt K mg) : CalD P w K mg base 4 "_law_forms" (D_law_forms K) :=
  T.f_law_forms.calD sc_law_forms bd_law_forms rfl fun f cdv A outer s H E b =>
    (ds_cons (ds_if (dt_cmp (oj_isnotB K) (de_call b (ok_is_header T) (by decide) rfl (da_cons (de_var (pv 1)) da_nil)) (de_bl pe_bl) (nomark _)) (ds_one (ds_ret (de_bl pe_bl))) ds_nil)
    (ds_one (ds_ret (de_cmp (oj_eq K b.hu64) (de_lc (own := [("bad", 2)]) b.calm nF_ok sc_law_forms.nd (di_seq (de_call b (ok_law_bad_headers T) (by decide) rfl (da_cons (de_var (pv 0)) (da_cons (de_var (pv 1)) da_nil)))) (blkOk_by (own := [("bad", 2)]) (N := nm_law_forms) (sc := defScope s_law_forms) (by decide +kernel)) lt_n (fun _ _ _ _ _ => pg_name (i := 2) sc_law_forms.nd rfl (Or.inl rfl)) (fun _ _ _ _ _ => pts_one (dt_cmp (oj_isnotB K) (de_call (b.blk) (ok_is_header T) (by decide) rfl (da_cons (de_var (pv 2)) da_nil)) (de_bl pe_bl) (nomark _))) (fun _ _ _ _ _ => (de_var (pv 2)))) (de_lst nF_ok da_nil) (nomark _)))))
def B_law_sealed (K : PySem.W.Frag) : DS :=
    (sSeq (sAsg (dOp qIx (dVar 2) (dC (.int 5))) (gNm 4))
    (sSeq (sAsg (dTup (dCons (dC (.str "precommit")) (dCons (dOp qIx (dVar 2) (dC (.int 1))) (dCons (dVar 3) (dCons (dMeth (He.ga K "Registry") "name" (D_Registry_name K) (dVar 1) (dCons (dVar 2) dNil)) dNil))))) (gNm 5))
    (sSeq (sAsg (dLst nF (dCons (dOp (qAdd nF) (dTup (dCons (dC (.str "prevote")) dNil)) (dSl (qSl nF) (dVar 5) (doI (dC (.int 1))) doNo)) (dCons (dOp (qAdd nF) (dTup (dCons (dC (.str "precommit")) (dCons (dOp (qAdd nF) (dOp qIx (dVar 2) (dC (.int 1))) (dC (.int 1))) dNil))) (dSl (qSl nF) (dVar 5) (doI (dC (.int 2))) doNo)) (dCons (dOp (qAdd nF) (dOp (qAdd nF) (dSl (qSl nF) (dVar 5) doNo (doI (dC (.int 2)))) (dTup (dCons (dOp (qAdd nF) (dVar 3) (dC (.int 1))) dNil))) (dSl (qSl nF) (dVar 5) (doI (dC (.int 3))) doNo)) dNil)))) (gNm 6))
    (sSeq (sAsg (dOp (qAdd nF) (dVar 6) (dLst nF (dCons (dOp (qAdd nF) (dSl (qSl nF) (dVar 5) doNo (doI (dC (.int 3)))) (dTup (dCons (dOp (qAdd nF) (dOp qIx (dVar 5) (dC (.int 3))) (dC (.int 1000))) dNil))) (dCons (dOp (qAdd nF) (dSl (qSl nF) (dVar 5) doNo (doI (dC (.int 3)))) (dTup (dCons (dC .non) dNil))) dNil)))) (gNm 6))
    (sSeq (sAsg (dLst nM dNil) (gNm 7))
    (sSeq (sAsg (dD0 dM) (gNm 8))
    (sSeq (sFor (diSeq (dB (cSortT nF) (dCons (dVar 4) dNil))) (gNm 9) (sSeq (sAsg (dMeth (He.ga K "Registry") "pen" (D_Registry_pen K) (dVar 1) (dCons (dVar 9) dNil)) (gNm 10))
    (sSeq (sAsg (dVar 10) (gSb (dVar 8) (dVar 9)))
    (sSeq (sAsg (dCall (D_law_next K) (dCons (dVar 0) (dCons (dC (.int 8)) dNil))) (gNm 11))
    (sIf (dTst (dOp (qLt false false) (dVar 11) (dC (.int 5)))) (sSeq (sDrop (dMeth (He.ga K "Pen") "seal" (D_Pen_seal K) (dVar 10) (dCons (dVar 5) dNil)))
    (sDrop (dMt isL mAppend (dVar 7) (dCons (dVar 9) dNil)))) (sDrop (dMeth (He.ga K "Pen") "seal" (D_Pen_seal K) (dVar 10) (dCons (dOp qIx (dVar 6) (dCall (D_law_next K) (dCons (dVar 0) (dCons (dC (.int 5)) dNil)))) dNil))))))))
    (sRet (dTup (dCons (dVar 8) (dCons (dVar 5) (dCons (dFrz (dVar 7)) dNil))))))))))))
def D_law_sealed (K : PySem.W.Frag) : FD := dFun 4 8 (B_law_sealed K)
theorem U_law_sealed {K : PySem.W.Frag} {x0 x1 x2 x3 : Dv} {g : Ah} {R : DQ} {Y : Xc} (h : B_law_sealed K ⟨fun _ g => R .non g, R, fun _ _ => False, fun _ _ => False, fun x _ g => Y x g⟩ [some x0, some x1, some x2, some x3, none, none, none, none, none, none, none, none] g) : D_law_sealed K [x0, x1, x2, x3] g R Y := ⟨rfl, h⟩
theorem ok_law_sealed {P : Program} {w : World} {K : PySem.W.Frag} {mg : Str → Option Value} {base : Heap} (T : Txt K mg) : CalD P w K mg base 4 "_law_sealed" (D_law_sealed K) :=
  T.f_law_sealed.calD sc_law_sealed bd_law_sealed rfl fun f cdv A outer s H E b =>
    (ds_cons (ds_set (i := 4) sc_law_sealed.nd rfl (Or.inl rfl) (de_ix (oj_ix K b.hu1) (de_var (pv 2)) (de_int pe_int) (fun _ _ => rfl)))
    (ds_cons (ds_set (i := 5) sc_law_sealed.nd rfl (Or.inl rfl) (de_tup (da_cons (de_str pe_str) (da_cons (de_ix (oj_ix K b.hu1) (de_var (pv 2)) (de_int pe_int) (fun _ _ => rfl)) (da_cons (de_var (pv 3)) (da_cons (de_meth b (ok_Registry_name T) (by decide) (de_var (pv 1)) (da_cons (de_var (pv 2)) da_nil)) da_nil))))))
    (ds_cons (ds_set (i := 6) sc_law_sealed.nd rfl (Or.inl rfl) (de_lst nF_ok (da_cons (de_op (oj_add K nF_ok) (de_tup (da_cons (de_str pe_str) da_nil)) (de_sl (oj_sl K nF_ok) (de_var (pv 5)) (do_i K (de_int pe_int)) (do_no K))) (da_cons (de_op (oj_add K nF_ok) (de_tup (da_cons (de_str pe_str) (da_cons (de_op (oj_add K nF_ok) (de_ix (oj_ix K b.hu1) (de_var (pv 2)) (de_int pe_int) (fun _ _ => rfl)) (de_int pe_int)) da_nil))) (de_sl (oj_sl K nF_ok) (de_var (pv 5)) (do_i K (de_int pe_int)) (do_no K))) (da_cons (de_op (oj_add K nF_ok) (de_op (oj_add K nF_ok) (de_sl (oj_sl K nF_ok) (de_var (pv 5)) (do_no K) (do_i K (de_int pe_int))) (de_tup (da_cons (de_op (oj_add K nF_ok) (de_var (pv 3)) (de_int pe_int)) da_nil))) (de_sl (oj_sl K nF_ok) (de_var (pv 5)) (do_i K (de_int pe_int)) (do_no K))) da_nil)))))
    (ds_cons (ds_set (i := 6) sc_law_sealed.nd rfl (Or.inl rfl) (de_op (oj_add K nF_ok) (de_var (pv 6)) (de_lst nF_ok (da_cons (de_op (oj_add K nF_ok) (de_sl (oj_sl K nF_ok) (de_var (pv 5)) (do_no K) (do_i K (de_int pe_int))) (de_tup (da_cons (de_op (oj_add K nF_ok) (de_ix (oj_ix K b.hu1) (de_var (pv 5)) (de_int pe_int) (fun _ _ => rfl)) (de_int pe_int)) da_nil))) (da_cons (de_op (oj_add K nF_ok) (de_sl (oj_sl K nF_ok) (de_var (pv 5)) (do_no K) (do_i K (de_int pe_int))) (de_tup (da_cons (de_non pe_non) da_nil))) da_nil)))))
    (ds_cons (ds_set (i := 7) sc_law_sealed.nd rfl (Or.inl rfl) (de_lst nM_ok da_nil))
    (ds_cons (ds_set (i := 8) sc_law_sealed.nd rfl (Or.inl rfl) (de_d0 dM_ok))
    (ds_cons (ds_for b.po b.calm (di_seq (de_cb (cj_sortT nF_ok) (by rfl) T.z_sorted (by decide +kernel) (da_cons (de_var (pv 4)) da_nil))) (dg_nm (pg_name (i := 9) sc_law_sealed.nd rfl (Or.inl rfl))) (ds_cons (ds_set (i := 10) sc_law_sealed.nd rfl (Or.inl rfl) (de_meth b (ok_Registry_pen T) (by decide) (de_var (pv 1)) (da_cons (de_var (pv 9)) da_nil)))
    (ds_cons (ds_asg (de_var (pv 10)) (dg_sb (sj_set b.hu1) (de_var (pv 8)) (de_var (pv 9))))
    (ds_cons (ds_set (i := 11) sc_law_sealed.nd rfl (Or.inl rfl) (de_call b (ok_law_next T) (by decide) rfl (da_cons (de_var (pv 0)) (da_cons (de_int pe_int) da_nil))))
    (ds_one (ds_if (dt_cmp (oj_lt K b.hu) (de_var (pv 11)) (de_int pe_int) (nomark _)) (ds_cons (ds_drop (de_meth b (ok_Pen_seal T) (by decide) (de_var (pv 10)) (da_cons (de_var (pv 5)) da_nil)))
    (ds_one (ds_drop (de_mt PySem.F.plainAttrs_list PySem.F.slot_list_append PySem.F.type_list_append (mj_append K) (ty_lst K) (de_var (pv 7)) (da_cons (de_var (pv 9)) da_nil))))) (ds_one (ds_drop (de_meth b (ok_Pen_seal T) (by decide) (de_var (pv 10)) (da_cons (de_ix (oj_ix K b.hu1) (de_var (pv 6)) (de_call b (ok_law_next T) (by decide) rfl (da_cons (de_var (pv 0)) (da_cons (de_int pe_int) da_nil))) (fun _ _ => rfl)) da_nil))))))))))
    (ds_one (ds_ret (de_tup (da_cons (de_var (pv 8)) (da_cons (de_var (pv 5)) (da_cons (de_frz (de_var (pv 7))) da_nil)))))))))))))
def B_law_asked (K : PySem.W.Frag) : DS :=
    (sRet (dCall (D_is_certificate K) (dCons (dVar 0) (dCons (dTup (dCons (dC (.str "certificate")) (dCons (dVar 2) (dCons (dB cTuple (dCons (dVar 3) dNil)) dNil)))) (dCons (dVar 1) (dCons (dOp qIx (dVar 1) (dC (.int 5))) dNil))))))
def D_law_asked (K : PySem.W.Frag) : FD := dFun 4 0 (B_law_asked K)
theorem U_law_asked {K : PySem.W.Frag} {x0 x1 x2 x3 : Dv} {g : Ah} {R : DQ} {Y : Xc} (h : B_law_asked K ⟨fun _ g => R .non g, R, fun _ _ => False, fun _ _ => False, fun x _ g => Y x g⟩ [some x0, some x1, some x2, some x3] g) : D_law_asked K [x0, x1, x2, x3] g R Y := ⟨rfl, h⟩
theorem ok_law_asked {P : Program} {w : World} {K : PySem.W.Frag} {mg : Str → Option Value} {base : Heap} (T : Txt K mg) : CalD P w K mg base 4 "_law_asked" (D_law_asked K) :=
  T.f_law_asked.calD sc_law_asked bd_law_asked rfl fun f cdv A outer s H E b =>
    (ds_one (ds_ret (de_call b (ok_is_certificate T) (by decide) rfl (da_cons (de_var (pv 0)) (da_cons (de_tup (da_cons (de_str pe_str) (da_cons (de_var (pv 2)) (da_cons (de_cty (cj_tuple K) (by rfl) T.z_tuple (by decide +kernel) (da_cons (de_var (pv 3)) da_nil)) da_nil)))) (da_cons (de_var (pv 1)) (da_cons (de_ix (oj_ix K b.hu1) (de_var (pv 1)) (de_int pe_int) (fun _ _ => rfl)) da_nil)))))))
def B_law_wrong (K : PySem.W.Frag) : DS :=
    (sSeq (sAsg (dB (cSortT nF) (dCons (dOp qIx (dVar 2) (dC (.int 5))) dNil)) (gNm 6))
    (sSeq (sAsg (dLc nF [8] (diSeq (dVar 6)) (tN 8) (dTst (dOp (qIn false) (dVar 8) (dVar 4))) (dVar 8)) (gNm 7))
    (sSeq (sAsg (dLst nM (dCons (dUn (qRev nF) (dVar 4)) (dCons (dOp (qAdd nF) (dVar 4) (dSl (qSl nF) (dVar 4) (doI (dUn qNeg (dC (.int 1)))) doNo)) (dCons (dOp (qAdd nF) (dLst nF (dCons (dOp qIx (dVar 4) (dC (.int 0))) dNil)) (dVar 4)) (dCons (dOp (qAdd nF) (dVar 4) (dLst nF (dCons (dC (.int 1000)) dNil))) (dCons (dOp (qAdd nF) (dLst nF (dCons (dC (.int 0)) dNil)) (dVar 4)) (dCons (dOp (qAdd nF) (dLst nF (dCons (dC (.bl true)) dNil)) (dVar 4)) dNil))))))) (gNm 9))
    (sSeq (sAsg (dOp (qAdd nM) (dVar 9) (dLst nF (dCons (dSl (qSl nF) (dVar 4) doNo (doI (dOp qSub (dCall (D_quorum K) (dCons (dOp qIx (dVar 2) (dC (.int 5))) dNil)) (dC (.int 1))))) (dCons (dOp (qAdd nF) (dSl (qSl nF) (dVar 4) (doI (dC (.int 1))) doNo) (dLst nF (dCons (dC .non) dNil))) (dCons (dOp (qAdd nF) (dSl (qSl nF) (dVar 4) (doI (dC (.int 1))) doNo) (dLst nF (dCons (dC (.str "a")) dNil))) dNil))))) (gNm 9))
    (sSeq (sAsg (dOp (qAdd nM) (dVar 9) (dLst nF (dCons (dB (cSorted nF) (dCons (dOp (qAdd nF) (dSl (qSl nF) (dVar 4) (doI (dC (.int 1))) doNo) (dLst nF (dCons (dVar 5) dNil))) dNil)) (dCons (dB (cSorted nF) (dCons (dOp (qAdd nF) (dVar 4) (dLst nF (dCons (dVar 5) dNil))) dNil)) (dCons (dB (cSorted nF) (dCons (dOp (qAdd nF) (dSl (qSl nF) (dVar 4) doNo (doI (dUn qNeg (dC (.int 1))))) (dLst nF (dCons (dVar 5) dNil))) dNil)) dNil))))) (gNm 9))
    (sSeq (sIf (dTru (dVar 7)) (sDrop (dMt isL mAppend (dVar 9) (dCons (dB (cSorted nF) (dCons (dOp (qAdd nF) (dVar 4) (dLst nF (dCons (dOp qIx (dVar 7) (dCall (D_law_next K) (dCons (dVar 0) (dCons (dB cLen (dCons (dVar 7) dNil)) dNil)))) dNil))) dNil)) dNil))) sNx)
    (sSeq (sIf (dTst (dOp (qLt true false) (dB cLen (dCons (dLc nF [10] (diSeq (dVar 9)) (tN 10) (dTru (dCall (D_law_asked K) (dCons (dVar 1) (dCons (dVar 2) (dCons (dVar 3) (dCons (dVar 10) dNil)))))) (dVar 10)) dNil)) (dC (.int 0)))) (sRet (dC (.bl false))) sNx)
    (sSeq (sAsg (dTup (dCons (dC (.str "certificate")) (dCons (dVar 3) (dCons (dB cTuple (dCons (dVar 4) dNil)) dNil)))) (gNm 11))
    (sSeq (sAsg (dLst nF (dCons (dC .non) (dCons (dTup dNil) (dCons (dSl (qSl nF) (dVar 11) doNo (doI (dC (.int 2)))) (dCons (dOp (qAdd nF) (dVar 11) (dTup (dCons (dC (.int 0)) dNil))) (dCons (dCall (D_law_with K) (dCons (dVar 11) (dCons (dC (.int 0)) (dCons (dC (.str "x")) dNil)))) (dCons (dCall (D_law_with K) (dCons (dVar 11) (dCons (dC (.int 1)) (dCons (dUn qNeg (dC (.int 1))) dNil)))) (dCons (dB (cList nF) (dCons (dVar 11) dNil)) (dCons (dC (.int 5)) dNil))))))))) (gNm 12))
    (sSeq (sAsg (dOp (qAdd nF) (dVar 12) (dLst nF (dCons (dCall (D_law_with K) (dCons (dVar 11) (dCons (dC (.int 1)) (dCons (dC (.bl true)) dNil)))) (dCons (dCall (D_law_with K) (dCons (dVar 11) (dCons (dC (.int 1)) (dCons (dC .non) dNil)))) (dCons (dCall (D_law_with K) (dCons (dVar 11) (dCons (dC (.int 2)) (dCons (dB (cList nF) (dCons (dVar 4) dNil)) dNil)))) (dCons (dCall (D_law_with K) (dCons (dVar 11) (dCons (dC (.int 2)) (dCons (dC (.int 3)) dNil)))) dNil)))))) (gNm 12))
    (sSeq (sAsg (dOp (qAdd nF) (dVar 12) (dLst nF (dCons (dCall (D_law_with K) (dCons (dVar 11) (dCons (dC (.int 1)) (dCons (dOp (qAdd nF) (dVar 3) (dC (.int 7))) dNil)))) (dCons (dD0 dF) (dCons (dLst nF (dCons (dC (.str "ab")) dNil)) dNil))))) (gNm 12))
    (sSeq (sFor (diSeq (dVar 12)) (gNm 13) (sIf (dTst (dOp (qIsB false) (dCall (D_is_certificate K) (dCons (dVar 1) (dCons (dVar 13) (dCons (dVar 2) (dCons (dOp qIx (dVar 2) (dC (.int 5))) dNil))))) (dC (.bl false)))) (sRet (dC (.bl false))) sNx))
    (sSeq (sAsg (dCall (D_law_with K) (dCons (dVar 2) (dCons (dC (.int 4)) (dCons (dOp (qAdd nF) (dOp qIx (dVar 2) (dC (.int 4))) (dC (.int 1))) dNil)))) (gNm 14))
    (sRet (dOp (qIsB true) (dCall (D_is_certificate K) (dCons (dVar 1) (dCons (dVar 11) (dCons (dVar 14) (dCons (dOp qIx (dVar 14) (dC (.int 5))) dNil))))) (dC (.bl false)))))))))))))))))
def D_law_wrong (K : PySem.W.Frag) : FD := dFun 6 9 (B_law_wrong K)
theorem U_law_wrong {K : PySem.W.Frag} {x0 x1 x2 x3 x4 x5 : Dv} {g : Ah} {R : DQ} {Y : Xc} (h : B_law_wrong K ⟨fun _ g => R .non g, R, fun _ _ => False, fun _ _ => False, fun x _ g => Y x g⟩ [some x0, some x1, some x2, some x3, some x4, some x5, none, none, none, none, none, none, none, none, none] g) : D_law_wrong K [x0, x1, x2, x3, x4, x5] g R Y := ⟨rfl, h⟩
theorem ok_law_wrong {P : Program} {w : World} {K : PySem.W.Frag} {mg : Str → Option Value} {base : Heap} (T : Txt K mg) : CalD P w K mg base 5 "_law_wrong" (D_law_wrong K) :=
  T.f_law_wrong.calD sc_law_wrong bd_law_wrong rfl fun f cdv A outer s H E b =>
    (ds_cons (ds_set (i := 6) sc_law_wrong.nd rfl (Or.inl rfl) (de_cb (cj_sortT nF_ok) (by rfl) T.z_sorted (by decide +kernel) (da_cons (de_ix (oj_ix K b.hu1) (de_var (pv 2)) (de_int pe_int) (fun _ _ => rfl)) da_nil)))
    (ds_cons (ds_setLc (i := 7) (own := [("owner", 8)]) b.calm nF_ok sc_law_wrong.nd rfl rfl (sw_true rfl rfl rfl (by decide +kernel)) (di_seq (de_var (pv 6))) (blkOk_by (own := [("owner", 8)]) (N := nm_law_wrong) (sc := defScope s_law_wrong) (by decide +kernel)) lt_n (fun _ _ _ _ _ => pg_name (i := 8) sc_law_wrong.nd rfl (Or.inl rfl)) (fun _ _ _ _ _ => pts_one (dt_cmp (oj_notin K b.hu65) (de_var (pv 8)) (de_var (pv 4)) rfl)) (fun _ _ _ _ _ => (de_var (pv 8))))
    (ds_cons (ds_set (i := 9) sc_law_wrong.nd rfl (Or.inl rfl) (de_lst nM_ok (da_cons (de_rev nF_ok (de_var (pv 4))) (da_cons (de_op (oj_add K nF_ok) (de_var (pv 4)) (de_sl (oj_sl K nF_ok) (de_var (pv 4)) (do_i K (de_neg (de_int pe_int))) (do_no K))) (da_cons (de_op (oj_add K nF_ok) (de_lst nF_ok (da_cons (de_ix (oj_ix K b.hu1) (de_var (pv 4)) (de_int pe_int) (fun _ _ => rfl)) da_nil)) (de_var (pv 4))) (da_cons (de_op (oj_add K nF_ok) (de_var (pv 4)) (de_lst nF_ok (da_cons (de_int pe_int) da_nil))) (da_cons (de_op (oj_add K nF_ok) (de_lst nF_ok (da_cons (de_int pe_int) da_nil)) (de_var (pv 4))) (da_cons (de_op (oj_add K nF_ok) (de_lst nF_ok (da_cons (de_bl pe_bl) da_nil)) (de_var (pv 4))) da_nil))))))))
    (ds_cons (ds_set (i := 9) sc_law_wrong.nd rfl (Or.inl rfl) (de_op (oj_add K nM_ok) (de_var (pv 9)) (de_lst nF_ok (da_cons (de_sl (oj_sl K nF_ok) (de_var (pv 4)) (do_no K) (do_i K (de_op (oj_sub K) (de_call b (ok_quorum T) (by decide) rfl (da_cons (de_ix (oj_ix K b.hu1) (de_var (pv 2)) (de_int pe_int) (fun _ _ => rfl)) da_nil)) (de_int pe_int)))) (da_cons (de_op (oj_add K nF_ok) (de_sl (oj_sl K nF_ok) (de_var (pv 4)) (do_i K (de_int pe_int)) (do_no K)) (de_lst nF_ok (da_cons (de_non pe_non) da_nil))) (da_cons (de_op (oj_add K nF_ok) (de_sl (oj_sl K nF_ok) (de_var (pv 4)) (do_i K (de_int pe_int)) (do_no K)) (de_lst nF_ok (da_cons (de_str pe_str) da_nil))) da_nil))))))
    (ds_cons (ds_set (i := 9) sc_law_wrong.nd rfl (Or.inl rfl) (de_op (oj_add K nM_ok) (de_var (pv 9)) (de_lst nF_ok (da_cons (de_cb (cj_sorted K b.calm nF_ok) (by rfl) T.z_sorted (by decide +kernel) (da_cons (de_op (oj_add K nF_ok) (de_sl (oj_sl K nF_ok) (de_var (pv 4)) (do_i K (de_int pe_int)) (do_no K)) (de_lst nF_ok (da_cons (de_var (pv 5)) da_nil))) da_nil)) (da_cons (de_cb (cj_sorted K b.calm nF_ok) (by rfl) T.z_sorted (by decide +kernel) (da_cons (de_op (oj_add K nF_ok) (de_var (pv 4)) (de_lst nF_ok (da_cons (de_var (pv 5)) da_nil))) da_nil)) (da_cons (de_cb (cj_sorted K b.calm nF_ok) (by rfl) T.z_sorted (by decide +kernel) (da_cons (de_op (oj_add K nF_ok) (de_sl (oj_sl K nF_ok) (de_var (pv 4)) (do_no K) (do_i K (de_neg (de_int pe_int)))) (de_lst nF_ok (da_cons (de_var (pv 5)) da_nil))) da_nil)) da_nil))))))
    (ds_cons (ds_if (dt_tru (de_var (pv 7)) (by intro _; rfl)) (ds_one (ds_drop (de_mt PySem.F.plainAttrs_list PySem.F.slot_list_append PySem.F.type_list_append (mj_append K) (ty_lst K) (de_var (pv 9)) (da_cons (de_cb (cj_sorted K b.calm nF_ok) (by rfl) T.z_sorted (by decide +kernel) (da_cons (de_op (oj_add K nF_ok) (de_var (pv 4)) (de_lst nF_ok (da_cons (de_ix (oj_ix K b.hu1) (de_var (pv 7)) (de_call b (ok_law_next T) (by decide) rfl (da_cons (de_var (pv 0)) (da_cons (de_cb (cj_len K) (by rfl) T.z_len (by decide +kernel) (da_cons (de_var (pv 7)) da_nil)) da_nil))) (fun _ _ => rfl)) da_nil))) da_nil)) da_nil)))) ds_nil)
    (ds_cons (ds_if (dt_cmp (oj_gt K b.hu) (de_cb (cj_len K) (by rfl) T.z_len (by decide +kernel) (da_cons (de_lc (own := [("row", 10)]) b.calm nF_ok sc_law_wrong.nd (di_seq (de_var (pv 9))) (blkOk_by (own := [("row", 10)]) (N := nm_law_wrong) (sc := defScope s_law_wrong) (by decide +kernel)) lt_n (fun _ _ _ _ _ => pg_name (i := 10) sc_law_wrong.nd rfl (Or.inl rfl)) (fun _ _ _ _ _ => pts_one (dt_tru (de_call (b.blk) (ok_law_asked T) (by decide) rfl (da_cons (de_var (pv 1)) (da_cons (de_var (pv 2)) (da_cons (de_var (pv 3)) (da_cons (de_var (pv 10)) da_nil))))) (by intro _; rfl))) (fun _ _ _ _ _ => (de_var (pv 10)))) da_nil)) (de_int pe_int) (nomark _)) (ds_one (ds_ret (de_bl pe_bl))) ds_nil)
    (ds_cons (ds_set (i := 11) sc_law_wrong.nd rfl (Or.inl rfl) (de_tup (da_cons (de_str pe_str) (da_cons (de_var (pv 3)) (da_cons (de_cty (cj_tuple K) (by rfl) T.z_tuple (by decide +kernel) (da_cons (de_var (pv 4)) da_nil)) da_nil)))))
    (ds_cons (ds_set (i := 12) sc_law_wrong.nd rfl (Or.inl rfl) (de_lst nF_ok (da_cons (de_non pe_non) (da_cons (de_tup da_nil) (da_cons (de_sl (oj_sl K nF_ok) (de_var (pv 11)) (do_no K) (do_i K (de_int pe_int))) (da_cons (de_op (oj_add K nF_ok) (de_var (pv 11)) (de_tup (da_cons (de_int pe_int) da_nil))) (da_cons (de_call b (ok_law_with T) (by decide) rfl (da_cons (de_var (pv 11)) (da_cons (de_int pe_int) (da_cons (de_str pe_str) da_nil)))) (da_cons (de_call b (ok_law_with T) (by decide) rfl (da_cons (de_var (pv 11)) (da_cons (de_int pe_int) (da_cons (de_neg (de_int pe_int)) da_nil)))) (da_cons (de_cty (cj_list K b.calm nF_ok) (by rfl) T.z_list (by decide +kernel) (da_cons (de_var (pv 11)) da_nil)) (da_cons (de_int pe_int) da_nil))))))))))
    (ds_cons (ds_set (i := 12) sc_law_wrong.nd rfl (Or.inl rfl) (de_op (oj_add K nF_ok) (de_var (pv 12)) (de_lst nF_ok (da_cons (de_call b (ok_law_with T) (by decide) rfl (da_cons (de_var (pv 11)) (da_cons (de_int pe_int) (da_cons (de_bl pe_bl) da_nil)))) (da_cons (de_call b (ok_law_with T) (by decide) rfl (da_cons (de_var (pv 11)) (da_cons (de_int pe_int) (da_cons (de_non pe_non) da_nil)))) (da_cons (de_call b (ok_law_with T) (by decide) rfl (da_cons (de_var (pv 11)) (da_cons (de_int pe_int) (da_cons (de_cty (cj_list K b.calm nF_ok) (by rfl) T.z_list (by decide +kernel) (da_cons (de_var (pv 4)) da_nil)) da_nil)))) (da_cons (de_call b (ok_law_with T) (by decide) rfl (da_cons (de_var (pv 11)) (da_cons (de_int pe_int) (da_cons (de_int pe_int) da_nil)))) da_nil)))))))
    (ds_cons (ds_set (i := 12) sc_law_wrong.nd rfl (Or.inl rfl) (de_op (oj_add K nF_ok) (de_var (pv 12)) (de_lst nF_ok (da_cons (de_call b (ok_law_with T) (by decide) rfl (da_cons (de_var (pv 11)) (da_cons (de_int pe_int) (da_cons (de_op (oj_add K nF_ok) (de_var (pv 3)) (de_int pe_int)) da_nil)))) (da_cons (de_d0 dF_ok) (da_cons (de_lst nF_ok (da_cons (de_str pe_str) da_nil)) da_nil))))))
    (ds_cons (ds_for b.po b.calm (di_seq (de_var (pv 12))) (dg_nm (pg_name (i := 13) sc_law_wrong.nd rfl (Or.inl rfl))) (ds_one (ds_if (dt_cmp (oj_isnotB K) (de_call b (ok_is_certificate T) (by decide) rfl (da_cons (de_var (pv 1)) (da_cons (de_var (pv 13)) (da_cons (de_var (pv 2)) (da_cons (de_ix (oj_ix K b.hu1) (de_var (pv 2)) (de_int pe_int) (fun _ _ => rfl)) da_nil))))) (de_bl pe_bl) (nomark _)) (ds_one (ds_ret (de_bl pe_bl))) ds_nil)))
    (ds_cons (ds_set (i := 14) sc_law_wrong.nd rfl (Or.inl rfl) (de_call b (ok_law_with T) (by decide) rfl (da_cons (de_var (pv 2)) (da_cons (de_int pe_int) (da_cons (de_op (oj_add K nF_ok) (de_ix (oj_ix K b.hu1) (de_var (pv 2)) (de_int pe_int) (fun _ _ => rfl)) (de_int pe_int)) da_nil)))))
    (ds_one (ds_ret (de_cmp (oj_isB K) (de_call b (ok_is_certificate T) (by decide) rfl (da_cons (de_var (pv 1)) (da_cons (de_var (pv 11)) (da_cons (de_var (pv 14)) (da_cons (de_ix (oj_ix K b.hu1) (de_var (pv 14)) (de_int pe_int) (fun _ _ => rfl)) da_nil))))) (de_bl pe_bl) (nomark _)))))))))))))))))
def B_law (K : PySem.W.Frag) : DS :=
    (sSeq (sAsg (dLst nM (dCons (dB (cList nF) (dCons (dVar 0) dNil)) (dCons (dC (.int 0)) (dCons (dC (.int 0)) (dCons (dC (.int 1)) dNil))))) (gNm 1))
    (sSeq (sAsg (dCall (D_law_owners K) (dCons (dVar 1) dNil)) (gNm 2))
    (sSeq (sAsg (dCall (D_law_header K) (dCons (dVar 1) (dCons (dVar 2) dNil))) (gNm 3))
    (sSeq (sIf (dtOr (dTst (dOp (qEq false) (dCall (D_quorum K) (dCons (dVar 2) dNil)) (dOp qSub (dB cLen (dCons (dVar 2) dNil)) (dOp qFdiv (dOp qSub (dB cLen (dCons (dVar 2) dNil)) (dC (.int 1))) (dC (.int 3)))))) (dtNot (dTru (dCall (D_law_forms K) (dCons (dVar 1) (dCons (dVar 3) dNil)))))) (sRet (dC (.bl false))) sNx)
    (sSeq (sAsg (dMake (He.ga K "Registry") (D_Registry__init_ K) dNil) (gNm 4))
    (sSeq (sAsg (dOp (qAdd nF) (dC (.int 2)) (dCall (D_law_next K) (dCons (dVar 1) (dCons (dC (.int 5)) dNil)))) (gNm 5))
    (sSeq (sAsg (dCall (D_law_sealed K) (dCons (dVar 1) (dCons (dVar 4) (dCons (dVar 3) (dCons (dVar 5) dNil))))) (gTp 3 (gCo (gNm 6) (gCo (gNm 7) (gCo (gNm 8) gNi)))))
    (sSeq (sIf (dTst (dOp (qEq false) (dCall (D_law_asked K) (dCons (dVar 4) (dCons (dVar 3) (dCons (dVar 5) (dCons (dVar 8) dNil))))) (dOp (qLt false true) (dB cLen (dCons (dVar 8) dNil)) (dCall (D_quorum K) (dCons (dVar 2) dNil))))) (sRet (dC (.bl false))) sNx)
    (sSeq (sFor (diSeq (dB (cSortT nF) (dCons (dVar 2) dNil))) (gNm 9) (sIf (dtAnd (dTst (dOp (qLt false false) (dB cLen (dCons (dVar 8) dNil)) (dCall (D_quorum K) (dCons (dVar 2) dNil)))) (dTst (dOp (qIn false) (dVar 9) (dVar 8)))) (sSeq (sDrop (dMeth (He.ga K "Pen") "seal" (D_Pen_seal K) (dOp qIx (dVar 6) (dVar 9)) (dCons (dVar 7) dNil)))
    (sSeq (sAsg (dB (cSorted nF) (dCons (dOp (qAdd nF) (dVar 8) (dLst nF (dCons (dVar 9) dNil))) dNil)) (gNm 8))
    (sIf (dTst (dOp (qEq false) (dCall (D_law_asked K) (dCons (dVar 4) (dCons (dVar 3) (dCons (dVar 5) (dCons (dVar 8) dNil))))) (dOp (qLt false true) (dB cLen (dCons (dVar 8) dNil)) (dCall (D_quorum K) (dCons (dVar 2) dNil))))) (sRet (dC (.bl false))) sNx))) sNx))
    (sSeq (sAsg (dSl (qSl nF) (dVar 8) (doI (dOp qSub (dB cLen (dCons (dVar 8) dNil)) (dCall (D_quorum K) (dCons (dVar 2) dNil)))) doNo) (gNm 10))
    (sSeq (sAsg (dOp qIx (dLc nF [12] (diR2 (dCons (dC (.int 400)) (dCons (dC (.int 600)) dNil))) (tN 12) (dTst (dOp (qIn false) (dVar 12) (dVar 2))) (dVar 12)) (dCall (D_law_next K) (dCons (dVar 1) (dCons (dC (.int 100)) dNil)))) (gNm 11))
    (sSeq (sDrop (dMeth (He.ga K "Pen") "seal" (D_Pen_seal K) (dMeth (He.ga K "Registry") "pen" (D_Registry_pen K) (dVar 4) (dCons (dVar 11) dNil)) (dCons (dVar 7) dNil)))
    (sRet (dAnd (dOp (qIsB true) (dCall (D_law_asked K) (dCons (dVar 4) (dCons (dVar 3) (dCons (dVar 5) (dCons (dVar 10) dNil))))) (dC (.bl true))) (dCall (D_law_wrong K) (dCons (dVar 1) (dCons (dVar 4) (dCons (dVar 3) (dCons (dVar 5) (dCons (dVar 8) (dCons (dVar 11) dNil)))))))))))))))))))))
def D_law (K : PySem.W.Frag) : FD := dFun 1 12 (B_law K)
theorem U_law {K : PySem.W.Frag} {x0 : Dv} {g : Ah} {R : DQ} {Y : Xc} (h : B_law K ⟨fun _ g => R .non g, R, fun _ _ => False, fun _ _ => False, fun x _ g => Y x g⟩ [some x0, none, none, none, none, none, none, none, none, none, none, none, none] g) : D_law K [x0] g R Y := ⟨rfl, h⟩
theorem law_end {P : Program} {w : World} {K : PySem.W.Frag} {mg : Str → Option Value} {fa : Addr} (T : Txt K mg) (hmg : mg "law" = some (.ref fa)) :
    ∃ fd : FuncData, (∀ (s : Shared) (v : Value), BindsTo s fd ⟨[v], []⟩ [("script", v)]) ∧ ∀ base : Heap, FnG P w K mg base 6 fa fd ["script"] (fun vs H Q _ => spL K (dFun 1 12 (B_law K)) vs H Q E0) :=
  T.f_law.lawD hmg sc_law bd_law rfl fun base f cdv A outer s H E b =>
    (ds_cons (ds_set (i := 1) sc_law.nd rfl (Or.inl rfl) (de_lst nM_ok (da_cons (de_cty (cj_list K b.calm nF_ok) (by rfl) T.z_list (by decide +kernel) (da_cons (de_var (pv 0)) da_nil)) (da_cons (de_int pe_int) (da_cons (de_int pe_int) (da_cons (de_int pe_int) da_nil))))))
    (ds_cons (ds_set (i := 2) sc_law.nd rfl (Or.inr rfl) (de_call b (ok_law_owners T) (by decide) rfl (da_cons (de_var (pv 1)) da_nil)))
    (ds_cons (ds_set (i := 3) sc_law.nd rfl (Or.inl rfl) (de_call b (ok_law_header T) (by decide) rfl (da_cons (de_var (pv 1)) (da_cons (de_var (pv 2)) da_nil))))
    (ds_cons (ds_if (PW.pt (dw_or (dt_cmp (oj_ne K b.hu64) (de_call b (ok_quorum T) (by decide) rfl (da_cons (de_var (pv 2)) da_nil)) (de_op (oj_sub K) (de_cb (cj_len K) (by rfl) T.z_len (by decide +kernel) (da_cons (de_var (pv 2)) da_nil)) (de_op (oj_fdiv K) (de_op (oj_sub K) (de_cb (cj_len K) (by rfl) T.z_len (by decide +kernel) (da_cons (de_var (pv 2)) da_nil)) (de_int pe_int)) (de_int pe_int))) (nomark _)) (dw_or1 (dt_not (dt_tru (de_call b (ok_law_forms T) (by decide) rfl (da_cons (de_var (pv 1)) (da_cons (de_var (pv 3)) da_nil))) (by intro _; rfl)))))) (ds_one (ds_ret (de_bl pe_bl))) ds_nil)
    (ds_cons (ds_set (i := 4) sc_law.nd rfl (Or.inl rfl) (de_make0 b (ok_Registry__init_ T) (by decide) rfl))
    (ds_cons (ds_set (i := 5) sc_law.nd rfl (Or.inl rfl) (de_op (oj_add K nF_ok) (de_int pe_int) (de_call b (ok_law_next T) (by decide) rfl (da_cons (de_var (pv 1)) (da_cons (de_int pe_int) da_nil)))))
    (ds_cons (ds_asg (de_call b (ok_law_sealed T) (by decide) rfl (da_cons (de_var (pv 1)) (da_cons (de_var (pv 4)) (da_cons (de_var (pv 3)) (da_cons (de_var (pv 5)) da_nil))))) (dg_tp (n := 3) b.calm (dgs_cons (dg_nm (pg_name (i := 6) sc_law.nd rfl (Or.inl rfl))) (dgs_cons (dg_nm (pg_name (i := 7) sc_law.nd rfl (Or.inl rfl))) (dgs_cons (dg_nm (pg_name (i := 8) sc_law.nd rfl (Or.inl rfl))) dgs_nil)))))
    (ds_cons (ds_if (dt_cmp (oj_ne K b.hu64) (de_call b (ok_law_asked T) (by decide) rfl (da_cons (de_var (pv 4)) (da_cons (de_var (pv 3)) (da_cons (de_var (pv 5)) (da_cons (de_var (pv 8)) da_nil))))) (de_cmp (oj_ge K) (de_cb (cj_len K) (by rfl) T.z_len (by decide +kernel) (da_cons (de_var (pv 8)) da_nil)) (de_call b (ok_quorum T) (by decide) rfl (da_cons (de_var (pv 2)) da_nil)) (nomark _)) (nomark _)) (ds_one (ds_ret (de_bl pe_bl))) ds_nil)
    (ds_cons (ds_for b.po b.calm (di_seq (de_cb (cj_sortT nF_ok) (by rfl) T.z_sorted (by decide +kernel) (da_cons (de_var (pv 2)) da_nil))) (dg_nm (pg_name (i := 9) sc_law.nd rfl (Or.inl rfl))) (ds_one (ds_if (PW.pt (dw_and (dt_cmp (oj_lt K b.hu) (de_cb (cj_len K) (by rfl) T.z_len (by decide +kernel) (da_cons (de_var (pv 8)) da_nil)) (de_call b (ok_quorum T) (by decide) rfl (da_cons (de_var (pv 2)) da_nil)) (nomark _)) (dw_and1 (dt_cmp (oj_notin K b.hu65) (de_var (pv 9)) (de_var (pv 8)) rfl)))) (ds_cons (ds_drop (de_meth b (ok_Pen_seal T) (by decide) (de_ix (oj_ix K b.hu1) (de_var (pv 6)) (de_var (pv 9)) (fun _ _ => rfl)) (da_cons (de_var (pv 7)) da_nil)))
    (ds_cons (ds_set (i := 8) sc_law.nd rfl (Or.inl rfl) (de_cb (cj_sorted K b.calm nF_ok) (by rfl) T.z_sorted (by decide +kernel) (da_cons (de_op (oj_add K nF_ok) (de_var (pv 8)) (de_lst nF_ok (da_cons (de_var (pv 9)) da_nil))) da_nil)))
    (ds_one (ds_if (dt_cmp (oj_ne K b.hu64) (de_call b (ok_law_asked T) (by decide) rfl (da_cons (de_var (pv 4)) (da_cons (de_var (pv 3)) (da_cons (de_var (pv 5)) (da_cons (de_var (pv 8)) da_nil))))) (de_cmp (oj_ge K) (de_cb (cj_len K) (by rfl) T.z_len (by decide +kernel) (da_cons (de_var (pv 8)) da_nil)) (de_call b (ok_quorum T) (by decide) rfl (da_cons (de_var (pv 2)) da_nil)) (nomark _)) (nomark _)) (ds_one (ds_ret (de_bl pe_bl))) ds_nil)))) ds_nil)))
    (ds_cons (ds_set (i := 10) sc_law.nd rfl (Or.inl rfl) (de_sl (oj_sl K nF_ok) (de_var (pv 8)) (do_i K (de_op (oj_sub K) (de_cb (cj_len K) (by rfl) T.z_len (by decide +kernel) (da_cons (de_var (pv 8)) da_nil)) (de_call b (ok_quorum T) (by decide) rfl (da_cons (de_var (pv 2)) da_nil)))) (do_no K)))
    (ds_cons (ds_set (i := 11) sc_law.nd rfl (Or.inl rfl) (de_ix (oj_ix K b.hu1) (de_lc (own := [("other", 12)]) b.calm nF_ok sc_law.nd (di_r2 rfl T.z_range (da_cons (de_int pe_int) (da_cons (de_int pe_int) da_nil))) (blkOk_by (own := [("other", 12)]) (N := nm_law) (sc := defScope s_law) (by decide +kernel)) lt_n (fun _ _ _ _ _ => pg_name (i := 12) sc_law.nd rfl (Or.inl rfl)) (fun _ _ _ _ _ => pts_one (dt_cmp (oj_notin K b.hu65) (de_var (pv 12)) (de_var (pv 2)) rfl)) (fun _ _ _ _ _ => (de_var (pv 12)))) (de_call b (ok_law_next T) (by decide) rfl (da_cons (de_var (pv 1)) (da_cons (de_int pe_int) da_nil))) (fun _ _ => rfl)))
    (ds_cons (ds_drop (de_meth b (ok_Pen_seal T) (by decide) (de_meth b (ok_Registry_pen T) (by decide) (de_var (pv 4)) (da_cons (de_var (pv 11)) da_nil)) (da_cons (de_var (pv 7)) da_nil)))
    (ds_one (ds_ret (de_and (de_cmp (oj_isB K) (de_call b (ok_law_asked T) (by decide) rfl (da_cons (de_var (pv 4)) (da_cons (de_var (pv 3)) (da_cons (de_var (pv 5)) (da_cons (de_var (pv 10)) da_nil))))) (de_bl pe_bl) (nomark _)) (pe_one (de_call b (ok_law_wrong T) (by decide) rfl (da_cons (de_var (pv 1)) (da_cons (de_var (pv 4)) (da_cons (de_var (pv 3)) (da_cons (de_var (pv 5)) (da_cons (de_var (pv 8)) (da_cons (de_var (pv 11)) da_nil)))))))))))))))))))))))
local macro_rules | `(tactic| walk_at "sz") => `(tactic| first | omega | (simp only [List.length_append, List.length_cons, List.length_nil, List.length_map, List.length_reverse]; omega) | (exact Nat.le_of_ble_eq_true rfl))
local macro_rules | `(tactic| walk_at "ne") => `(tactic| first | assumption | exact Ne.symm (by assumption) | exact new_ne (by assumption) (by assumption) | exact Ne.symm (new_ne (by assumption) (by assumption)) | exact mo_apart (by assumption) (by assumption) (by intro z; cases z))
local macro_rules | `(tactic| walk_at "hp") => `(tactic| first | exact ups_same | assumption | (refine Eq.trans (ups_ne ?n) ?_ <;> first | (walk_at "hp"; done) | (walk_at "ne"; done)))
local macro_rules | `(tactic| walk_at "vw") => `(tactic| first | assumption | rfl | (apply vw_lstE; walk_at "hp"; done) | (apply vm_lstE; walk_at "hp"; done) | (apply vl_lstE; walk_at "hp"; done) | (apply vs_lstE; walk_at "hp"; done) | (apply vw_dctE; walk_at "hp"; done))
local macro_rules | `(tactic| walk_at "ci") => `(tactic| first | (with_reducible assumption) | (show (0 : Int) < _; omega) | (show (0 : Int) < _; decide) | (show (0 : Int) ≤ _; omega) | exact ⟨by decide, by decide⟩ | exact ⟨by decide, by decide, by decide⟩ | exact cmul_small (by omega) (by omega) | exact cdiv_small (by omega) (by omega) | exact cpow_small (by omega) (by omega) (by omega) | exact ⟨by omega, by assumption⟩ | exact .inl ⟨by decide, by decide⟩ | exact .inr ⟨by decide, by decide⟩ | exact .inl ⟨by omega, by omega⟩ | exact .inr ⟨by omega, by omega⟩)
local macro_rules | `(tactic| walk_at "s1") => `(tactic| first | (with_reducible (first | refine r_seq ?_ | refine r_var rfl ?_ | refine r_c ?_ | refine r_op ?_ | refine r_asg ?_ | refine r_gnm ?_ | refine r_i0 ?_ | refine r_addI ?_ | refine r_sif ?_ | refine r_tst ?_ | refine r_tru ?_ | refine r_asB ?_ | refine r_ret ?_ | refine r_retN ?_ | refine r_nx ?_ | refine r_drop ?_ | refine r_eqI ?_ | refine r_eqS ?_ | refine r_neS ?_ | refine r_eqNI ?_ | refine r_eqB ?_ | refine r_neB ?_ | refine r_neI ?_ | refine r_ltI ?_ | refine r_gtI ?_ | refine r_leI ?_ | refine r_geI ?_ | refine r_call ?_ | refine r_cons ?_ | refine r_nil ?_ | refine r_b ?_ | refine r_un ?_ | refine r_neg ?_ | refine r_tnot ?_ | refine r_tand ?_ | refine r_tor ?_ | refine r_and ?_ | refine r_or ?_ | refine r_not ?_ | refine r_if ?_ | refine r_lst ?_ | refine r_tup ?_ | refine r_tupQ ?_ | refine r_sortK ?_ | refine r_isC (by assumption) ?_ | refine r_nF ?_ | refine r_chain ?_ | refine r_frz ?_ | refine r_isN ?_ | refine r_isI ?_ | refine r_isB ?_ | refine r_isS ?_ | refine r_isL ?_ | refine r_isT ?_ | refine r_isR ?_ | refine r_nisN ?_ | refine r_nisI ?_ | refine r_nisB ?_ | refine r_nisS ?_ | refine r_nisL ?_ | refine r_nisT ?_ | refine r_nisR ?_ | refine t_non ?_ | refine t_bl ?_ | refine t_int ?_ | refine t_tup ?_ | refine r_sl ?_ | refine r_doNo ?_ | refine r_doI ?_ | refine r_part ?_ | refine r_slT ?_ | refine r_fld ?_ | refine r_sfl ?_ | refine r_sfla ?_ | refine r_meth ?_ | refine r_mt ?_ | refine r_isSv ?_ | refine r_get1 ?_ | refine r_get2 ?_ | refine r_intI ?_ | refine r_intB ?_ | refine r_boolI ?_ | refine r_boolB ?_ | refine r_absI ?_ | refine r_max ?_ | refine r_min ?_ | refine r_tupleT ?_ | refine r_brk ?_ | refine r_ct ?_ | refine r_aug rfl ?_ | refine r_augS ?_ | refine r_rs ?_ | refine r_iaddI ?_ | refine r_get ?_ | refine r_gco ?_ | refine r_gni ?_ | refine r_gsb ?_ | refine r_par ?_ | refine r_par2 ?_ | refine r_for ?_ | refine r_seqI ?_ | refine r_revI ?_ | refine r_revL ?_ | refine r_zipI ?_ | refine r_seqL ?_ | refine r_seqF ?_ | refine r_seqK ?_ | refine r_seqT ?_ | refine r_seqTQ ?_ | refine r_enumT ?_ | refine r_enumTq ?_ | refine r_seqKT ?_ | refine r_rng1 ?_ | refine r_rng2 ?_ | refine r_lc ?_ | refine r_lcX ?_ | refine r_yes ?_ | refine r_tN ?_ | refine r_tT2 ?_ | refine r_try ?_ | refine r_isE rfl ?_ | refine r_d0F ?_ | refine r_dsp ?_ | refine r_prs0 ?_ | refine r_prs1 ?_ | refine r_frzV (fun _ z => nomatch z) ?_ | refine iteT ?_ | refine iteF ?_ | refine iteNT ?_ | refine iteNF ?_)) | ((with_reducible apply r_nw); (case hz => exact Nat.le_of_ble_eq_true rfl)) | ((with_reducible apply r_nwT); (case hz => exact Nat.le_of_ble_eq_true rfl)) | ((with_reducible apply r_i); (case hc => walk_at "ci")) | ((with_reducible apply r_mulI); (case hc => first | exact .inl (.inr ⟨by decide, by decide⟩) | exact .inl (.inl ⟨by decide, by decide⟩) | exact .inl (.inr ⟨by omega, by omega⟩) | exact .inl (.inl ⟨by omega, by omega⟩) | assumption)) | ((with_reducible apply r_fldA); (case h => walk_at "hp"); (case hP => exact rfl); (case hl => exact rfl)) | ((with_reducible apply r_setA); (case h => walk_at "hp"); (case hP => exact rfl); (case hl => exact Nat.le_of_ble_eq_true rfl)) | ((with_reducible apply r_augA); (case h => walk_at "hp"); (case hP => exact rfl); (case hl => exact rfl)) | ((with_reducible apply r_setB); (case h => walk_at "hp"); (case hl => exact Nat.le_of_ble_eq_true rfl)) | ((with_reducible apply r_methA); (case h => walk_at "hp"); (case hl => exact rfl)) | ((with_reducible apply r_isLv); (case h => walk_at "vw")) | ((with_reducible apply r_isDv); (case h => walk_at "vw")) | ((with_reducible apply r_isDkv); (case h => walk_at "vw")) | ((with_reducible apply r_ixD); (case h1 => walk_at "vw"); (case hk => exact rfl); (case h2 => exact rfl)) | ((with_reducible apply r_ixL); (case h1 => walk_at "vw"); (case h2 => first | exact rfl | exact atI_nat (by assumption) | exact atI_nat (i := 0) (by assumption) | exact atI_nat (i := 3) (by assumption))) | ((with_reducible apply r_ixT); (case h1 => walk_at "vw"); (case h2 => first | exact rfl | exact atI_nat (by assumption))) | ((with_reducible apply r_gtp); (case h1 => walk_at "vw"); (case hl => exact rfl)) | ((with_reducible apply r_putL); (case h1 => walk_at "hp"); (case h2 => first | exact rfl | exact ixN_nat (by assumption) | exact ixN_nat (i := 0) (by assumption) | exact ixN_nat (i := 3) (by assumption))) | ((with_reducible apply r_putD); (case h1 => walk_at "hp"); (case hk => exact rfl); (case hz => exact Nat.le_of_ble_eq_true rfl)) | ((with_reducible apply r_addL); (case h1 => walk_at "vw"); (case h2 => walk_at "vw"); (case hz => walk_at "sz")) | ((with_reducible apply r_app); (case h => walk_at "hp"); (case hz => walk_at "sz")) | ((with_reducible apply r_ext); (case h => walk_at "hp"); (case h2 => walk_at "vw"); (case hz => walk_at "sz")) | ((with_reducible apply r_pop0); (case h => walk_at "hp")) | ((with_reducible apply r_len); (case h1 => walk_at "vw"); intro _) | ((with_reducible apply r_lenT); (case h1 => walk_at "vw"); intro _) | ((with_reducible apply r_lenD); (case h1 => walk_at "vw")) | ((with_reducible apply r_list); (case h1 => walk_at "vw")) | ((with_reducible apply r_listT); (case h1 => walk_at "vw")) | ((with_reducible apply r_tuple); (case h1 => walk_at "vw")) | ((with_reducible apply r_isi); (case h1 => exact rfl)) | ((with_reducible apply r_isiV); (case h0 => assumption); (case h1 => exact rfl)) | ((with_reducible apply r_isiL); (case h0 => walk_at "vw"); (case h1 => exact rfl)) | ((with_reducible apply r_isiD); (case h0 => walk_at "vw"); (case h1 => exact rfl)) | ((with_reducible apply r_slL); (case h1 => walk_at "vw")) | ((with_reducible apply r_rev); (case h1 => walk_at "vw")) | ((with_reducible apply r_seqR); (case h1 => walk_at "hp")) | ((with_reducible apply r_revR); (case h1 => walk_at "hp")) | ((with_reducible apply r_zipRL); (case h1 => walk_at "hp")) | ((with_reducible apply r_frzL); (case h => walk_at "hp")) | ((with_reducible apply r_frzD); (case h => walk_at "hp")) | ((with_reducible apply r_rng1I); (case h1 => omega); (case h2 => omega)) | ((with_reducible apply r_rng2I); (case h1 => omega)) | ((with_reducible apply t_lst); (case h1 => walk_at "vw")))
local macro_rules | `(tactic| walk_at "s") => `(tactic| repeat (walk_at "s1"))
local macro_rules | `(tactic| walk_at "ag") => `(tactic| first | exact Agr.refl | assumption | (refine Agr.ups ?_ (by first | exact .head _ | exact .tail _ (.head _) | exact .tail _ (.tail _ (.head _)) | exact .tail _ (.tail _ (.tail _ (.head _))) | exact .tail _ (.tail _ (.tail _ (.tail _ (.head _))))); walk_at "ag") | (refine Agr.new ?_ (by first | assumption | (rw [ups_ne (by walk_at "ne")]; assumption)); walk_at "ag") | (refine Agr.fr ?_ (by first | assumption | exact Agr.fresh (by assumption) (by assumption)); walk_at "ag") | (refine Agr.del ?_ (by first | exact .head _ | exact .tail _ (.head _) | exact .tail _ (.tail _ (.head _)) | exact .tail _ (.tail _ (.tail _ (.head _))) | exact .tail _ (.tail _ (.tail _ (.tail _ (.head _))))); walk_at "ag") | (refine Agr.delN ?_ (by assumption); walk_at "ag"))
local macro_rules | `(tactic| walk_at "q1") => `(tactic| first | (with_reducible (first | refine r_seq ?_ | refine r_var rfl ?_ | refine r_c ?_ | refine r_op ?_ | refine r_asg ?_ | refine r_gnm ?_ | refine r_i0 ?_ | refine r_addI ?_ | refine r_tst ?_ | refine r_tru ?_ | refine r_asB ?_ | refine r_ret ?_ | refine r_retN ?_ | refine r_nx ?_ | refine r_drop ?_ | refine r_eqI ?_ | refine r_eqS ?_ | refine r_neS ?_ | refine r_eqNI ?_ | refine r_eqB ?_ | refine r_neB ?_ | refine r_neI ?_ | refine r_ltI ?_ | refine r_gtI ?_ | refine r_leI ?_ | refine r_geI ?_ | refine r_call ?_ | refine r_cons ?_ | refine r_nil ?_ | refine r_b ?_ | refine r_un ?_ | refine r_neg ?_ | refine r_tnot ?_ | refine r_tand ?_ | refine r_tor ?_ | refine r_and ?_ | refine r_or ?_ | refine r_not ?_ | refine r_if ?_ | refine r_lst ?_ | refine r_tup ?_ | refine r_tupQ ?_ | refine r_sortK ?_ | refine r_isC (by assumption) ?_ | refine r_nF ?_ | refine r_chain ?_ | refine r_frz ?_ | refine r_isN ?_ | refine r_isI ?_ | refine r_isB ?_ | refine r_isS ?_ | refine r_isL ?_ | refine r_isT ?_ | refine r_isR ?_ | refine r_nisN ?_ | refine r_nisI ?_ | refine r_nisB ?_ | refine r_nisS ?_ | refine r_nisL ?_ | refine r_nisT ?_ | refine r_nisR ?_ | refine t_non ?_ | refine t_bl ?_ | refine t_int ?_ | refine t_tup ?_ | refine r_sl ?_ | refine r_doNo ?_ | refine r_doI ?_ | refine r_part ?_ | refine r_slT ?_ | refine r_fld ?_ | refine r_sfl ?_ | refine r_sfla ?_ | refine r_meth ?_ | refine r_mt ?_ | refine r_isSv ?_ | refine r_get1 ?_ | refine r_get2 ?_ | refine r_intI ?_ | refine r_intB ?_ | refine r_boolI ?_ | refine r_boolB ?_ | refine r_absI ?_ | refine r_max ?_ | refine r_min ?_ | refine r_tupleT ?_ | refine r_brk ?_ | refine r_ct ?_ | refine r_aug rfl ?_ | refine r_augS ?_ | refine r_rs ?_ | refine r_iaddI ?_ | refine r_get ?_ | refine r_gco ?_ | refine r_gni ?_ | refine r_gsb ?_ | refine r_par ?_ | refine r_par2 ?_ | refine r_seqI ?_ | refine r_revI ?_ | refine r_revL ?_ | refine r_zipI ?_ | refine r_seqL ?_ | refine r_seqF ?_ | refine r_seqK ?_ | refine r_seqT ?_ | refine r_seqTQ ?_ | refine r_enumT ?_ | refine r_enumTq ?_ | refine r_seqKT ?_ | refine r_rng1 ?_ | refine r_rng2 ?_ | refine r_lc ?_ | refine r_lcX ?_ | refine r_yes ?_ | refine r_tN ?_ | refine r_tT2 ?_ | refine r_isE rfl ?_ | refine r_d0F ?_ | refine r_dsp ?_ | refine r_prs0 ?_ | refine r_prs1 ?_ | refine r_frzV (fun _ z => nomatch z) ?_ | refine iteT ?_ | refine iteF ?_ | refine iteNT ?_ | refine iteNF ?_)) | ((with_reducible apply r_nw); (case hz => exact Nat.le_of_ble_eq_true rfl)) | ((with_reducible apply r_nwT); (case hz => exact Nat.le_of_ble_eq_true rfl)) | ((with_reducible apply r_i); (case hc => walk_at "ci")) | ((with_reducible apply r_mulI); (case hc => first | exact .inl (.inr ⟨by decide, by decide⟩) | exact .inl (.inl ⟨by decide, by decide⟩) | exact .inl (.inr ⟨by omega, by omega⟩) | exact .inl (.inl ⟨by omega, by omega⟩) | assumption)) | ((with_reducible apply r_fldA); (case h => walk_at "hp"); (case hP => exact rfl); (case hl => exact rfl)) | ((with_reducible apply r_setA); (case h => walk_at "hp"); (case hP => exact rfl); (case hl => exact Nat.le_of_ble_eq_true rfl)) | ((with_reducible apply r_augA); (case h => walk_at "hp"); (case hP => exact rfl); (case hl => exact rfl)) | ((with_reducible apply r_setB); (case h => walk_at "hp"); (case hl => exact Nat.le_of_ble_eq_true rfl)) | ((with_reducible apply r_methA); (case h => walk_at "hp"); (case hl => exact rfl)) | ((with_reducible apply r_isLv); (case h => walk_at "vw")) | ((with_reducible apply r_isDv); (case h => walk_at "vw")) | ((with_reducible apply r_isDkv); (case h => walk_at "vw")) | ((with_reducible apply r_ixD); (case h1 => walk_at "vw"); (case hk => exact rfl); (case h2 => exact rfl)) | ((with_reducible apply r_ixL); (case h1 => walk_at "vw"); (case h2 => first | exact rfl | exact atI_nat (by assumption) | exact atI_nat (i := 0) (by assumption) | exact atI_nat (i := 3) (by assumption))) | ((with_reducible apply r_ixT); (case h1 => walk_at "vw"); (case h2 => first | exact rfl | exact atI_nat (by assumption))) | ((with_reducible apply r_gtp); (case h1 => walk_at "vw"); (case hl => exact rfl)) | ((with_reducible apply r_putL); (case h1 => walk_at "hp"); (case h2 => first | exact rfl | exact ixN_nat (by assumption) | exact ixN_nat (i := 0) (by assumption) | exact ixN_nat (i := 3) (by assumption))) | ((with_reducible apply r_putD); (case h1 => walk_at "hp"); (case hk => exact rfl); (case hz => exact Nat.le_of_ble_eq_true rfl)) | ((with_reducible apply r_addL); (case h1 => walk_at "vw"); (case h2 => walk_at "vw"); (case hz => walk_at "sz")) | ((with_reducible apply r_app); (case h => walk_at "hp"); (case hz => walk_at "sz")) | ((with_reducible apply r_ext); (case h => walk_at "hp"); (case h2 => walk_at "vw"); (case hz => walk_at "sz")) | ((with_reducible apply r_pop0); (case h => walk_at "hp")) | ((with_reducible apply r_len); (case h1 => walk_at "vw"); intro _) | ((with_reducible apply r_lenT); (case h1 => walk_at "vw"); intro _) | ((with_reducible apply r_lenD); (case h1 => walk_at "vw")) | ((with_reducible apply r_list); (case h1 => walk_at "vw")) | ((with_reducible apply r_listT); (case h1 => walk_at "vw")) | ((with_reducible apply r_tuple); (case h1 => walk_at "vw")) | ((with_reducible apply r_isi); (case h1 => exact rfl)) | ((with_reducible apply r_isiV); (case h0 => assumption); (case h1 => exact rfl)) | ((with_reducible apply r_isiL); (case h0 => walk_at "vw"); (case h1 => exact rfl)) | ((with_reducible apply r_isiD); (case h0 => walk_at "vw"); (case h1 => exact rfl)) | ((with_reducible apply r_slL); (case h1 => walk_at "vw")) | ((with_reducible apply r_rev); (case h1 => walk_at "vw")) | ((with_reducible apply r_seqR); (case h1 => walk_at "hp")) | ((with_reducible apply r_revR); (case h1 => walk_at "hp")) | ((with_reducible apply r_zipRL); (case h1 => walk_at "hp")) | ((with_reducible apply r_frzL); (case h => walk_at "hp")) | ((with_reducible apply r_frzD); (case h => walk_at "hp")) | ((with_reducible apply r_rng1I); (case h1 => omega); (case h2 => omega)) | ((with_reducible apply r_rng2I); (case h1 => omega)) | ((with_reducible apply t_lst); (case h1 => walk_at "vw")))
local macro_rules | `(tactic| walk_at "q") => `(tactic| repeat (walk_at "q1"))
local macro_rules | `(tactic| walk_at "sb") => `(tactic| (walk_at "s"; (try (first | ((with_reducible refine r_dec (fun _ => ?_) (fun _ => ?_)) <;> walk_at "sb") | ((with_reducible refine r_iteN (fun _ => ?_) (fun _ => ?_)) <;> walk_at "sb") | ((with_reducible refine r_ite (fun _ => ?_) (fun _ => ?_)) <;> walk_at "sb")))))
/-! ### what repr shows tells the value: plain values of None, bools, numbers, quoted texts and tuples -/
/-- a text whose shown form is itself between quotes that it has not -/
def Tx (z : Str) : Prop := PyData.strOk z = true ∧ ∃ q, (q = 39 ∨ q = 34) ∧ q ∉ z.cps.toList ∧ (reprText z).cps.toList = q :: (z.cps.toList ++ [q])
mutual
def Pl : PyData → Prop
  | .none | .bool _ | .int _ => True
  | .str z => Tx z
  | .tuple xs => PlAll xs
  | .list _ | .dict _ => False
def PlAll : List PyData → Prop
  | [] => True
  | x :: xs => Pl x ∧ PlAll xs
end
abbrev sh (d : PyData) : List Nat := d.shown.cps.toList
def Stop (r : List Nat) : Prop := ∀ c ∈ r.head?, c = 44 ∨ c = 41
/-- what stands behind the first item of a tuple -/
def tl : List PyData → List Nat
  | [] => [41]
  | x :: xs => 44 :: 32 :: (sh x ++ tl xs)
theorem app_cps (a b : Str) : (a ++ b).cps.toList = a.cps.toList ++ b.cps.toList := by
  show (a.cps ++ b.cps).toList = _
  exact Array.toList_append
theorem join_tl : ∀ (x : PyData) (xs : List PyData), (Str.join ", " (PyData.shownAll (x :: xs))).cps.toList ++ [41] = sh x ++ tl xs
  | x, [] => by simp only [PyData.shownAll]; rfl
  | x, y :: xs => by
    have ih := join_tl y xs
    simp only [PyData.shownAll] at ih ⊢
    rw [PyProof.Rows.join_cons_cons, app_cps, app_cps, tl]
    rw [List.append_assoc, ih]
    rw [List.append_assoc]
    rfl
theorem sh_tuple : ∀ xs : List PyData, sh (.tuple xs) = 40 :: (match xs with
    | [] => [41]
    | [x] => sh x ++ [44, 41]
    | x :: y :: xs => sh x ++ tl (y :: xs))
  | [] => by simp only [sh, PyData.shown, PyData.shownAll]; decide +kernel
  | [x] => by
    simp only [sh, PyData.shown, PyData.shownAll]
    unfold tupleText
    rw [app_cps, app_cps]
    rfl
  | x :: y :: xs => by
    have h := join_tl x (y :: xs)
    show (PyData.shown (.tuple (x :: y :: xs))).cps.toList = 40 :: (sh x ++ tl (y :: xs))
    rw [← h]
    simp only [PyData.shown]
    unfold tupleText
    rw [app_cps, app_cps]
    have e : ((PyData.shownAll (x :: y :: xs)).length == 1) = false := by simp [PyData.shownAll]
    rw [e]
    rfl
theorem int_text_inj {i j : Int} (h : sh (.int i) = sh (.int j)) : i = j := by
  simp only [sh, PyData.shown] at h
  rw [PyProof.Rows.signs_ofString, PyProof.Rows.signs_ofString] at h
  have h2 : (toString i).toList = (toString j).toList := (List.map_inj_right (fun a b e => Char.ext (UInt32.toNat_inj.mp e))).mp h
  have h3 : toString i = toString j := String.toList_inj.mp h2
  exact Int.repr_inj.mp h3
theorem span_inj {P : Nat → Prop} : ∀ {xs ys r r' : List Nat}, (∀ c ∈ xs, P c) → (∀ c ∈ ys, P c) → (∀ c ∈ r.head?, ¬P c) → (∀ c ∈ r'.head?, ¬P c) → xs ++ r = ys ++ r' → xs = ys ∧ r = r'
  | [], [], r, r', _, _, _, _, e => ⟨rfl, e⟩
  | [], y :: ys, r, r', _, h2, h3, _, e => by
    have e : r = y :: (ys ++ r') := e
    exact absurd (h2 y List.mem_cons_self) (h3 y (by rw [e]; rfl))
  | x :: xs, [], r, r', h1, _, _, h4, e => by
    have e : r' = x :: (xs ++ r) := e.symm
    exact absurd (h1 x List.mem_cons_self) (h4 x (by rw [e]; rfl))
  | x :: xs, y :: ys, r, r', h1, h2, h3, h4, e => by
    rw [List.cons_append, List.cons_append] at e
    obtain ⟨e1, e2⟩ := List.cons.inj e
    obtain ⟨e3, e4⟩ := span_inj (fun c hc => h1 c (List.mem_cons_of_mem _ hc)) (fun c hc => h2 c (List.mem_cons_of_mem _ hc)) h3 h4 e2
    exact ⟨by rw [e1, e3], e4⟩
/-- the first sign of what is shown -/
inductive Hd : PyData → List Nat → Prop
  | non : Hd .none [78, 111, 110, 101]
  | tr : Hd (.bool true) [84, 114, 117, 101]
  | fa : Hd (.bool false) [70, 97, 108, 115, 101]
  | int (i : Int) {t : List Nat} : (∀ k : Nat, (k ≠ 45 ∧ (k < 48 ∨ 57 < k)) → k ∉ t) → t = sh (.int i) → Hd (.int i) t
  | str {z : Str} {q : Nat} : (q = 39 ∨ q = 34) → q ∉ z.cps.toList → Hd (.str z) (q :: (z.cps.toList ++ [q]))
  | tup (xs : List PyData) {t : List Nat} : sh (.tuple xs) = 40 :: t → Hd (.tuple xs) (40 :: t)
theorem hd_of : ∀ {a : PyData}, Pl a → Hd a (sh a)
  | .none, _ => .non
  | .bool true, _ => .tr
  | .bool false, _ => .fa
  | .int i, _ => .int i (fun k hk h => PyProof.Rows.int_text_free' k hk i (by simpa only [sh, PyData.shown] using h)) rfl
  | .str z, h => by
    simp only [Pl] at h
    obtain ⟨_, q, h1, h2, h3⟩ := h
    have e : sh (.str z) = q :: (z.cps.toList ++ [q]) := by simp only [sh, PyData.shown]; exact h3
    rw [e]
    exact .str h1 h2
  | .tuple xs, _ => by
    have e := sh_tuple xs
    rw [e]
    exact .tup xs e
  | .list _, h => by simp only [Pl] at h
  | .dict _, h => by simp only [Pl] at h
theorem str_of_cps {z z' : Str} (h : z.cps.toList = z'.cps.toList) : z = z' := by
  cases z; cases z'
  congr 1
  exact Array.toList_inj.mp h
theorem stop_no {c : Nat} {t r : List Nat} (h : Stop r) (e : r = c :: t) (h1 : c ≠ 44) (h2 : c ≠ 41) : False := by
  rcases h c (by rw [e]; rfl) with z | z
  · exact h1 z
  · exact h2 z
/-- a number against what does not begin as one -/
theorem int_no {t r w : List Nat} {c : Nat} (ht : ∀ k : Nat, (k ≠ 45 ∧ (k < 48 ∨ 57 < k)) → k ∉ t) (hr : Stop r) (hc : c ≠ 45 ∧ (c < 48 ∨ 57 < c)) (h1 : c ≠ 44) (h2 : c ≠ 41) (e : t ++ r = c :: w) : False := by
  cases t with
  | nil => exact stop_no hr e h1 h2
  | cons k t =>
    obtain ⟨rfl, _⟩ := List.cons.inj e
    exact ht k hc List.mem_cons_self
theorem cons2 {c c' : Nat} {t t' : List Nat} (e : c :: t = c' :: t') : c = c' ∧ t = t' := List.cons.inj e
theorem stop44 {t : List Nat} : Stop (44 :: t) := fun c hc => by
  have : (44 : Nat) = c := by simpa using hc
  exact .inl this.symm
theorem stop41 {t : List Nat} : Stop (41 :: t) := fun c hc => by
  have : (41 : Nat) = c := by simpa using hc
  exact .inr this.symm
theorem no41 {y : PyData} {v w : List Nat} (h : Pl y) (e : sh y ++ (44 :: w) = 41 :: v) : False := by
  have hd := hd_of h
  generalize sh y = s at hd e
  cases hd with
  | non => exact absurd (cons2 e).1 (by decide)
  | tr => exact absurd (cons2 e).1 (by decide)
  | fa => exact absurd (cons2 e).1 (by decide)
  | int i ht _ =>
    cases s with
    | nil => exact absurd (cons2 e).1 (by decide)
    | cons k t =>
      have := (cons2 e).1
      exact ht 41 (by decide) (this ▸ List.mem_cons_self)
  | str hq _ => have := (cons2 e).1; omega
  | tup xs _ => exact absurd (cons2 e).1 (by decide)
theorem sh_step (n : Nat) (ih1 : ∀ (a : PyData) {b : PyData} {r r' : List Nat}, sizeOf a < n → Pl a → Pl b → Stop r → Stop r' → sh a ++ r = sh b ++ r' → a = b ∧ r = r')
    (ih2 : ∀ (xs : List PyData) {ys : List PyData} {r r' : List Nat}, sizeOf xs < n → PlAll xs → PlAll ys → tl xs ++ r = tl ys ++ r' → xs = ys ∧ r = r') :
    ∀ (a : PyData) {b : PyData} {r r' : List Nat}, sizeOf a < n + 1 → Pl a → Pl b → Stop r → Stop r' → sh a ++ r = sh b ++ r' → a = b ∧ r = r'
  | a, b, r, r', hn, pa, pb, hr, hr', e => by
    have ha := hd_of pa
    have hb := hd_of pb
    generalize hsa : sh a = s at ha e
    generalize hsb : sh b = s' at hb e
    cases ha with
    | non =>
      cases hb with
      | non => exact ⟨rfl, List.append_cancel_left e⟩
      | tr => exact absurd (cons2 e).1 (by decide)
      | fa => exact absurd (cons2 e).1 (by decide)
      | int i ht _ => exact (int_no ht hr' (by decide) (by decide) (by decide) e.symm).elim
      | str hq _ => have := (cons2 e).1; omega
      | tup xs _ => exact absurd (cons2 e).1 (by decide)
    | tr =>
      cases hb with
      | tr => exact ⟨rfl, List.append_cancel_left e⟩
      | non => exact absurd (cons2 e).1 (by decide)
      | fa => exact absurd (cons2 e).1 (by decide)
      | int i ht _ => exact (int_no ht hr' (by decide) (by decide) (by decide) e.symm).elim
      | str hq _ => have := (cons2 e).1; omega
      | tup xs _ => exact absurd (cons2 e).1 (by decide)
    | fa =>
      cases hb with
      | fa => exact ⟨rfl, List.append_cancel_left e⟩
      | non => exact absurd (cons2 e).1 (by decide)
      | tr => exact absurd (cons2 e).1 (by decide)
      | int i ht _ => exact (int_no ht hr' (by decide) (by decide) (by decide) e.symm).elim
      | str hq _ => have := (cons2 e).1; omega
      | tup xs _ => exact absurd (cons2 e).1 (by decide)
    | int i ht e1 =>
      cases hb with
      | non => exact (int_no ht hr (by decide) (by decide) (by decide) e).elim
      | tr => exact (int_no ht hr (by decide) (by decide) (by decide) e).elim
      | fa => exact (int_no ht hr (by decide) (by decide) (by decide) e).elim
      | str hq _ => exact (int_no ht hr (by omega) (by omega) (by omega) e).elim
      | tup xs _ => exact (int_no ht hr (by decide) (by decide) (by decide) e).elim
      | int j ht' e2 =>
        obtain ⟨h1, h2⟩ := span_inj (P := fun c => c ≠ 44 ∧ c ≠ 41) (fun c hc => ⟨fun z => ht 44 (by decide) (z ▸ hc), fun z => ht 41 (by decide) (z ▸ hc)⟩) (fun c hc => ⟨fun z => ht' 44 (by decide) (z ▸ hc), fun z => ht' 41 (by decide) (z ▸ hc)⟩)
          (fun c hc z => (hr c hc).elim z.1 z.2) (fun c hc z => (hr' c hc).elim z.1 z.2) e
        refine ⟨?_, h2⟩
        rw [e1, e2] at h1
        rw [int_text_inj h1]
    | @str z q hq hz =>
      cases hb with
      | non => have := (cons2 e).1; omega
      | tr => have := (cons2 e).1; omega
      | fa => have := (cons2 e).1; omega
      | int i ht _ => exact (int_no ht hr' (by omega) (by omega) (by omega) e.symm).elim
      | tup xs _ => have := (cons2 e).1; omega
      | @str z' q' hq' hz' =>
        obtain ⟨h1, h2⟩ := cons2 e
        subst h1
        have h2 : z.cps.toList ++ [q] ++ r = z'.cps.toList ++ [q] ++ r' := h2
        rw [List.append_assoc, List.append_assoc] at h2
        obtain ⟨h3, h4⟩ := span_inj (P := fun c => c ≠ q) (fun c hc z => hz (z ▸ hc)) (fun c hc z => hz' (z ▸ hc)) (fun c hc z => z (by simpa using hc.symm)) (fun c hc z => z (by simpa using hc.symm)) h2
        exact ⟨by rw [str_of_cps h3], (cons2 h4).2⟩
    | @tup xs t e1 =>
      cases hb with
      | non => exact absurd (cons2 e).1 (by decide)
      | tr => exact absurd (cons2 e).1 (by decide)
      | fa => exact absurd (cons2 e).1 (by decide)
      | int i ht _ => exact (int_no ht hr' (by decide) (by decide) (by decide) e.symm).elim
      | str hq _ => have := (cons2 e).1; omega
      | @tup ys t2 e2 =>
        have e : t ++ r = t2 ++ r' := (cons2 e).2
        have f1 := sh_tuple xs
        rw [e1] at f1
        have f1 := (cons2 f1).2
        have f2 := sh_tuple ys
        rw [e2] at f2
        have f2 := (cons2 f2).2
        rw [f1, f2] at e
        simp only [Pl] at pa pb
        clear hsa hsb e1 e2 f1 f2
        match xs, ys, pa, pb, e, hn with
        | [], [], _, _, e, _ => exact ⟨rfl, (cons2 e).2⟩
        | [], [y], _, pb, e, hn =>
          simp only [PlAll] at pb
          simp only [List.append_assoc] at e
          exact (no41 pb.1 (w := _) e.symm).elim
        | [], y :: y2 :: ys, _, pb, e, hn =>
          simp only [PlAll] at pb
          simp only [List.append_assoc] at e
          exact (no41 pb.1 (w := _) e.symm).elim
        | [x], [], pa, _, e, hn =>
          simp only [PlAll] at pa
          simp only [List.append_assoc] at e
          exact (no41 pa.1 (w := _) e).elim
        | x :: x2 :: xs, [], pa, _, e, hn =>
          simp only [PlAll] at pa
          simp only [List.append_assoc] at e
          exact (no41 pa.1 (w := _) e).elim
        | [x], [y], pa, pb, e, hn =>
          simp only [PlAll] at pa pb
          simp only [List.append_assoc] at e
          obtain ⟨h1, h2⟩ := ih1 x (r := 44 :: _) (r' := 44 :: _) (by simp at hn; omega) pa.1 pb.1 stop44 stop44 e
          exact ⟨by rw [h1], (cons2 (cons2 h2).2).2⟩
        | [x], y :: y2 :: ys, pa, pb, e, hn =>
          simp only [PlAll] at pa pb
          simp only [List.append_assoc] at e
          obtain ⟨h1, h2⟩ := ih1 x (r := 44 :: _) (r' := 44 :: _) (by simp at hn; omega) pa.1 pb.1 stop44 stop44 e
          exact absurd (cons2 (cons2 h2).2).1 (by decide)
        | x :: x2 :: xs, [y], pa, pb, e, hn =>
          simp only [PlAll] at pa pb
          simp only [List.append_assoc] at e
          obtain ⟨h1, h2⟩ := ih1 x (r := 44 :: _) (r' := 44 :: _) (by simp at hn; omega) pa.1 pb.1 stop44 stop44 e
          exact absurd (cons2 (cons2 h2).2).1 (by decide)
        | x :: x2 :: xs, y :: y2 :: ys, pa, pb, e, hn =>
          have pa' := pa
          have pb' := pb
          simp only [PlAll] at pa pb
          simp only [List.append_assoc] at e
          obtain ⟨h1, h2⟩ := ih1 x (r := 44 :: _) (r' := 44 :: _) (by simp at hn; omega) pa.1 pb.1 stop44 stop44 e
          obtain ⟨h3, h4⟩ := ih2 (x2 :: xs) (by simp at hn ⊢; omega) (show PlAll (x2 :: xs) by unfold PlAll; exact pa.2) (show PlAll (y2 :: ys) by unfold PlAll; exact pb.2) h2
          exact ⟨by rw [h1, h3], h4⟩
theorem tl_step (n : Nat) (ih1 : ∀ (a : PyData) {b : PyData} {r r' : List Nat}, sizeOf a < n → Pl a → Pl b → Stop r → Stop r' → sh a ++ r = sh b ++ r' → a = b ∧ r = r')
    (ih2 : ∀ (xs : List PyData) {ys : List PyData} {r r' : List Nat}, sizeOf xs < n → PlAll xs → PlAll ys → tl xs ++ r = tl ys ++ r' → xs = ys ∧ r = r') :
    ∀ (xs : List PyData) {ys : List PyData} {r r' : List Nat}, sizeOf xs < n + 1 → PlAll xs → PlAll ys → tl xs ++ r = tl ys ++ r' → xs = ys ∧ r = r'
  | [], [], r, r', _, _, _, e => ⟨rfl, (cons2 e).2⟩
  | [], y :: ys, r, r', _, _, _, e => absurd (cons2 e).1 (by decide)
  | x :: xs, [], r, r', _, _, _, e => absurd (cons2 e).1 (by decide)
  | x :: xs, y :: ys, r, r', hn, pa, pb, e => by
    simp only [PlAll] at pa pb
    have e2 : sh x ++ tl xs ++ r = sh y ++ tl ys ++ r' := (cons2 (cons2 e).2).2
    rw [List.append_assoc, List.append_assoc] at e2
    have st : ∀ (zs : List PyData) (r : List Nat), Stop (tl zs ++ r) := fun zs r c hc => by
      cases zs with
      | nil => exact stop41 c hc
      | cons z zs => exact stop44 c hc
    obtain ⟨h1, h2⟩ := ih1 x (by simp at hn; omega) pa.1 pb.1 (st xs r) (st ys r') e2
    obtain ⟨h3, h4⟩ := ih2 xs (by simp at hn; omega) pa.2 pb.2 h2
    exact ⟨by rw [h1, h3], h4⟩
theorem sh_inj_n : ∀ n : Nat, (∀ (a : PyData) {b : PyData} {r r' : List Nat}, sizeOf a < n → Pl a → Pl b → Stop r → Stop r' → sh a ++ r = sh b ++ r' → a = b ∧ r = r') ∧ (∀ (xs : List PyData) {ys : List PyData} {r r' : List Nat}, sizeOf xs < n → PlAll xs → PlAll ys → tl xs ++ r = tl ys ++ r' → xs = ys ∧ r = r')
  | 0 => ⟨fun a _ _ _ h => absurd h (by omega), fun a _ _ _ h => absurd h (by omega)⟩
  | n + 1 => ⟨sh_step n (sh_inj_n n).1 (sh_inj_n n).2, tl_step n (sh_inj_n n).1 (sh_inj_n n).2⟩
/-- what is shown tells the value -/
theorem shown_inj {a b : PyData} (pa : Pl a) (pb : Pl b) (h : a.shown = b.shown) : a = b :=
  ((sh_inj_n (sizeOf a + 1)).1 a (r := []) (r' := []) (Nat.lt_succ_self _) pa pb (fun c hc => by cases hc) (fun c hc => by cases hc) (by show a.shown.cps.toList ++ [] = b.shown.cps.toList ++ []; rw [h])).1
/-! texts by their signs -/
def txB (z : Str) : Bool := PyData.strOk z && (((reprText z).cps.toList == 39 :: (z.cps.toList ++ [39]) && !z.cps.toList.contains 39) || ((reprText z).cps.toList == 34 :: (z.cps.toList ++ [34]) && !z.cps.toList.contains 34))
theorem tx_of {z : Str} (h : txB z = true) : Tx z := by
  unfold txB at h
  simp only [Bool.and_eq_true, Bool.or_eq_true, beq_iff_eq, Bool.not_eq_true', List.contains_eq_mem, decide_eq_false_iff_not] at h
  obtain ⟨h1, ⟨h2, h3⟩ | ⟨h2, h3⟩⟩ := h
  · exact ⟨h1, 39, .inl rfl, h3, h2⟩
  · exact ⟨h1, 34, .inr rfl, h3, h2⟩
theorem tx_68 : ∀ z ∈ (["", "1", "True", "None", "()", "a", "A", "'", "','", "a','b", "',", "(", ",", ")", "b", "prevote", "precommit"] : List Str), Tx z := fun z h => tx_of ((by decide +kernel : ∀ z ∈ (["", "1", "True", "None", "()", "a", "A", "'", "','", "a','b", "',", "(", ",", ")", "b", "prevote", "precommit"] : List Str), txB z = true) z h)
/-! ### plain values that may be named -/
structure Val (n w : Nat) (d : Dv) (p : PyData) : Prop where
  e : pd d = some p
  pl : Pl p
  pr : Prn n w p
theorem Prn.up {n m w W : Nat} {p : PyData} (h : Prn n w p) (k : n ≤ m) (l : w ≤ W) : Prn m W p := ⟨h.s.up k, h.a, h.b, Nat.le_trans h.c l⟩
theorem Val.up {n m w W : Nat} {d : Dv} {p : PyData} (h : Val n w d p) (k : n ≤ m) (l : w ≤ W) : Val m W d p := ⟨h.e, h.pl, h.pr.up k l⟩
theorem Val.non {n w : Nat} : Val n w .non .none := ⟨rfl, by simp only [Pl], .non⟩
theorem Val.bl {n w : Nat} (b : Bool) : Val n w (.bl b) (.bool b) := ⟨rfl, by simp only [Pl], .bl⟩
theorem Val.int {n w : Nat} {i : Int} (h : i.natAbs < 10 ^ 60) (hw : 201 ≤ w) : Val n w (.int i) (.int i) := ⟨rfl, by simp only [Pl], .big h hw⟩
theorem Val.sml {n w : Nat} {i : Int} (h1 : -999999999999 ≤ i) (h2 : i ≤ 999999999999) (hw : 60 ≤ w) : Val n w (.int i) (.int i) := ⟨rfl, by simp only [Pl], .int h1 h2 hw⟩
theorem Val.str {n w : Nat} {z : Str} (h : Tx z) (hl : z.cps.size ≤ 60) (hs : (PyData.str z).leavesShort 64 = true) (hw : 60 ≤ w) : Val n w (.str z) (.str z) :=
  ⟨rfl, by simp only [Pl]; exact h, .str h.1, by simp [PyData.showable], hs, by simp only [PyData.weight]; omega⟩
theorem Prn.tup {n w : Nat} {ps : List PyData} (h : ∀ p ∈ ps, Prn n 1500 p) (hw : PyData.weightAll ps ≤ w) : Prn (n + 1) w (.tuple ps) :=
  ⟨.tuple fun p hp => (h p hp).s, by simp only [PyData.showable]; exact showableAll_mem fun p hp => (h p hp).a, by simp only [PyData.leavesShort]; exact leavesAll_mem fun p hp => (h p hp).b, by simp only [PyData.weight]; exact hw⟩
theorem Val.t0 {n w : Nat} : Val (n + 1) w (.tup []) (.tuple []) := ⟨rfl, by simp only [Pl, PlAll], .tup (fun p hp => nomatch hp) (by simp [PyData.weightAll])⟩
theorem Val.t1 {n w W : Nat} {d : Dv} {p : PyData} (h : Val n w d p) (h1 : w ≤ 1500) (hw : w + 1 ≤ W) : Val (n + 1) W (.tup [d]) (.tuple [p]) :=
  ⟨by unfold pd; rw [pds_cons h.e rfl]; rfl, by simp only [Pl, PlAll]; exact ⟨h.pl, trivial⟩, .tup (fun q hq => by cases List.mem_singleton.mp hq; exact h.pr.up (Nat.le_refl _) h1) (by have := h.pr.c; simp only [PyData.weightAll]; omega)⟩
theorem Val.t2 {n w w' W : Nat} {d d' : Dv} {p p' : PyData} (h : Val n w d p) (h' : Val n w' d' p') (h1 : w ≤ 1500) (h2 : w' ≤ 1500) (hw : w + w' + 2 ≤ W) : Val (n + 1) W (.tup [d, d']) (.tuple [p, p']) :=
  ⟨by unfold pd; rw [pds_cons h.e (pds_cons h'.e rfl)]; rfl, by simp only [Pl, PlAll]; exact ⟨h.pl, h'.pl, trivial⟩, .tup (fun q hq => by
    rcases List.mem_cons.mp hq with rfl | hq
    · exact h.pr.up (Nat.le_refl _) h1
    · cases List.mem_singleton.mp hq; exact h'.pr.up (Nat.le_refl _) h2) (by have := h.pr.c; have := h'.pr.c; simp only [PyData.weightAll]; omega)⟩
theorem Val.t3 {n w w' w2 W : Nat} {d d' d2 : Dv} {p p' p2 : PyData} (h : Val n w d p) (h' : Val n w' d' p') (h3 : Val n w2 d2 p2) (h1 : w ≤ 1500) (h2 : w' ≤ 1500) (h4 : w2 ≤ 1500) (hw : w + w' + w2 + 3 ≤ W) : Val (n + 1) W (.tup [d, d', d2]) (.tuple [p, p', p2]) :=
  ⟨by unfold pd; rw [pds_cons h.e (pds_cons h'.e (pds_cons h3.e rfl))]; rfl, by simp only [Pl, PlAll]; exact ⟨h.pl, h'.pl, h3.pl, trivial⟩, .tup (fun q hq => by
    rcases List.mem_cons.mp hq with rfl | hq
    · exact h.pr.up (Nat.le_refl _) h1
    · rcases List.mem_cons.mp hq with rfl | hq
      · exact h'.pr.up (Nat.le_refl _) h2
      · cases List.mem_singleton.mp hq; exact h3.pr.up (Nat.le_refl _) h4) (by have := h.pr.c; have := h'.pr.c; have := h3.pr.c; simp only [PyData.weightAll]; omega)⟩
/-- texts of plain signs -/
theorem rc_safe : ∀ c : Nat, c < 127 → 32 ≤ c → c ≠ 39 → c ≠ 92 → Builtin.Str.reprChar 39 c = [c] := by decide +kernel
theorem fold_safe : ∀ (l : List Nat) (acc : Array Nat), (∀ c ∈ l, 32 ≤ c ∧ c ≤ 126 ∧ c ≠ 39 ∧ c ≠ 92) → (l.foldl (fun out c => out ++ (Builtin.Str.reprChar 39 c).toArray) acc).toList = acc.toList ++ l
  | [], acc, _ => by simp
  | c :: l, acc, h => by
    obtain ⟨h1, h2, h3, h4⟩ := h c List.mem_cons_self
    rw [List.foldl_cons, fold_safe l _ (fun x hx => h x (List.mem_cons_of_mem _ hx)), rc_safe c (by omega) h1 h3 h4]
    simp
theorem tx_safe {z : Str} (h : ∀ c ∈ z.cps.toList, 32 ≤ c ∧ c ≤ 126 ∧ c ≠ 39 ∧ c ≠ 92) : Tx z := by
  have n39 : 39 ∉ z.cps.toList := fun m => (h 39 m).2.2.1 rfl
  refine ⟨?_, 39, .inl rfl, n39, ?_⟩
  · unfold PyData.strOk
    rw [Array.all_eq_true_iff_forall_mem]
    intro c hc
    have := h c (Array.mem_toList_iff.mpr hc)
    exact decide_eq_true (by omega)
  · have q : reprQuote z = 39 := by
      unfold reprQuote
      have : z.cps.contains 39 = false := by
        rw [Array.contains_eq_mem, decide_eq_false_iff_not]
        exact fun m => n39 (Array.mem_toList_iff.mpr m)
      rw [this]
      rfl
    unfold reprText
    rw [q]
    rw [Array.toList_push, ← Array.foldl_toList, fold_safe _ _ h]
    simp
theorem tx_int (i : Int) : Tx (Str.ofString (toString i)) := tx_safe fun c hc => by
  have h : ∀ k : Nat, (k ≠ 45 ∧ (k < 48 ∨ 57 < k)) → k ∉ (Str.ofString (toString i)).cps.toList := fun k hk => PyProof.Rows.int_text_free' k hk i
  by_cases e : c ≠ 45 ∧ (c < 48 ∨ 57 < c)
  · exact absurd hc (h c e)
  · refine ⟨?_, ?_, ?_, ?_⟩ <;> (by_cases z : c = 45 <;> omega)
/-! ### the law's numbers: some number below the limit, the state's list changes -/
structure StN (p : Addr) (g : Ah) : Prop where
  ex : ∃ (ns : List Int) (i m s : Int), g p = some (.lst [.lst (ns.map Dv.int), .int i, .int m, .int s]) ∧ 0 ≤ i ∧ i ≤ ns.length ∧ 0 ≤ m
def stN (p : Addr) : Ob := ⟨[p], StN p⟩
theorem StN.ok {p : Addr} {g : Ah} (h : StN p g) : (stN p).ok g := by
  obtain ⟨ns, i, m, s, e, q⟩ := h.ex
  refine ⟨h, fun a ha => ?_, fun g' k => ⟨ns, i, m, s, ?_, q⟩⟩
  · cases List.mem_singleton.mp ha
    rw [e]; exact fun z => nomatch z
  · rw [k p (List.mem_singleton.mpr rfl)]; exact e
theorem wide_div {j : Int} (h0 : 0 < j) (h1 : j.natAbs < 2 ^ 200) : CDivW (0 : Int) j := by
  refine ⟨h0, ?_⟩
  have : j.natAbs.log2 < 200 := (Nat.log2_lt (by omega)).mpr h1
  omega
theorem s_next {K : PySem.W.Frag} {g : Ah} {p : Addr} {lim : Int} {R : DQ} {Y : Xc} (s : StN p g) (h0 : 0 < lim) (h1 : lim.natAbs < 2 ^ 200) (k : ∀ (v : Nat) (g' : Ah), (v : Int) < lim → StN p g' → Agr [p] g g' → R (.int (v : Int)) g') : D_law_next K [.ref p, .int lim] g R Y := by
  refine U_law_next ?_
  unfold B_law_next
  have kk : ∀ (v : Int) (g' : Ah), 0 ≤ v → v < lim → StN p g' → Agr [p] g g' → R (.int v) g' := fun v g' v0 v1 => by
    obtain ⟨w, rfl⟩ := Int.eq_ofNat_of_zero_le v0
    exact k w g' v1
  clear k
  have hd : ∀ i : Int, CDivW i lim := fun i => wide_div h0 h1
  obtain ⟨ns, i, m, s0, hp, hi, hn, hm⟩ := s.ex
  with_reducible refine r_cut (fun ev g' => ∃ c, ev = [some (.ref p), some (.int lim), c, none] ∧ StN p g' ∧ Agr [p] g g') (fun N hN => ?_) fun ev g' ⟨c, e, s, ag⟩ => ?_
  · have hlen : (ns.map Dv.int).length = ns.length := List.length_map _
    walk_at "s"
    refine r_dec (fun c => ?_) (fun c => ?_)
    · walk_at "s"
      refine r_dec (fun c2 => ?_) (fun c2 => ?_)
      · rw [hlen] at c2
        obtain ⟨j, rfl⟩ := Int.eq_ofNat_of_zero_le hi
        have hj : j < ns.length := by omega
        have ej : (ns.map Dv.int)[j]? = some (.int ns[j]) := by rw [List.getElem?_map, List.getElem?_eq_getElem hj]; rfl
        generalize ns[j] = z at ej
        walk_at "s"
        refine r_dec (fun c3 => ?_) (fun c3 => ?_)
        · have hz : 0 ≤ z := Int.le_trans (by decide) c3
          walk_at "s"
          exact hN _ _ ⟨_, rfl, ⟨ns, _, z, s0, ups_same, by omega, by omega, hz⟩, (Agr.refl.ups (by simp)).ups (by simp)⟩
        · walk_at "s"
          exact hN _ _ ⟨_, rfl, ⟨ns, _, m, _, ups_same, by omega, by omega, hm⟩, (Agr.refl.ups (by simp)).ups (by simp)⟩
      · walk_at "s"
        exact hN _ _ ⟨_, rfl, ⟨ns, i, m, s0, hp, hi, hn, hm⟩, .refl⟩
    · walk_at "s"
      exact hN _ _ ⟨_, rfl, ⟨ns, i, m, s0, hp, hi, hn, hm⟩, .refl⟩
  · subst e
    clear hp hi hn hm
    obtain ⟨ns, i, m, s0, hp, hi, hn, hm⟩ := s.ex
    walk_at "s"
    refine r_dec (fun c => ?_) (fun c => ?_)
    · walk_at "s"
      refine r_i (hd _) ?_
      walk_at "s"
      exact kk _ _ (Int.emod_nonneg _ (by omega)) (Int.emod_lt_of_pos _ h0) ⟨ns, i, _, s0, ups_same, hi, hn, Int.ediv_nonneg hm (by omega)⟩ (ag.ups (by simp))
    · walk_at "s"
      exact kk _ _ (Int.emod_nonneg _ (by omega)) (Int.emod_lt_of_pos _ h0) ⟨ns, i, m, _, ups_same, hi, hn, hm⟩ (ag.ups (by simp))
/-! ### values that is_plain and others may be asked about -/
mutual
/-- a value without objects that change; texts in order -/
def GdV : Dv → Prop
  | .non => True
  | .bl _ => True
  | .int _ => True
  | .str z => PyData.strOk z = true
  | .lst _ => True
  | .dct _ => True
  | .tup xs => GdVs xs
  | .tq xs => GdVs xs
  | _ => False
def GdVs : List Dv → Prop
  | [] => True
  | x :: xs => GdV x ∧ GdVs xs
end
mutual
def szV : Dv → Nat
  | .tup xs => szVs xs + 1
  | .tq xs => szVs xs + 1
  | _ => 1
def szVs : List Dv → Nat
  | [] => 0
  | x :: xs => szV x + szVs xs
end
mutual
/-- is a plain value, with at most n tuples within one another -/
def plD : Dv → Nat → Bool
  | .non, _ => true
  | .bl _, _ => true
  | .int i, _ => !decide ((if i < 0 then -i else i) ≥ 1000000000000000000000000000000000000000000000000000000000000)
  | .str _, _ => true
  | .tup xs, n => decide (0 < n) && plDs xs (n - 1)
  | .tq xs, n => decide (0 < n) && plDs xs (n - 1)
  | _, _ => false
def plDs : List Dv → Nat → Bool
  | [], _ => true
  | x :: xs, n => plD x n && plDs xs n
end
theorem gdVs_mem : ∀ {xs : List Dv} {x : Dv}, GdVs xs → x ∈ xs → GdV x
  | y :: xs, x, h, hm => by
    unfold GdVs at h
    rcases List.mem_cons.mp hm with rfl | hm
    · exact h.1
    · exact gdVs_mem h.2 hm
theorem gdVs_of : ∀ {xs : List Dv}, (∀ x ∈ xs, GdV x) → GdVs xs
  | [], _ => by unfold GdVs; trivial
  | y :: xs, h => by
    unfold GdVs
    exact ⟨h y List.mem_cons_self, gdVs_of fun x hx => h x (List.mem_cons_of_mem _ hx)⟩
theorem szV_pos : ∀ d : Dv, 1 ≤ szV d := fun d => by
  cases d <;> unfold szV <;> omega
theorem szVs_len : ∀ xs : List Dv, xs.length ≤ szVs xs
  | [] => Nat.le_refl _
  | x :: xs => by
    have := szVs_len xs
    have := szV_pos x
    unfold szVs
    rw [List.length_cons]
    omega
theorem szVs_mem : ∀ {xs : List Dv} {x : Dv}, x ∈ xs → szV x ≤ szVs xs
  | y :: xs, x, hm => by
    unfold szVs
    rcases List.mem_cons.mp hm with rfl | hm
    · omega
    · have := szVs_mem hm
      omega
theorem szVs_app : ∀ xs ys : List Dv, szVs (xs ++ ys) = szVs xs + szVs ys
  | [], ys => by simp [szVs]
  | x :: xs, ys => by
    rw [List.cons_append, szVs, szVs, szVs_app xs ys]
    omega
theorem plDs_all : ∀ (xs : List Dv) (n : Nat), plDs xs n = xs.all fun x => plD x n
  | [], n => by unfold plDs; rfl
  | x :: xs, n => by
    unfold plDs
    rw [plDs_all xs n, List.all_cons]
/-- the items, if it is a tuple -/
def tpV : Dv → Option (List Dv)
  | .tup xs => some xs
  | .tq xs => some xs
  | _ => none
theorem tpV_vw {g : Ah} {d : Dv} {xs : List Dv} (h : tpV d = some xs) : vw g d = .tup xs := by
  cases d <;> cases h <;> rfl
theorem tpV_gd {d : Dv} {xs : List Dv} (h : tpV d = some xs) (k : GdV d) : GdVs xs := by
  cases d <;> cases h <;> (unfold GdV at k; exact k)
theorem tpV_sz {d : Dv} {xs : List Dv} (h : tpV d = some xs) : szV d = szVs xs + 1 := by
  cases d <;> cases h <;> (unfold szV; rfl)
theorem tpV_pl {d : Dv} {xs : List Dv} {n : Nat} (h : tpV d = some xs) : plD d n = (decide (0 < n) && xs.all fun x => plD x (n - 1)) := by
  cases d with
  | tup ys => cases h; rw [plD, plDs_all]
  | tq ys => cases h; rw [plD, plDs_all]
  | _ => cases h
mutual
theorem plD_pd : ∀ {d : Dv} {n : Nat}, GdV d → plD d n = true → ∃ p, pd d = some p ∧ Sh n p
  | .non, n, _, _ => ⟨_, rfl, .non⟩
  | .bl b, n, _, _ => ⟨_, rfl, .bl b⟩
  | .int i, n, _, _ => ⟨_, rfl, .int i⟩
  | .str z, n, h, _ => by
    unfold GdV at h
    exact ⟨_, rfl, .str h⟩
  | .tup xs, n, h, k => by
    unfold GdV at h
    unfold plD at k
    obtain ⟨h0, h1⟩ := Bool.and_eq_true_iff.mp k
    obtain ⟨ps, e, s⟩ := plDs_pd h h1
    have h0 := of_decide_eq_true h0
    refine ⟨.tuple ps, by unfold pd; rw [e]; rfl, ?_⟩
    rw [show n = n - 1 + 1 by omega]
    exact .tuple s
  | .tq xs, n, h, k => by
    unfold GdV at h
    unfold plD at k
    obtain ⟨h0, h1⟩ := Bool.and_eq_true_iff.mp k
    obtain ⟨ps, e, s⟩ := plDs_pd h h1
    have h0 := of_decide_eq_true h0
    refine ⟨.tuple ps, by unfold pd; rw [e]; rfl, ?_⟩
    rw [show n = n - 1 + 1 by omega]
    exact .tuple s
  | .lst xs, n, _, k => by unfold plD at k; cases k
  | .dct xs, n, _, k => by unfold plD at k; cases k
  | .byt _, n, h, _ => by unfold GdV at h; exact h.elim
  | .ty _, n, h, _ => by unfold GdV at h; exact h.elim
  | .kl _, n, h, _ => by unfold GdV at h; exact h.elim
  | .kt _, n, h, _ => by unfold GdV at h; exact h.elim
  | .fz _, n, h, _ => by unfold GdV at h; exact h.elim
  | .dcT _, n, h, _ => by unfold GdV at h; exact h.elim
  | .ref _, n, h, _ => by unfold GdV at h; exact h.elim
theorem plDs_pd : ∀ {xs : List Dv} {n : Nat}, GdVs xs → plDs xs n = true → ∃ ps, pds xs = some ps ∧ ∀ p ∈ ps, Sh n p
  | [], n, _, _ => ⟨[], by unfold pds; rfl, fun p h => nomatch h⟩
  | x :: xs, n, h, k => by
    unfold GdVs at h
    unfold plDs at k
    obtain ⟨h0, h1⟩ := Bool.and_eq_true_iff.mp k
    obtain ⟨p, e, s⟩ := plD_pd h.1 h0
    obtain ⟨ps, e2, s2⟩ := plDs_pd h.2 h1
    exact ⟨p :: ps, pds_cons e e2, fun q hq => by
      rcases List.mem_cons.mp hq with rfl | hq
      · exact s
      · exact s2 q hq⟩
end
/-! ### is_within, is_plain -/
def prW (e : Dv × Nat) : Dv := .tup [e.1, .int (e.2 : Nat)]
def szW (st : List (Dv × Nat)) : Nat := (st.map fun e => szV e.1).sum
def okW (st : List (Dv × Nat)) : Bool := st.all fun e => plD e.1 (30 - e.2)
theorem szW_app (a b : List (Dv × Nat)) : szW (a ++ b) = szW a + szW b := by unfold szW; rw [List.map_append, List.sum_append]
theorem szW_len (st : List (Dv × Nat)) : st.length ≤ szW st := by
  induction st with
  | nil => exact Nat.le_refl _
  | cons e st ih =>
    have := szV_pos e.1
    show _ ≤ szV e.1 + szW st
    rw [List.length_cons]
    omega
theorem szW_all : ∀ (xs : List Dv) (k : Nat), szW (xs.map fun x => (x, k)) = szVs xs
  | [], k => by simp [szW, szVs]
  | x :: xs, k => by
    rw [szVs, ← szW_all xs k]
    rfl
section
variable {K : PySem.W.Frag} {g : Ah} {R : DQ} {Y : Xc}
theorem r_pop {p : Addr} {xs : List Dv} {x : Dv} (h : g p = some (.lst (xs ++ [x]))) (k : R x (ups g p (.lst xs))) : mPop (.ref p) [] g R :=
  ⟨p, xs ++ [x], x, rfl, rfl, h, by rw [List.length_append]; simp, by rw [List.dropLast_concat]; exact k⟩
theorem r_absB {bb : Bool} (h : R (.int (if bb then 1 else 0)) g) : cAbs [.bl bb] g R := h
theorem w_within {d : Dv} (hg : GdV d) (hz : szV d ≤ 50000) (k : ∀ g', Agr [] g g' → R (.bl (plD d 30)) g') : D_is_within K [d, .int 30] g R Y := by
  refine U_is_within ?_
  unfold B_is_within
  walk_at "q"
  refine r_nM fun t ht => ?_
  walk_at "q"
  refine ⟨fun m ev g' => ∃ st c3 c4 c5, ev = [some d, some (.int 30), some (.ref t), c3, c4, c5] ∧ m = szW st ∧ m ≤ 50000 ∧ g' t = some (.lst (st.map prW)) ∧ Agr [] g g' ∧ (∀ e ∈ st, GdV e.1) ∧ okW st = plD d 30,
    ⟨szV d, [(d, 0)], none, none, none, rfl, by simp [szW], hz, ups_same, by walk_at "ag", fun e he => by cases List.mem_singleton.mp he; exact hg, by simp [okW]⟩, ?_⟩
  rintro m ev g' ⟨st, c3, c4, c5, rfl, rfl, hm, hp, ag, hgd, hok⟩
  have hlen := szW_len st
  walk_at "s"
  refine r_ite (fun c => ?_) (fun c => ?_)
  · rcases List.eq_nil_or_concat st with rfl | ⟨st', e, rfl⟩
    · simp at c
    · rw [List.concat_eq_append] at *
      obtain ⟨v, n⟩ := e
      rw [List.map_append, List.map_singleton] at hp
      rw [szW_app] at hm ⊢
      have hv : GdV v := hgd (v, n) (by simp)
      have hs1 : szW [(v, n)] = szV v := by simp [szW]
      have hst : ∀ e ∈ st', GdV e.1 := fun e he => hgd e (List.mem_append_left _ he)
      rw [hs1] at hm ⊢
      have hok' : (okW st' && plD v (30 - n)) = plD d 30 := by
        rw [← hok]
        unfold okW
        rw [List.all_append]
        simp
      have hzp := szV_pos v
      have agp : ∀ m', Agr [] g (ups g' t m') := fun m' => ag.fr (.inr ht)
      walk_at "s"
      have hp : g' t = some (.lst (st'.map prW ++ [.tup [v, .int (n : Nat)]])) := hp
      refine r_pop hp ?_
      walk_at "s"
      have done : okW st' = plD d 30 → ∀ c3 c4 c5, ∃ m', m' < szW st' + szV v ∧ ∃ st c3' c4' c5', [some d, some (.int 30), some (.ref t), c3, c4, c5] = [some d, some (.int 30), some (.ref t), c3', c4', c5'] ∧ m' = szW st ∧ m' ≤ 50000 ∧ ups g' t (.lst (st'.map prW)) t = some (.lst (st.map prW)) ∧ Agr [] g (ups g' t (.lst (st'.map prW))) ∧ (∀ e ∈ st, GdV e.1) ∧ okW st = plD d 30 :=
        fun h c3 c4 c5 => ⟨szW st', by omega, st', _, _, _, rfl, rfl, by omega, ups_same, agp _, hst, h⟩
      have stop : plD v (30 - n) = false → R (.bl false) (ups g' t (.lst (st'.map prW))) := fun h => by
        have := k _ (agp (.lst (st'.map prW)))
        rw [← hok', h, Bool.and_false] at this
        exact this
      have next : ∀ xs : List Dv, tpV v = some xs → ∀ c3 c4 c5, ∀ g2, g2 t = some (.lst (st'.map prW ++ xs.map fun x => .tup [x, .int ((n : Int) + 1)])) → Agr [] g g2 → n < 30 → ∃ m', m' < szW st' + szV v ∧ ∃ st c3' c4' c5', [some d, some (.int 30), some (.ref t), c3, c4, c5] = [some d, some (.int 30), some (.ref t), c3', c4', c5'] ∧ m' = szW st ∧ m' ≤ 50000 ∧ g2 t = some (.lst (st.map prW)) ∧ Agr [] g g2 ∧ (∀ e ∈ st, GdV e.1) ∧ okW st = plD d 30 := by
        intro xs hx c3 c4 c5 g2 e2 ag2 hn
        have hgx := tpV_gd hx hv
        have hsx := tpV_sz hx
        have hpx := tpV_pl (n := 30 - n) hx
        refine ⟨szW st' + szVs xs, by omega, st' ++ xs.map (fun x => (x, n + 1)), _, _, _, rfl, by rw [szW_app, szW_all], by omega, ?_, ag2, fun e he => ?_, ?_⟩
        · rw [e2, List.map_append, List.map_map]
          rfl
        · rcases List.mem_append.mp he with he | he
          · exact hst e he
          · obtain ⟨x, hx', rfl⟩ := List.mem_map.mp he
            exact gdVs_mem hgx hx'
        · rw [← hok', hpx, decide_eq_true (by omega : 0 < 30 - n), Bool.true_and]
          unfold okW
          rw [List.all_append, List.all_map]
          congr 1
      cases v with
      | tup xs =>
        unfold GdV at hv
        walk_at "s"
        refine r_dec (fun c1 => ?_) (fun c1 => ?_)
        · walk_at "s"
          exact stop (by rw [tpV_pl rfl]; rw [decide_eq_false (by omega)]; rfl)
        · have hx : xs.length ≤ 50000 := by have := szVs_len xs; have := tpV_sz (d := .tup xs) rfl; omega
          walk_at "s"
          refine comp_to (xs.map fun x => .tup [x, .int ((n : Int) + 1)]) (by rw [List.length_map]) (by omega) trivial (fun i x y N MM h1 h2 hM => ?_) ?_
          · rw [List.getElem?_map, h1] at h2
            cases h2
            walk_at "s"
            exact hM
          · refine r_nF ?_
            walk_at "s"
            refine r_ext ups_same rfl (by rw [List.length_map, List.length_map]; rw [List.length_append] at hlen; have := szW_len st'; omega) ?_
            walk_at "s"
            exact next xs rfl _ _ _ _ ups_same (by rw [ups_ups]; exact agp _) (by omega)
      | tq xs =>
        unfold GdV at hv
        walk_at "s"
        refine r_dec (fun c1 => ?_) (fun c1 => ?_)
        · walk_at "s"
          exact stop (by rw [tpV_pl rfl]; rw [decide_eq_false (by omega)]; rfl)
        · have hx : xs.length ≤ 50000 := by have := szVs_len xs; have := tpV_sz (d := .tq xs) rfl; omega
          walk_at "s"
          refine comp_to (xs.map fun x => .tup [x, .int ((n : Int) + 1)]) (by rw [List.length_map]) (by omega) trivial (fun i x y N MM h1 h2 hM => ?_) ?_
          · rw [List.getElem?_map, h1] at h2
            cases h2
            walk_at "s"
            exact hM
          · refine r_nF ?_
            walk_at "s"
            refine r_ext ups_same rfl (by rw [List.length_map, List.length_map]; rw [List.length_append] at hlen; have := szW_len st'; omega) ?_
            walk_at "s"
            exact next xs rfl _ _ _ _ ups_same (by rw [ups_ups]; exact agp _) (by omega)
      | non =>
        walk_at "s"
        exact done (by rw [← hok']; simp [plD]) _ _ _
      | bl b =>
        walk_at "s"
        refine r_absB ?_
        walk_at "s"
        refine r_dec (fun c1 => ?_) (fun c1 => ?_)
        · exfalso
          cases b <;> simp at c1
        · walk_at "s"
          exact done (by rw [← hok']; simp [plD]) _ _ _
      | int i =>
        walk_at "s"
        refine r_dec (fun c1 => ?_) (fun c1 => ?_)
        · walk_at "s"
          exact stop (by simp only [plD]; simpa using c1)
        · walk_at "s"
          exact done (by rw [← hok']; simp only [plD]; rw [decide_eq_false c1]; simp) _ _ _
      | str z =>
        walk_at "s"
        exact done (by rw [← hok']; simp [plD]) _ _ _
      | lst xs =>
        walk_at "s"
        exact stop (by simp [plD])
      | dct xs =>
        walk_at "s"
        exact stop (by simp [plD])
      | _ => unfold GdV at hv; exact hv.elim
  · obtain rfl : st = [] := by
      cases st with
      | nil => rfl
      | cons e st => simp at c
    walk_at "s"
    have := k _ ag
    rw [← hok] at this
    exact this
end
/-! ### is_plain, is_row_of, is_natural, is_count, quorum -/
theorem inV_n (n : Int) : ∀ ns : List Int, inV (.int n) (ns.map V.int) = decide (n ∈ ns)
  | [] => rfl
  | m :: ns => by
    have ih := inV_n n ns
    show (eqV (.int m) (.int n) || inV (.int n) (ns.map V.int)) = _
    rw [ih]
    show ((m == n) || decide (n ∈ ns)) = _
    by_cases h : m = n
    · subst h; simp
    · rw [beq_eq_false_iff_ne.mpr h, Bool.false_or]
      by_cases z : n ∈ ns
      · simp [z]
      · have : n ∉ m :: ns := fun w => by
          rcases List.mem_cons.mp w with w | w
          · exact h w.symm
          · exact z w
        simp [z, this]
theorem fVs_n : ∀ ns : List Int, fVs (ns.map Dv.int) = some (ns.map V.int)
  | [] => rfl
  | n :: ns => by
    show (fV (.int n)).bind (fun v => (fVs (ns.map Dv.int)).map (v :: ·)) = _
    rw [fVs_n ns]
    rfl
theorem flat_n (ns : List Int) : (ns.map V.int).all flatV = true := by
  rw [List.all_eq_true]
  intro v hv
  obtain ⟨i, _, rfl⟩ := List.mem_map.mp hv
  rfl
def natD : Dv → Bool
  | .int i => decide (0 ≤ i)
  | _ => false
def cntD (lo hi : Int) : Dv → Bool
  | .int i => decide (lo ≤ i) && decide (i ≤ hi)
  | _ => false
section
variable {K : PySem.W.Frag} {g : Ah} {R : DQ} {Y : Xc}
theorem r_inN {d : Dv} {n : Int} {b : Bool} {ns : List Int} (h : vw g d = .tup (ns.map Dv.int)) (k : R (.bl (decide (n ∈ ns) == b)) g) : qIn b (.int n) d g R := by
  unfold qIn
  rw [h]
  exact ⟨_, _, rfl, fVs_n ns, rfl, flat_n ns, by rw [inV_n]; exact k⟩
theorem w_plain {d : Dv} (hg : GdV d) (hz : szV d ≤ 50000) (k : ∀ g', Agr [] g g' → R (.bl (plD d 30)) g') : D_is_plain K [d] g R Y := by
  refine U_is_plain ?_
  unfold B_is_plain
  walk_at "s"
  exact w_within hg hz k
theorem w_rowOf {d : Dv} {lo hi : Int} (hg : GdV d) (k : R (.bl (match tpV d with | some xs => decide (lo ≤ xs.length) && decide ((xs.length : Int) ≤ hi) | none => false)) g) : D_is_row_of K [d, .int lo, .int hi] g R Y := by
  refine U_is_row_of ?_
  unfold B_is_row_of
  cases d with
  | tup xs =>
    walk_at "s"
    refine r_ite (fun c => ?_) (fun c => ?_)
    · walk_at "s"
      simp only [tpV, c, Bool.true_and] at k
      exact k
    · simp only [tpV, c, Bool.false_and] at k
      exact k
  | tq xs =>
    walk_at "s"
    refine r_ite (fun c => ?_) (fun c => ?_)
    · walk_at "s"
      simp only [tpV, c, Bool.true_and] at k
      exact k
    · simp only [tpV, c, Bool.false_and] at k
      exact k
  | non => walk_at "s"; exact k
  | bl b => walk_at "s"; exact k
  | int i => walk_at "s"; exact k
  | str z => walk_at "s"; exact k
  | lst xs => walk_at "s"; exact k
  | dct xs => walk_at "s"; exact k
  | _ => unfold GdV at hg; exact hg.elim
theorem w_natural {d : Dv} (hg : GdV d) (k : R (.bl (natD d)) g) : D_is_natural K [d] g R Y := by
  refine U_is_natural ?_
  unfold B_is_natural
  cases d with
  | int i => walk_at "s"; exact k
  | non => walk_at "s"; exact k
  | bl b => walk_at "s"; exact k
  | tup xs => walk_at "s"; exact k
  | tq xs => walk_at "s"; exact k
  | str z => walk_at "s"; exact k
  | lst xs => walk_at "s"; exact k
  | dct xs => walk_at "s"; exact k
  | _ => unfold GdV at hg; exact hg.elim
theorem w_count {d : Dv} {lo hi : Int} (hg : GdV d) (k : R (.bl (cntD lo hi d)) g) : D_is_count K [d, .int lo, .int hi] g R Y := by
  refine U_is_count ?_
  unfold B_is_count
  cases d with
  | int i =>
    walk_at "s"
    refine r_ite (fun c => ?_) (fun c => ?_)
    · walk_at "s"
      simp only [cntD, c, Bool.true_and] at k
      exact k
    · simp only [cntD, c, Bool.false_and] at k
      exact k
  | non => walk_at "s"; exact k
  | bl b => walk_at "s"; exact k
  | tup xs => walk_at "s"; exact k
  | tq xs => walk_at "s"; exact k
  | str z => walk_at "s"; exact k
  | lst xs => walk_at "s"; exact k
  | dct xs => walk_at "s"; exact k
  | _ => unfold GdV at hg; exact hg.elim
/-- the quorum of so many -/
def quo (n : Nat) : Nat := 2 * ((n - 1) / 3) + 1
theorem w_quorum {d : Dv} {xs : List Dv} (h : vw g d = .tup xs) (h0 : 1 ≤ xs.length) (h1 : xs.length ≤ 1000) (k : R (.int (quo xs.length : Nat)) g) : D_quorum K [d] g R Y := by
  refine U_quorum ?_
  unfold B_quorum
  walk_at "s"
  rw [show (2 : Int) * (((xs.length : Int) - 1) / 3) + 1 = ((quo xs.length : Nat) : Int) by unfold quo; omega]
  exact k
end
/-! ### owners -/
/-- flat values -/
def SclD : Dv → Prop
  | .non => True
  | .bl _ => True
  | .int _ => True
  | .str z => PyData.strOk z = true
  | _ => False
theorem SclD.gd {d : Dv} (h : SclD d) : GdV d := by
  cases d <;> first | (unfold GdV; trivial) | (unfold SclD at h; unfold GdV; exact h) | exact h.elim
theorem scl_pds : ∀ {xs : List Dv}, (∀ x ∈ xs, SclD x) → ∃ ps, pds xs = some ps ∧ PyData.plainAll ps = true
  | [], _ => ⟨[], rfl, rfl⟩
  | x :: xs, h => by
    obtain ⟨ps, e, hp⟩ := scl_pds (xs := xs) fun y hy => h y (List.mem_cons_of_mem _ hy)
    have hx := h x List.mem_cons_self
    cases x <;> first | exact hx.elim | exact ⟨_, pds_cons rfl e, by simp only [PyData.plainAll, PyData.plain, hp, Bool.true_and, Bool.and_true]⟩
/-- what are_owners may be asked about -/
def OwG (d : Dv) : Prop := ∀ xs, tpV d = some xs → (xs.length = 4 ∨ xs.length = 7 ∨ xs.length = 10) → d = .tq xs ∧ ∀ x ∈ xs, SclD x
/-- the owners of all places -/
structure OwnN (ns : List Int) : Prop where
  l : ns.length = 4 ∨ ns.length = 7 ∨ ns.length = 10
  n : ns.Nodup
  b : ∀ n ∈ ns, 1 ≤ n ∧ n ≤ 999
def OwnOk (d : Dv) : Prop := ∃ ns : List Int, d = .tq (ns.map Dv.int) ∧ OwnN ns
theorem pds_n : ∀ ns : List Int, pds (ns.map Dv.int) = some (ns.map PyData.int)
  | [] => by unfold pds; rfl
  | n :: ns => pds_cons rfl (pds_n ns)
theorem count_n (ns : List Int) (k : Int) : (ns.map PyData.int).countP (fun z => PyData.eqv z (.int k)) = ns.count k := by
  rw [List.countP_map, List.count_eq_countP]
  congr 1
theorem cnt_ints : ∀ {xs : List Dv}, (∀ x ∈ xs, cntD 1 999 x = true) → ∃ ns : List Int, xs = ns.map Dv.int ∧ ∀ n ∈ ns, 1 ≤ n ∧ n ≤ 999
  | [], _ => ⟨[], rfl, fun n h => nomatch h⟩
  | x :: xs, h => by
    obtain ⟨ns, rfl, hb⟩ := cnt_ints (xs := xs) fun y hy => h y (List.mem_cons_of_mem _ hy)
    have hx := h x List.mem_cons_self
    cases x <;> first | cases hx | skip
    rename_i i
    unfold cntD at hx
    obtain ⟨h1, h2⟩ := Bool.and_eq_true_iff.mp hx
    refine ⟨i :: ns, rfl, fun n hn => ?_⟩
    rcases List.mem_cons.mp hn with rfl | hn
    · exact ⟨of_decide_eq_true h1, of_decide_eq_true h2⟩
    · exact hb n hn
section
variable {K : PySem.W.Frag} {g : Ah} {R : DQ} {Y : Xc}
theorem w_owners {d : Dv} (hg : GdV d) (ho : OwG d) (kT : OwnOk d → R (.bl true) g) (kF : ¬ OwnOk d → R (.bl false) g) : D_are_owners K [d] g R Y := by
  refine U_are_owners ?_
  unfold B_are_owners
  cases ht : tpV d with
  | none =>
    have kN := kF fun ⟨ns, e, _⟩ => by subst e; cases ht
    cases d <;> first | (cases ht; done) | (unfold GdV at hg; exact hg.elim) | (walk_at "s"; exact kN)
  | some xs =>
    have e1 := tpV_vw (g := g) ht
    walk_at "s"
    refine r_inN (ns := [4, 7, 10]) rfl ?_
    walk_at "s"
    refine r_ite (fun c => ?_) (fun c => ?_)
    · walk_at "s"
      refine kF fun ⟨ns, e, h⟩ => ?_
      subst e
      cases ht
      have hl := h.l
      rw [List.length_map] at c
      simp at c
      omega
    · have hl : xs.length = 4 ∨ xs.length = 7 ∨ xs.length = 10 := by
        simp at c
        omega
      obtain ⟨rfl, hs⟩ := ho xs ht hl
      clear e1 ht
      obtain ⟨ps, hp, hpl⟩ := scl_pds hs
      walk_at "s"
      refine loop_rec (fun ds ev g' => g' = g ∧ ∃ c1 pre, ev = [some (.tq xs), c1] ∧ xs = pre ++ ds ∧ ∀ x ∈ pre, cntD 1 999 x = true ∧ ∀ n, x = .int n → ps.countP (fun z => PyData.eqv z (.int n)) ≤ 1) ?_ ?_ ⟨rfl, none, [], rfl, rfl, fun x z => nomatch z⟩
      · rintro ev g' ⟨rfl, c1, pre, rfl, e, h⟩
        refine ⟨trivial, ?_⟩
        rw [List.append_nil] at e
        subst e
        walk_at "s"
        obtain ⟨ns, rfl, hb⟩ := cnt_ints fun x hx => (h x hx).1
        refine kT ⟨ns, rfl, by rw [List.length_map] at hl; exact hl, ?_, hb⟩
        rw [pds_n] at hp
        cases hp
        rw [List.nodup_iff_count]
        intro n
        by_cases hn : n ∈ ns
        · have := (h (.int n) (List.mem_map_of_mem hn)).2 n rfl
          rw [count_n] at this
          exact this
        · rw [List.count_eq_zero.mpr hn]
          omega
      · rintro x ds ev g' N ⟨rfl, c1, pre, rfl, e, h⟩ hN
        refine ⟨trivial, ?_⟩
        have hx : SclD x := hs x (by rw [e]; simp)
        walk_at "s"
        refine w_count hx.gd ?_
        have hmem : x ∈ xs := by rw [e]; simp
        walk_at "s"
        refine r_iteN (fun c => ?_) (fun c => ?_)
        · walk_at "s"
          refine kF fun ⟨ns, e2, h2⟩ => ?_
          cases e2
          obtain ⟨n, hn, rfl⟩ := List.mem_map.mp hmem
          have := h2.b n hn
          rw [cntD, decide_eq_true this.1, decide_eq_true this.2] at c
          cases c
        · cases x <;> first | (cases c; done) | skip
          rename_i i
          walk_at "s"
          refine r_isTq ?_
          walk_at "s"
          refine r_countI hp hpl ?_
          walk_at "s"
          refine r_dec (fun c2 => ?_) (fun c2 => ?_)
          · walk_at "s"
            refine kF fun ⟨ns, e2, h2⟩ => ?_
            cases e2
            rw [pds_n] at hp
            cases hp
            rw [count_n] at c2
            have := List.nodup_iff_count.mp h2.n i
            omega
          · walk_at "s"
            refine hN _ _ ⟨rfl, _, pre ++ [.int i], rfl, by rw [e]; simp, fun y hy => ?_⟩
            rcases List.mem_append.mp hy with hy | hy
            · exact h y hy
            · cases List.mem_singleton.mp hy
              refine ⟨c, fun n en => ?_⟩
              cases en
              omega
end
/-! ### is_header -/
theorem eqv_str {p : PyData} {z : Str} (h : PyData.eqv p (.str z) = true) : p = .str z := by
  cases p <;> simp [PyData.eqv] at h <;> first | (subst h; rfl) | skip
theorem pd_str {d : Dv} {z : Str} (h : pd d = some (.str z)) : d = .str z := by
  cases d with
  | str y => cases h; rfl
  | tup xs =>
    obtain ⟨_, _, e⟩ := map_some h
    cases e
  | tq xs =>
    obtain ⟨_, _, e⟩ := map_some h
    cases e
  | kt xs =>
    obtain ⟨_, _, e⟩ := map_some h
    cases e
  | lst xs =>
    obtain ⟨_, _, e⟩ := map_some h
    cases e
  | kl xs =>
    obtain ⟨_, _, e⟩ := map_some h
    cases e
  | fz xs =>
    obtain ⟨_, _, e⟩ := map_some h
    cases e
  | _ => cases h
theorem plD_vl {d : Dv} {n : Nat} {g : Ah} (hg : GdV d) (h : plD d n = true) : ∃ p, pvw g d = some p ∧ pd d = some p ∧ Sh n p := by
  obtain ⟨p, e, s⟩ := plD_pd hg h
  refine ⟨p, ?_, e, s⟩
  cases d <;> first | exact e | (unfold GdV at hg; exact hg.elim)
theorem r_eqNilD {g : Ah} {R : DQ} {xs : List Dv} {ps : List PyData} {n : Nat} (hp : pds xs = some ps) (hs : ∀ p ∈ ps, Sh n p) (hn : n < 64) (k : R (.bl xs.isEmpty) g) : qEq true (.lst xs) (.lst []) g R := by
  refine r_eqD (p1 := .list ps) (p2 := .list []) (by show (pds xs).map PyData.list = _; rw [hp]; rfl) rfl ((Sh.list (n := n) hs).ok (by omega)) rfl ?_
  cases xs with
  | nil => unfold pds at hp; cases hp; simpa [PyData.eqv, PyData.eqvAll] using k
  | cons x xs =>
    unfold pds at hp
    cases q : pd x with
    | none => rw [q] at hp; cases hp
    | some p =>
      rw [q] at hp
      obtain ⟨qs, e1, rfl⟩ := map_some hp
      simpa [PyData.eqv, PyData.eqvAll] using k
theorem r_slV {g : Ah} {R : DQ} {d : Dv} {xs : List Dv} {lo hi : Option Int} (h : tpV d = some xs) (hw : ¬ (HT.sIx xs.length 0 lo = 0 ∧ HT.sIx xs.length xs.length hi = xs.length)) (k : R (.tq (cutX xs lo hi)) g) : qSlQ d lo hi g R := by
  cases d <;> cases h
  · exact ⟨hw, k⟩
  · exact k
theorem six {α : Type} {xs : List α} (h : xs.length = 6) : ∃ a b c d e f, xs = [a, b, c, d, e, f] := by
  match xs, h with
  | [a, b, c, d, e, f], _ => exact ⟨a, b, c, d, e, f, rfl⟩
theorem three {α : Type} {xs : List α} (h : xs.length = 3) : ∃ a b c, xs = [a, b, c] := by
  match xs, h with
  | [a, b, c], _ => exact ⟨a, b, c, rfl⟩
theorem mem4 {x0 x1 x2 x3 x4 x5 x : Dv} (h : x ∈ [x1, x2, x3, x4]) : x ∈ [x0, x1, x2, x3, x4, x5] := List.mem_cons_of_mem _ (List.mem_append_left [x5] h)
theorem shp_str {z : Str} (h : PyData.strOk z = true) : SeqAt.shaped (.str z) = true := (Sh.str (n := 0) h).ok
/-- a right header -/
def HdOk (v : Dv) : Prop := plD v 30 = true ∧ ∃ a b c d o, tpV v = some [.str "header", a, b, c, d, o] ∧ natD a = true ∧ natD b = true ∧ natD c = true ∧ natD d = true ∧ OwnOk o
/-- what is_header may be asked about -/
structure HdG (v : Dv) : Prop where
  g : GdV v
  z : szV v ≤ 50000
  o : ∀ xs x, tpV v = some xs → xs[5]? = some x → OwG x
section
variable {K : PySem.W.Frag} {g : Ah} {R : DQ} {Y : Xc}
theorem w_header {v : Dv} (hg : HdG v) (kT : HdOk v → ∀ g', Agr [] g g' → R (.bl true) g') (kF : ¬ HdOk v → ∀ g', Agr [] g g' → R (.bl false) g') : D_is_header K [v] g R Y := by
  refine U_is_header ?_
  unfold B_is_header
  walk_at "s"
  refine w_plain hg.g hg.z fun g1 ag => ?_
  walk_at "s"
  refine r_iteN (fun c => ?_) (fun c => ?_)
  · walk_at "s"
    exact kF (fun h => by rw [h.1] at c; cases c) _ ag
  walk_at "s"
  refine w_rowOf hg.g ?_
  cases ht : tpV v with
  | none =>
    walk_at "s"
    exact kF (fun ⟨_, a, b, c, d, o, h, _⟩ => by rw [ht] at h; cases h) _ ag
  | some xs =>
    show _
    walk_at "s"
    refine r_iteN (fun c1 => ?_) (fun c1 => ?_)
    · walk_at "s"
      exact kF (fun ⟨_, a, b, c, d, o, h, _⟩ => by rw [ht] at h; cases h; simp at c1) _ ag
    have hl : xs.length = 6 := by
      obtain ⟨h1, h2⟩ := Bool.and_eq_true_iff.mp c1
      have := of_decide_eq_true h1
      have := of_decide_eq_true h2
      omega
    obtain ⟨x0, x1, x2, x3, x4, x5, rfl⟩ := six hl
    have hgx := tpV_gd ht hg.g
    have hpl := c
    rw [tpV_pl ht] at hpl
    have hpx : ∀ x ∈ [x0, x1, x2, x3, x4, x5], plD x 29 = true := List.all_eq_true.mp (Bool.and_eq_true_iff.mp hpl).2
    have e1 := tpV_vw (g := g1) ht
    have m0 : x0 ∈ [x0, x1, x2, x3, x4, x5] := by simp
    obtain ⟨p0, q0, pd0, s0⟩ := plD_vl (g := g1) (gdVs_mem hgx m0) (hpx x0 m0)
    walk_at "s"
    refine r_neD (p2 := .str "header") q0 rfl (s0.ok (by decide)) (shp_str (by decide +kernel)) ?_
    walk_at "s"
    refine r_iteN (fun c2 => ?_) (fun c2 => ?_)
    · walk_at "s"
      refine kF (fun ⟨_, a, b, c, d, o, h, _⟩ => ?_) _ ag
      rw [ht] at h
      cases h
      cases pd0
      simp [PyData.eqv] at c2
    have e0 : x0 = .str "header" := by
      have := eqv_str c2
      subst this
      exact pd_str pd0
    subst e0
    walk_at "s"
    refine r_slV ht (by show ¬ (HT.sIx 6 0 (some 1) = 0 ∧ HT.sIx 6 6 (some 5) = 6); decide) ?_
    walk_at "s"
    have hc : cutX [.str "header", x1, x2, x3, x4, x5] (some 1) (some 5) = [x1, x2, x3, x4] := rfl
    rw [hc]
    walk_at "s"
    refine comp_pure [x1, x2, x3, x4] (fun x => x) (fun x => !natD x) (fun x => x) (by simp) (by simp) (fun _ _ => trivial) (fun x hx g2 N MM ag2 hN hM => ?_) fun g2 ag2 => ?_
    · walk_at "s"
      refine w_natural (gdVs_mem hgx (mem4 hx)) ?_
      walk_at "s"
      refine r_iteN (fun c3 => ?_) (fun c3 => ?_)
      · walk_at "s"
        exact hM (by rw [c3]; rfl) _ .refl
      · exact hN (by rw [c3]; rfl) _ .refl
    · rw [List.map_id']
      have hpd : ∃ ps, pds ([x1, x2, x3, x4].filter fun x => !natD x) = some ps ∧ ∀ p ∈ ps, Sh 29 p := by
        refine plDs_pd (gdVs_of fun x hx => gdVs_mem hgx ?_) ?_
        · exact mem4 (List.mem_filter.mp hx).1
        · rw [plDs_all, List.all_eq_true]
          intro x hx
          have := (List.mem_filter.mp hx).1
          exact hpx x (mem4 this)
      obtain ⟨ps, hp, hs⟩ := hpd
      walk_at "s"
      refine r_eqNilD hp hs (by decide) ?_
      walk_at "s"
      have e2 := tpV_vw (g := g2) ht
      refine r_ite (fun c3 => ?_) (fun c3 => ?_)
      · walk_at "s"
        have ho := hg.o _ x5 ht rfl
        have hn : ∀ x ∈ [x1, x2, x3, x4], natD x = true := fun x hx => by
          have := List.isEmpty_iff.mp c3
          rw [List.filter_eq_nil_iff] at this
          have := this x hx
          simpa using this
        refine w_owners (gdVs_mem hgx (by simp)) ho (fun h => ?_) (fun h => ?_)
        · exact kT ⟨c, x1, x2, x3, x4, x5, ht, hn x1 (by simp), hn x2 (by simp), hn x3 (by simp), hn x4 (by simp), h⟩ _ (ag.trans ag2)
        · refine kF (fun ⟨_, a, b, c, d, o, h2, _, _, _, _, ho⟩ => ?_) _ (ag.trans ag2)
          rw [ht] at h2
          cases h2
          exact h ho
      · rw [c3]
        refine kF (fun ⟨_, a, b, c, d, o, h2, n1, n2, n3, n4, ho⟩ => ?_) _ (ag.trans ag2)
        rw [ht] at h2
        cases h2
        simp [n1, n2, n3, n4] at c3
end
/-! ### the registry and its names -/
def nmF : Nat → List PyData → List (Key × Dv)
  | _, [] => []
  | k, p :: ps => (.inr p.shown, .int ((k : Int) + 1)) :: nmF (k + 1) ps
theorem nmF_len : ∀ (ps : List PyData) (k : Nat), (nmF k ps).length = ps.length
  | [], _ => rfl
  | p :: ps, k => by rw [nmF, List.length_cons, nmF_len ps, List.length_cons]
def PlL (ps : List PyData) : Prop := ∀ p ∈ ps, Pl p
theorem nm_some : ∀ {ps : List PyData} {i k : Nat} {q : PyData}, PlL ps → ps.Nodup → ps[i]? = some q → valD (nmF k ps) (.inr q.shown) = some (.int ((k : Int) + i + 1))
  | [], i, k, q, _, _, h => by simp at h
  | p :: ps, 0, k, q, hp, hn, h => by
    simp only [List.getElem?_cons_zero, Option.some.injEq] at h
    subst h
    rw [nmF, valD, if_pos rfl]
    congr 2
  | p :: ps, i + 1, k, q, hp, hn, h => by
    simp only [List.getElem?_cons_succ] at h
    have hm : q ∈ ps := List.mem_of_getElem? h
    have ne : ¬ (Sum.inr p.shown : Key) = .inr q.shown := fun e => by
      have := shown_inj (hp p List.mem_cons_self) (hp q (List.mem_cons_of_mem _ hm)) (Sum.inr.inj e)
      subst this
      exact (List.nodup_cons.mp hn).1 hm
    rw [nmF, valD, if_neg ne, nm_some (fun x hx => hp x (List.mem_cons_of_mem _ hx)) (List.nodup_cons.mp hn).2 h]
    congr 2
    push_cast
    omega
theorem nm_none : ∀ {ps : List PyData} {k : Nat} {q : PyData}, PlL ps → Pl q → q ∉ ps → valD (nmF k ps) (.inr q.shown) = none
  | [], k, q, _, _, _ => rfl
  | p :: ps, k, q, hp, hq, h => by
    have ne : ¬ (Sum.inr p.shown : Key) = .inr q.shown := fun e => by
      have := shown_inj (hp p List.mem_cons_self) hq (Sum.inr.inj e)
      subst this
      exact h List.mem_cons_self
    rw [nmF, valD, if_neg ne]
    exact nm_none (fun x hx => hp x (List.mem_cons_of_mem _ hx)) hq fun z => h (List.mem_cons_of_mem _ z)
theorem nm_put : ∀ {ps : List PyData} {k : Nat} {q : PyData}, PlL ps → Pl q → q ∉ ps → putD (nmF k ps) (.inr q.shown) (.int ((k : Int) + ps.length + 1)) = nmF k (ps ++ [q])
  | [], k, q, _, _, _ => by
    show [((Sum.inr q.shown : Key), Dv.int ((k : Int) + (0 : Nat) + 1))] = [(.inr q.shown, .int ((k : Int) + 1))]
    congr 4
  | p :: ps, k, q, hp, hq, h => by
    have ne : ¬ (Sum.inr p.shown : Key) = .inr q.shown := fun e => by
      have := shown_inj (hp p List.mem_cons_self) hq (Sum.inr.inj e)
      subst this
      exact h List.mem_cons_self
    have := nm_put (k := k + 1) (fun x hx => hp x (List.mem_cons_of_mem _ hx)) hq fun z => h (List.mem_cons_of_mem _ z)
    rw [List.cons_append, nmF, nmF, putD, if_neg ne, ← this]
    congr 3
    rw [List.length_cons]
    push_cast
    omega
structure RgA (K : PySem.W.Frag) (r n p s : Addr) (ps : List PyData) (os : List Int) (sl : List (PyData × PyData)) (g : Ah) : Prop where
  eo : g r = some (.ins (He.ga K "Registry") [("_names", .ref n), ("_pens", .ref p), ("_seals", .ref s)])
  en : g n = some (.dct (nmF 0 ps))
  ep : ∃ kvs, g p = some (.dct kvs) ∧ kvs.length ≤ os.length ∧ ∀ o : Int, ((valD kvs (.inl o)).isSome = true ↔ o ∈ os)
  es : ∃ kvs, g s = some (.dcT kvs) ∧ kvs.length ≤ sl.length ∧ ∀ x b, Pl x → Pl b → ((valD kvs [.inr x.shown, .inr b.shown]).isSome = true ↔ (x, b) ∈ sl)
  pln : PlL ps
  nd : ps.Nodup
  pl : ∀ x ∈ sl, Pl x.1 ∧ Pl x.2
  np : n ≠ p
  ns : n ≠ s
  sp : s ≠ p
def rgO (K : PySem.W.Frag) (r n p s : Addr) (ps : List PyData) (os : List Int) (sl : List (PyData × PyData)) : Ob := ⟨[r, n, p, s], RgA K r n p s ps os sl⟩
theorem RgA.ok {K : PySem.W.Frag} {r n p s : Addr} {ps : List PyData} {os : List Int} {sl : List (PyData × PyData)} {g : Ah} (h : RgA K r n p s ps os sl g) : (rgO K r n p s ps os sl).ok g := by
  obtain ⟨eo, en, ⟨k1, e1, l1, h1⟩, ⟨k2, e2, l2, h2⟩, pln, nd, pl, np, ns, sp⟩ := h
  refine ⟨⟨eo, en, ⟨k1, e1, l1, h1⟩, ⟨k2, e2, l2, h2⟩, pln, nd, pl, np, ns, sp⟩, fun a ha => ?_, fun g' e => ⟨?_, ?_, ⟨k1, ?_, l1, h1⟩, ⟨k2, ?_, l2, h2⟩, pln, nd, pl, np, ns, sp⟩⟩
  · rcases List.mem_cons.mp ha with rfl | ha
    · rw [eo]; exact fun z => nomatch z
    · rcases List.mem_cons.mp ha with rfl | ha
      · rw [en]; exact fun z => nomatch z
      · rcases List.mem_cons.mp ha with rfl | ha
        · rw [e1]; exact fun z => nomatch z
        · cases List.mem_singleton.mp ha
          rw [e2]; exact fun z => nomatch z
  · rw [e r (by simp [rgO])]; exact eo
  · rw [e n (by simp [rgO])]; exact en
  · rw [e p (by simp [rgO])]; exact e1
  · rw [e s (by simp [rgO])]; exact e2
def penM (K : PySem.W.Frag) (o : Int) (r : Addr) : Mo := .ins (He.ga K "Pen") [("owner", .int o), ("_registry", .ref r)]

noncomputable instance decPy : DecidableEq PyData := fun a b => Classical.propDecidable (a = b)
noncomputable def nmI (ps : List PyData) (q : PyData) : Nat := ps.idxOf q + 1
noncomputable def nmA (ps : List PyData) (q : PyData) : List PyData := if q ∈ ps then ps else ps ++ [q]
theorem nmA_pre (ps : List PyData) (q : PyData) : ps <+: nmA ps q := by
  unfold nmA
  split
  · exact List.prefix_rfl
  · exact List.prefix_append _ _
theorem nmA_mem (ps : List PyData) (q : PyData) : q ∈ nmA ps q := by
  unfold nmA
  split
  · assumption
  · simp
theorem nmA_len (ps : List PyData) (q : PyData) : (nmA ps q).length ≤ ps.length + 1 := by
  unfold nmA
  split
  · omega
  · simp
theorem nmI_pre {ps ps' : List PyData} {q : PyData} (h : ps <+: ps') (m : q ∈ ps) : nmI ps' q = nmI ps q := by
  obtain ⟨t, rfl⟩ := h
  unfold nmI
  rw [List.idxOf_append, if_pos m]
theorem nmI_inj {ps : List PyData} {q q' : PyData} (m : q ∈ ps) (m' : q' ∈ ps) (h : nmI ps q = nmI ps q') : q = q' := by
  unfold nmI at h
  have e : ps.idxOf q = ps.idxOf q' := by omega
  have h1 := List.getElem_idxOf (List.idxOf_lt_length_of_mem m)
  have h2 := List.getElem_idxOf (List.idxOf_lt_length_of_mem m')
  rw [← h1, ← h2]
  congr 1
theorem nmI_le {ps : List PyData} {q : PyData} (m : q ∈ ps) : nmI ps q ≤ ps.length := by
  unfold nmI
  have := List.idxOf_lt_length_of_mem m
  omega
section
variable {K : PySem.W.Frag} {g : Ah} {r n p s : Addr} {ps : List PyData} {os : List Int} {sl : List (PyData × PyData)} {R : DQ} {Y : Xc}
theorem s_reg (hr : g r = none) (k : ∀ n p s g', g n = none → g p = none → g s = none → RgA K r n p s [] [] [] g' → Agr [] g g' → R .non g') : D_Registry__init_ K [.ref r] (ups g r (.ins (He.ga K "Registry") [])) R Y := by
  refine U_Registry__init_ ?_
  unfold B_Registry__init_
  walk_at "s"
  refine r_d0M fun n hn => ?_
  obtain ⟨n1, hn⟩ := ups_none hn
  walk_at "s"
  refine r_d0M fun p hp => ?_
  obtain ⟨p1, hp⟩ := ups_none hp
  obtain ⟨p2, hp⟩ := ups_none hp
  obtain ⟨_, hp⟩ := ups_none hp
  walk_at "s"
  refine r_d0T fun s hs => ?_
  obtain ⟨s1, hs⟩ := ups_none hs
  obtain ⟨s2, hs⟩ := ups_none hs
  obtain ⟨_, hs⟩ := ups_none hs
  obtain ⟨s3, hs⟩ := ups_none hs
  obtain ⟨_, hs⟩ := ups_none hs
  walk_at "s"
  refine k n p s _ hn hp hs ⟨ups_same, ?_, ⟨[], ?_, by decide, fun o => by simp [valD]⟩, ⟨[], ?_, by decide, fun x b _ _ => by simp [valD]⟩, (fun x z => nomatch z), List.nodup_nil, (fun x z => nomatch z), Ne.symm p2, Ne.symm s3, s2⟩ ?_
  · walk_at "hp"
  · walk_at "hp"
  · walk_at "hp"
  · walk_at "ag"
theorem s_name {N w : Nat} {d : Dv} {q : PyData} (h : RgA K r n p s ps os sl g) (hv : Val N w d q) (hN : N ≤ 40) (hw : w ≤ 1500) (hz : ps.length < 99999)
    (kk : ∀ g', RgA K r n p s (nmA ps q) os sl g' → Agr [n] g g' → R (.int ((nmI ps q : Nat) : Int)) g') : D_Registry_name K [.ref r, d] g R Y := by
  refine U_Registry_name ?_
  unfold B_Registry_name
  walk_at "s"
  refine r_repr hv.e hv.pr hN hw ?_
  have h1 := h.eo
  have h2 := h.en
  walk_at "s"
  by_cases hm : q ∈ ps
  · have hi := List.idxOf_lt_length_of_mem hm
    have e : ps[ps.idxOf q]? = some q := by rw [List.getElem?_eq_getElem hi, List.getElem_idxOf]
    have e1 := nm_some (k := 0) h.pln h.nd e
    refine r_ninD1 (vw_dctE h2) rfl e1 ?_
    walk_at "s"
    refine r_ixD (vw_dctE h2) rfl e1 ?_
    rw [show ((0 : Nat) : Int) + (ps.idxOf q : Nat) + 1 = ((nmI ps q : Nat) : Int) by unfold nmI; omega]
    exact kk g (by unfold nmA; rw [if_pos hm]; exact h) .refl
  · have e1 := nm_none (k := 0) h.pln hv.pl hm
    refine r_ninD0 (vw_dctE h2) rfl e1 ?_
    walk_at "s"
    have hz' : (nmF 0 ps).length < 100000 := by rw [nmF_len]; omega
    refine r_putD h2 rfl hz' ?_
    have e2 := nm_put (k := 0) h.pln hv.pl hm
    rw [nmF_len]
    rw [show ((0 : Nat) : Int) + ps.length + 1 = (ps.length : Int) + 1 by omega] at e2
    rw [e2]
    have hnd : (ps ++ [q]).Nodup := List.nodup_append.mpr ⟨h.nd, List.nodup_cons.mpr ⟨(fun z => nomatch z), List.nodup_nil⟩, fun x hx y hy => by
      cases List.mem_singleton.mp hy
      rintro rfl
      exact hm hx⟩
    have hpl : PlL (ps ++ [q]) := fun x hx => by
      rcases List.mem_append.mp hx with hx | hx
      · exact h.pln x hx
      · cases List.mem_singleton.mp hx; exact hv.pl
    have nr : r ≠ n := mo_apart h1 h2 (fun z => nomatch z)
    have g1 : ups g n (.dct (nmF 0 (ps ++ [q]))) r = some (.ins (He.ga K "Registry") [("_names", .ref n), ("_pens", .ref p), ("_seals", .ref s)]) := (ups_ne nr).trans h1
    have g2 : ups g n (.dct (nmF 0 (ps ++ [q]))) n = some (.dct (nmF 0 (ps ++ [q]))) := ups_same
    have hR : RgA K r n p s (ps ++ [q]) os sl (ups g n (.dct (nmF 0 (ps ++ [q])))) := ⟨g1, g2, h.ep.imp fun _ z => ⟨(ups_ne (Ne.symm h.np)).trans z.1, z.2⟩, h.es.imp fun _ z => ⟨(ups_ne (Ne.symm h.ns)).trans z.1, z.2⟩, hpl, hnd, h.pl, h.np, h.ns, h.sp⟩
    have hA : Agr [n] g (ups g n (.dct (nmF 0 (ps ++ [q])))) := Agr.refl.ups (by simp)
    generalize ups g n (.dct (nmF 0 (ps ++ [q]))) = g' at g1 g2 hR hA
    walk_at "s"
    have e3 := nm_some (i := ps.length) (k := 0) hpl hnd (q := q) (by rw [List.getElem?_append_right (Nat.le_refl _), Nat.sub_self]; rfl)
    refine r_ixD (vw_dctE g2) rfl e3 ?_
    rw [show ((0 : Nat) : Int) + ps.length + 1 = (ps.length : Int) + 1 by omega]
    have := kk g' (by unfold nmA; rw [if_neg hm]; exact hR) hA
    have ei : nmI ps q = ps.length + 1 := by unfold nmI; rw [List.idxOf_eq_length hm]
    rw [ei] at this
    exact this
theorem s_pen (o : Int) (h : RgA K r n p s ps os sl g) (hz : os.length < 900) (k1 : o ∉ os → ∀ a g', g a = none → g' a = some (penM K o r) → RgA K r n p s ps (o :: os) sl g' → Agr [p] g g' → R (.ref a) g') (k2 : o ∈ os → Y ⟨He.ga K "InvalidArgument", []⟩ g) : D_Registry_pen K [.ref r, .int o] g R Y := by
  refine U_Registry_pen ?_
  unfold B_Registry_pen
  have h1 := h.eo
  obtain ⟨kvs, e1, l1, hk⟩ := h.ep
  walk_at "s"
  refine r_inD (vw_dctE e1) rfl ?_
  walk_at "s"
  refine r_ite (fun e => ?_) (fun e => ?_)
  · walk_at "s"
    exact k2 ((hk o).mp e)
  · have hno : o ∉ os := fun z => by rw [(hk o).mpr z] at e; cases e
    walk_at "s"
    refine r_putD e1 rfl (by omega) ?_
    have nr : r ≠ p := mo_apart h1 e1 (fun z => nomatch z)
    have hA : Agr [p] g (ups g p (.dct (putD kvs (.inl o) (.bl true)))) := Agr.refl.ups (by simp)
    have hS : RgA K r n p s ps (o :: os) sl (ups g p (.dct (putD kvs (.inl o) (.bl true)))) := by
      obtain ⟨k2, e2, l2, h2⟩ := h.es
      refine ⟨(ups_ne nr).trans h1, (ups_ne h.np).trans h.en, ⟨_, ups_same, Nat.le_trans (putD_le ..) (Nat.succ_le_succ l1), fun o' => ?_⟩, ⟨k2, (ups_ne h.sp).trans e2, l2, h2⟩, h.pln, h.nd, h.pl, h.np, h.ns, h.sp⟩
      rw [valD_put, List.mem_cons]
      by_cases z : o' = o
      · subst z
        simp
      · rw [if_neg (fun w => z (Sum.inl.inj w).symm), hk]
        simp [z]
    generalize ups g p (.dct (putD kvs (.inl o) (.bl true))) = g2 at hA hS
    walk_at "s"
    refine r_make ?_
    walk_at "s"
    intro a ha
    refine U_Pen__init_ ?_
    unfold B_Pen__init_
    walk_at "s"
    refine ⟨rfl, k1 hno a _ ((hA.fresh ha).resolve_left ?_) ups_same ?_ ?_⟩
    · intro z
      cases List.mem_singleton.mp z
      obtain ⟨_, e, _⟩ := hS.ep
      rw [e] at ha; cases ha
    · exact hS.ok.st _ fun b hb => by
        have : b ≠ a := fun z => hS.ok.al b hb (z ▸ ha)
        rw [ups_ne this, ups_ne this, ups_ne this]
    · have ha' := (hA.fresh ha)
      refine ((hA.fr ha').fr ha').fr ha'
theorem s_note {N w N' w' : Nat} {dx db : Dv} {x b : PyData} (h : RgA K r n p s ps os sl g) (hx : Val N w dx x) (hb : Val N' w' db b) (hN : N ≤ 40) (hw : w ≤ 1500) (hN' : N' ≤ 40) (hw' : w' ≤ 1500) (hz : sl.length < 1000) (k : ∀ g', RgA K r n p s ps os (sl ++ [(x, b)]) g' → Agr [s] g g' → R .non g') : D_Registry_note_seal K [.ref r, dx, db] g R Y := by
  refine U_Registry_note_seal ?_
  unfold B_Registry_note_seal
  have h1 := h.eo
  obtain ⟨kvs, e1, l1, hk⟩ := h.es
  walk_at "s"
  refine r_repr hx.e hx.pr hN hw ?_
  walk_at "s"
  refine r_repr hb.e hb.pr hN' hw' ?_
  walk_at "s"
  refine r_putT e1 rfl (by omega) ?_
  have nr : r ≠ s := mo_apart h1 e1 (fun z => nomatch z)
  have hA : Agr [s] g (ups g s (.dcT (putD kvs [.inr x.shown, .inr b.shown] (.bl true)))) := Agr.refl.ups (by simp)
  refine k _ ?_ hA
  obtain ⟨k2, e2, l2, h2⟩ := h.ep
  refine ⟨(ups_ne nr).trans h1, (ups_ne h.ns).trans h.en, ⟨k2, (ups_ne (Ne.symm h.sp)).trans e2, l2, h2⟩, ⟨_, ups_same, by rw [List.length_append]; exact Nat.le_trans (putD_le ..) (Nat.succ_le_succ l1), fun x' b' px pb => ?_⟩, h.pln, h.nd, fun y hy => ?_, h.np, h.ns, h.sp⟩
  · rw [valD_put, List.mem_append, List.mem_singleton]
    by_cases z : (x', b') = (x, b)
    · cases z
      simp
    · rw [if_neg (fun w => z ?_), hk x' b' px pb]
      · simp [z]
      · have w1 := List.cons.inj w
        have w2 := List.cons.inj w1.2
        rw [shown_inj hx.pl px (Sum.inr.inj w1.1), shown_inj hb.pl pb (Sum.inr.inj w2.1)]
  · rcases List.mem_append.mp hy with hy | hy
    · exact h.pl y hy
    · cases List.mem_singleton.mp hy; exact ⟨hx.pl, hb.pl⟩
theorem s_sealed {N w N' w' : Nat} {dx db : Dv} {x b : PyData} (h : RgA K r n p s ps os sl g) (hx : Val N w dx x) (hb : Val N' w' db b) (hN : N ≤ 40) (hw : w ≤ 1500) (hN' : N' ≤ 40) (hw' : w' ≤ 1500) (k : ∀ v : Bool, (v = true ↔ (x, b) ∈ sl) → R (.bl v) g) : D_Registry_is_sealed K [.ref r, dx, db] g R Y := by
  refine U_Registry_is_sealed ?_
  unfold B_Registry_is_sealed
  have h1 := h.eo
  obtain ⟨kvs, e1, l1, hk⟩ := h.es
  walk_at "s"
  refine r_repr hx.e hx.pr hN hw ?_
  walk_at "s"
  refine r_repr hb.e hb.pr hN' hw' ?_
  walk_at "s"
  refine r_inT e1 rfl ?_
  exact k _ (hk x b hx.pl hb.pl)
theorem s_seal {N' w' : Nat} {a : Addr} {o : Int} {db : Dv} {b : PyData} (h : RgA K r n p s ps os sl g) (ha : g a = some (penM K o r)) (ho : o.natAbs < 1000000) (hb : Val N' w' db b) (hN' : N' ≤ 40) (hw' : w' ≤ 1500) (hz : sl.length < 1000) (k : ∀ g', RgA K r n p s ps os (sl ++ [(.int o, b)]) g' → Agr [s] g g' → R (.tup [.str "sealed", .int o, db]) g') : D_Pen_seal K [.ref a, db] g R Y := by
  refine U_Pen_seal ?_
  unfold B_Pen_seal
  unfold penM at ha
  have h1 := h.eo
  walk_at "s"
  refine s_note h (Val.sml (n := 0) (by omega) (by omega) (Nat.le_refl _)) hb (by decide) (by decide) hN' hw' hz fun g' hS hA => ?_
  have ha' := hA.get (b := a) (by
    rw [List.mem_singleton]
    rintro rfl
    obtain ⟨_, e, _⟩ := h.es
    rw [e] at ha; cases ha) ha
  walk_at "s"
  exact k _ hS hA
end
/-! ### values of lists of values -/
structure ValL (n w : Nat) (xs : List Dv) (ps : List PyData) : Prop where
  e : pds xs = some ps
  pl : PlAll ps
  pr : ∀ p ∈ ps, Prn n 1500 p
  c : PyData.weightAll ps ≤ w
theorem ValL.nil {n w : Nat} : ValL n w [] [] := ⟨by unfold pds; rfl, by simp only [PlAll], (fun p h => nomatch h), by simp [PyData.weightAll]⟩
theorem ValL.cons {n w w' W : Nat} {d : Dv} {p : PyData} {xs : List Dv} {ps : List PyData} (h : Val n w d p) (k : ValL n w' xs ps) (hw : w ≤ 1500) (hW : w + w' + 1 ≤ W) : ValL n W (d :: xs) (p :: ps) :=
  ⟨pds_cons h.e k.e, by simp only [PlAll]; exact ⟨h.pl, k.pl⟩, fun q hq => by
    rcases List.mem_cons.mp hq with rfl | hq
    · exact h.pr.up (Nat.le_refl _) hw
    · exact k.pr q hq, by have := h.pr.c; have := k.c; simp only [PyData.weightAll]; omega⟩
theorem ValL.tup {n w : Nat} {xs : List Dv} {ps : List PyData} (h : ValL n w xs ps) : Val (n + 1) w (.tup xs) (.tuple ps) :=
  ⟨by unfold pd; rw [h.e]; rfl, by simp only [Pl]; exact h.pl, .tup h.pr h.c⟩
theorem ValL.tq {n w : Nat} {xs : List Dv} {ps : List PyData} (h : ValL n w xs ps) : Val (n + 1) w (.tq xs) (.tuple ps) :=
  ⟨by unfold pd; rw [h.e]; rfl, by simp only [Pl]; exact h.pl, .tup h.pr h.c⟩
theorem ValL.tp {n w : Nat} {d : Dv} {xs : List Dv} {ps : List PyData} (h : ValL n w xs ps) (e : tpV d = some xs) : Val (n + 1) w d (.tuple ps) := by
  cases d <;> cases e
  · exact h.tup
  · exact h.tq
theorem ValL.ints {n : Nat} : ∀ {ns : List Int}, (∀ i ∈ ns, -999999999999 ≤ i ∧ i ≤ 999999999999) → ValL n (61 * ns.length) (ns.map Dv.int) (ns.map PyData.int)
  | [], _ => .nil
  | i :: ns, h => .cons (.sml (w := 60) (h i List.mem_cons_self).1 (h i List.mem_cons_self).2 (Nat.le_refl _)) (ValL.ints fun j hj => h j (List.mem_cons_of_mem _ hj)) (by decide) (by rw [List.length_cons]; omega)
/-! ### is_certificate -/
def bdyP (w : Str) (h num nm : Int) : PyData := .tuple [.str w, .int h, .int num, .int nm]
def bdyD (w : Str) (h num nm : Int) : Dv := .tup [.str w, .int h, .int num, .int nm]
theorem tx_80 : ∀ z ∈ (["precommit", "prevote", "header", "certificate"] : List Str), Tx z ∧ z.cps.size ≤ 60 ∧ (PyData.str z).leavesShort 64 = true := fun z h => by
  have := (by decide +kernel : ∀ z ∈ (["precommit", "prevote", "header", "certificate"] : List Str), txB z = true ∧ z.cps.size ≤ 60 ∧ (PyData.str z).leavesShort 64 = true) z h
  exact ⟨tx_of this.1, this.2⟩
theorem val_80 {n : Nat} {z : Str} (h : z ∈ (["precommit", "prevote", "header", "certificate"] : List Str)) : Val n 60 (.str z) (.str z) := by
  obtain ⟨h1, h2, h3⟩ := tx_80 z h
  exact .str h1 h2 h3 (Nat.le_refl _)
def Sml (i : Int) : Prop := -999999999999 ≤ i ∧ i ≤ 999999999999
theorem Sml.v {i : Int} {n : Nat} (h : Sml i) : Val n 60 (.int i) (.int i) := .sml h.1 h.2 (Nat.le_refl _)
theorem val_bdy {w : Str} {h num nm : Int} {n : Nat} (hw : w ∈ (["precommit", "prevote", "header", "certificate"] : List Str)) (h1 : Sml h) (h2 : num.natAbs < 10 ^ 60) (h3 : Sml nm) : Val (n + 1) 390 (bdyD w h num nm) (bdyP w h num nm) :=
  ValL.tup (.cons (val_80 hw) (.cons h1.v (.cons (.int (w := 201) h2 (Nat.le_refl _)) (.cons h3.v (.nil (w := 0)) (by decide) (Nat.le_refl _)) (by decide) (Nat.le_refl _)) (by decide) (Nat.le_refl _)) (by decide) (by decide))
/-- a right certificate: by the seals -/
def CtOk (sl : List (PyData × PyData)) (h nm : Int) (ns : List Int) (v : Dv) : Prop := plD v 30 = true ∧ ∃ (num : Int) (S : Dv) (os : List Int), tpV v = some [.str "certificate", .int num, S] ∧ 0 ≤ num ∧ tpV S = some (os.map Dv.int) ∧ quo ns.length ≤ os.length ∧
  os.Pairwise (· < ·) ∧ ∀ o ∈ os, 1 ≤ o ∧ o ≤ 999 ∧ o ∈ ns ∧ ((.int o, bdyP "precommit" h num nm) : PyData × PyData) ∈ sl
theorem nmI_nmA (ps : List PyData) (q : PyData) : nmI (nmA ps q) q = nmI ps q := by
  unfold nmA
  split
  · rfl
  · next h =>
    unfold nmI
    rw [List.idxOf_append, if_neg h, List.idxOf_eq_length h]
    simp
theorem agM {S : List Addr} {g g' : Ah} (h : Agr [] g g') : Agr S g g' := fun b _ hn => h b (fun z => nomatch z) hn
theorem int_map {xs : List Int} {o : List Int} (h : xs.map Dv.int = o.map Dv.int) : xs = o := by
  have := congrArg (List.map fun d => match d with | Dv.int i => i | _ => 0) h
  rw [List.map_map, List.map_map] at this
  simpa [Function.comp_def] using this
section
variable {K : PySem.W.Frag} {g : Ah} {r n p s : Addr} {ps : List PyData} {os0 : List Int} {sl : List (PyData × PyData)} {R : DQ} {Y : Xc}
theorem w_cert {v hd : Dv} {q : PyData} {N w : Nat} {h1 : Int} {ns : List Int} {xs1 : List Dv} (hR : RgA K r n p s ps os0 sl g) (hv : GdV v) (hz : szV v ≤ 50000) (hh : tpV hd = some xs1) (hh1 : xs1[1]? = some (.int h1)) (hs1 : Sml h1)
    (hq : Val N w hd q) (hN : N ≤ 40) (hw : w ≤ 1500) (hps : ps.length < 90000) (hn0 : 1 ≤ ns.length) (hn1 : ns.length ≤ 1000)
    (kT : CtOk sl h1 (nmI ps q) ns v → ∀ g', RgA K r n p s (nmA ps q) os0 sl g' → Agr [n] g g' → R (.bl true) g')
    (kF : ¬ CtOk sl h1 (nmI ps q) ns v → ∀ ps' g', ps' = ps ∨ ps' = nmA ps q → RgA K r n p s ps' os0 sl g' → Agr [n] g g' → R (.bl false) g') : D_is_certificate K [.ref r, v, hd, .tq (ns.map Dv.int)] g R Y := by
  refine U_is_certificate ?_
  unfold B_is_certificate
  walk_at "s"
  refine w_plain hv hz fun g1 ag => ?_
  have hR1 : RgA K r n p s ps os0 sl g1 := (hR.ok.agr ag (fun _ _ z => nomatch z)).p
  have agn : Agr [n] g g1 := agM ag
  walk_at "s"
  refine r_iteN (fun c => ?_) (fun c => ?_)
  · walk_at "s"
    exact kF (fun h => by rw [h.1] at c; cases c) _ _ (.inl rfl) hR1 agn
  walk_at "s"
  refine w_rowOf hv ?_
  cases ht : tpV v with
  | none =>
    walk_at "s"
    exact kF (fun ⟨_, a, b, o, h, _⟩ => by rw [ht] at h; cases h) _ _ (.inl rfl) hR1 agn
  | some xs =>
    show _
    walk_at "s"
    refine r_iteN (fun c1 => ?_) (fun c1 => ?_)
    · walk_at "s"
      exact kF (fun ⟨_, a, b, o, h, _⟩ => by rw [ht] at h; cases h; simp at c1) _ _ (.inl rfl) hR1 agn
    have hl : xs.length = 3 := by
      obtain ⟨h1, h2⟩ := Bool.and_eq_true_iff.mp c1
      have := of_decide_eq_true h1
      have := of_decide_eq_true h2
      omega
    obtain ⟨x0, x1, S, rfl⟩ := three hl
    have hgx := tpV_gd ht hv
    have hpl := c
    rw [tpV_pl ht] at hpl
    have hpx : ∀ x ∈ [x0, x1, S], plD x 29 = true := List.all_eq_true.mp (Bool.and_eq_true_iff.mp hpl).2
    have e1 := tpV_vw (g := g1) ht
    have m0 : x0 ∈ [x0, x1, S] := by simp
    have m1 : x1 ∈ [x0, x1, S] := by simp
    have mS : S ∈ [x0, x1, S] := by simp
    obtain ⟨p0, q0, pd0, s0⟩ := plD_vl (g := g1) (gdVs_mem hgx m0) (hpx x0 m0)
    walk_at "s"
    refine r_neD (p2 := .str "certificate") q0 rfl (s0.ok (by decide)) (shp_str (by decide +kernel)) ?_
    walk_at "s"
    refine r_iteN (fun c2 => ?_) (fun c2 => ?_)
    · walk_at "s"
      refine kF (fun ⟨_, a, b, o, h, _⟩ => ?_) _ _ (.inl rfl) hR1 agn
      rw [ht] at h
      cases h
      cases pd0
      simp [PyData.eqv] at c2
    have e0 : x0 = .str "certificate" := by
      have := eqv_str c2
      subst this
      exact pd_str pd0
    subst e0
    walk_at "s"
    refine w_natural (gdVs_mem hgx m1) ?_
    walk_at "s"
    refine r_iteN (fun c3 => ?_) (fun c3 => ?_)
    · walk_at "s"
      refine kF (fun ⟨_, a, b, o, h, h0, _⟩ => ?_) _ _ (.inl rfl) hR1 agn
      rw [ht] at h
      cases h
      rw [natD, decide_eq_true h0] at c3
      cases c3
    cases x1 <;> first | (cases c3; done) | skip
    rename_i num
    have hnum : 0 ≤ num := of_decide_eq_true c3
    have hnb : num.natAbs < 10 ^ 60 := by
      have := hpx _ m1
      unfold plD at this
      simp only [Bool.not_eq_true', decide_eq_false_iff_not] at this
      rw [if_neg (by omega)] at this
      omega
    have noS : tpV S = none → ¬ CtOk sl h1 (nmI ps q) ns v := fun hS ⟨_, a, b, o, h, h0, h2, _⟩ => by
      rw [ht] at h
      cases h
      rw [hS] at h2
      cases h2
    have hgS := gdVs_mem hgx mS
    cases hS : tpV S with
    | none =>
      have := kF (noS hS) _ _ (.inl rfl) hR1 agn
      cases S <;> first | (cases hS; done) | (unfold GdV at hgS; exact hgS.elim) | (walk_at "s"; exact this)
    | some zs =>
      have eS := tpV_vw (g := g1) hS
      walk_at "s"
      refine w_quorum (xs := ns.map Dv.int) rfl (by rw [List.length_map]; exact hn0) (by rw [List.length_map]; exact hn1) ?_
      rw [List.length_map]
      walk_at "s"
      refine r_dec (fun c4 => ?_) (fun c4 => ?_)
      · walk_at "s"
        refine kF (fun ⟨_, a, b, o, h, h0, h2, h3, _⟩ => ?_) _ _ (.inl rfl) hR1 agn
        rw [ht] at h
        cases h
        rw [hS] at h2
        cases h2
        rw [List.length_map] at c4
        omega
      have eh := tpV_vw (g := g1) hh
      have eo := hR1.eo
      walk_at "s"
      refine s_name hR1 hq hN hw (by omega) fun g2 hR2 ag2 => ?_
      have agn2 : Agr [n] g g2 := agn.trans ag2
      have hnl := nmA_len ps q
      have hnmS : Sml ((nmI ps q : Nat) : Int) := by
        have := nmI_le (nmA_mem ps q)
        rw [nmI_nmA] at this
        exact ⟨by omega, by omega⟩
      have hb := val_bdy (n := 0) (w := "precommit") (by simp) hs1 hnb hnmS
      have kT' := fun h => kT h g2 hR2 agn2
      have kF' := fun h => kF h _ g2 (.inr rfl) hR2 agn2
      clear kT kF
      generalize hnm : ((nmI ps q : Nat) : Int) = nm at *
      have eS2 := tpV_vw (g := g2) hS
      have hgz := tpV_gd hS hgS
      have eo2 := hR2.eo
      have toN : ∀ os : List Int, zs = os.map Dv.int → os.Pairwise (· < ·) → (∀ o ∈ os, 1 ≤ o ∧ o ≤ 999 ∧ o ∈ ns ∧ ((.int o, bdyP "precommit" h1 num nm) : PyData × PyData) ∈ sl) → CtOk sl h1 nm ns v := fun os e h2 h3 => by
        subst e
        refine ⟨c, num, S, os, ht, hnum, hS, ?_, h2, h3⟩
        rw [List.length_map] at c4
        omega
      have ofN : CtOk sl h1 nm ns v → ∃ os : List Int, zs = os.map Dv.int ∧ os.Pairwise (· < ·) ∧ ∀ o ∈ os, 1 ≤ o ∧ o ≤ 999 ∧ o ∈ ns ∧ ((.int o, bdyP "precommit" h1 num nm) : PyData × PyData) ∈ sl := fun ⟨_, a, b, o, h, h0, h2, h3, h4, h5⟩ => by
        rw [ht] at h
        cases h
        rw [hS] at h2
        cases h2
        exact ⟨o, rfl, h4, h5⟩
      walk_at "s"
      have hb2 : Val 1 390 (.tup [.str "precommit", .int h1, .int num, .int nm]) (bdyP "precommit" h1 num nm) := hb
      have sq : ∀ Rd : List Dv → (Ah → Prop) → Ah → Prop, Rd zs yes g2 → seqQ Rd S g2 := fun Rd h => by
        unfold seqQ
        rw [eS2]
        exact h
      refine sq _ ?_
      unfold forQ
      refine loop_rec (fun ds ev g' => g' = g2 ∧ ∃ (pre : List Int) (last : Int) (c9 : Option Dv), ev = [some (.ref r), some v, some hd, some (.tq (ns.map Dv.int)), some (.str "certificate"), some (.int num), some S, some (.tup [.str "precommit", .int h1, .int num, .int nm]), some (.int last), c9] ∧ zs = pre.map Dv.int ++ ds ∧
        pre.Pairwise (· < ·) ∧ (∀ o ∈ pre, o ≤ last) ∧ (pre = [] ∧ last = 0 ∨ last ∈ pre) ∧ ∀ o ∈ pre, 1 ≤ o ∧ o ≤ 999 ∧ o ∈ ns ∧ ((.int o, bdyP "precommit" h1 num nm) : PyData × PyData) ∈ sl) ?_ ?_ ⟨rfl, [], 0, none, rfl, rfl, .nil, (fun o z => nomatch z), .inl ⟨rfl, rfl⟩, fun o z => nomatch z⟩
      · rintro ev g' ⟨rfl, pre, last, c9, rfl, e, h2, h3, h4, h5⟩
        refine ⟨trivial, ?_⟩
        walk_at "s"
        rw [List.append_nil] at e
        exact kT' (toN pre e h2 h5)
      · rintro x ds ev g' N' ⟨rfl, pre, last, c9, rfl, e, h2, h3, h4, h5⟩ hN'
        refine ⟨trivial, ?_⟩
        have hx : GdV x := gdVs_mem hgz (by rw [e]; simp)
        have hl0 : 0 ≤ last := by
          rcases h4 with ⟨_, h⟩ | h
          · omega
          · have := h5 _ h
            omega
        -- what a right certificate says of this one
        have what : CtOk sl h1 nm ns v → ∃ o : Int, x = .int o ∧ last < o ∧ o ≤ 999 ∧ o ∈ ns ∧ ((.int o, bdyP "precommit" h1 num nm) : PyData × PyData) ∈ sl := fun h => by
          obtain ⟨os, e2, p2, q2⟩ := ofN h
          rw [e] at e2
          have hm : x ∈ os.map Dv.int := by rw [← e2]; simp
          obtain ⟨o, ho, rfl⟩ := List.mem_map.mp hm
          refine ⟨o, rfl, ?_, (q2 o ho).2.1, (q2 o ho).2.2.1, (q2 o ho).2.2.2⟩
          rcases h4 with ⟨rfl, rfl⟩ | h
          · have := (q2 o ho).1
            omega
          · obtain ⟨ys, zs', rfl, rfl, e4⟩ : ∃ ys zs', os = ys ++ zs' ∧ pre = ys ∧ zs'.map Dv.int = Dv.int o :: ds := by
              obtain ⟨ys, zs', e3, e4, e5⟩ := List.append_eq_map_iff.mp e2
              exact ⟨ys, zs', e3, (int_map e4).symm, e5⟩
            cases zs' with
            | nil => cases e4
            | cons o' zs' =>
              have : o' = o := by
                have := (List.cons.inj e4).1
                cases this
                rfl
              subst this
              exact (List.pairwise_append.mp p2).2.2 _ h _ List.mem_cons_self
        walk_at "s"
        refine w_count hx ?_
        walk_at "s"
        refine r_iteN (fun c5 => ?_) (fun c5 => ?_)
        · walk_at "s"
          refine kF' fun h => ?_
          obtain ⟨o, rfl, w1, w2, _⟩ := what h
          rw [cntD, decide_eq_true (by omega), decide_eq_true w2] at c5
          cases c5
        cases x <;> first | (cases c5; done) | skip
        rename_i o
        obtain ⟨c6, c7⟩ := Bool.and_eq_true_iff.mp c5
        have c6 := of_decide_eq_true c6
        have c7 := of_decide_eq_true c7
        walk_at "s"
        refine r_inN (ns := ns) rfl ?_
        walk_at "s"
        by_cases hm : o ∈ ns
        · rw [decide_eq_true hm]
          walk_at "s"
          refine r_ifF rfl ?_
          walk_at "s"
          refine s_sealed hR2 (Sml.v (n := 0) ⟨by omega, by omega⟩) hb2 (by decide) (by decide) (by decide) (by decide) fun b hbv => ?_
          walk_at "s"
          refine r_iteN (fun c8 => ?_) (fun c8 => ?_)
          · walk_at "s"
            refine kF' fun h => ?_
            obtain ⟨o', e9, _, _, _, w5⟩ := what h
            cases e9
            rw [hbv.mpr w5] at c8
            cases c8
          · walk_at "s"
            refine hN' _ _ ⟨rfl, pre ++ [o], o, _, rfl, by rw [e]; simp, ?_, ?_, .inr (by simp), ?_⟩
            · refine List.pairwise_append.mpr ⟨h2, List.pairwise_singleton _ _, fun a ha b hb => ?_⟩
              cases List.mem_singleton.mp hb
              have := h3 a ha
              omega
            · intro a ha
              rcases List.mem_append.mp ha with ha | ha
              · have := h3 a ha
                omega
              · cases List.mem_singleton.mp ha
                omega
            · intro a ha
              rcases List.mem_append.mp ha with ha | ha
              · exact h5 a ha
              · cases List.mem_singleton.mp ha
                exact ⟨by omega, c7, hm, hbv.mp c8⟩
        · rw [decide_eq_false hm]
          walk_at "s"
          refine r_ifT rfl ?_
          walk_at "s"
          refine kF' fun h => ?_
          obtain ⟨o', e9, _, _, w4, _⟩ := what h
          cases e9
          exact hm w4
end
/-! ### the law's owners, headers, and a value with one part turned -/
theorem cutQ_from (xs : List Dv) (a : Nat) : cutX xs (some (a : Int)) none = xs.drop a := by
  unfold cutX
  rw [HT.sIx_nat, HT.sIx_none]
  rcases Nat.le_total a xs.length with h | h
  · rw [Nat.min_eq_left h, List.take_of_length_le (by rw [List.length_drop]; omega)]
  · rw [Nat.min_eq_right h, Nat.sub_self, List.take_zero, List.drop_eq_nil_of_le h]
theorem cutQ_to (xs : List Dv) (b : Nat) : cutX xs none (some (b : Int)) = xs.take b := by
  unfold cutX
  rw [HT.sIx_nat, HT.sIx_none, List.drop_zero, Nat.sub_zero]
  rcases Nat.le_total b xs.length with h | h
  · rw [Nat.min_eq_left h]
  · rw [Nat.min_eq_right h, List.take_of_length_le (Nat.le_refl _), List.take_of_length_le h]
def own0 (s t : Int) (n : Nat) : List Int := (List.range n).map fun (i : Nat) => s + t * (i : Int)
theorem own0_ok {s t : Int} {n : Nat} (hs : 1 ≤ s ∧ s ≤ 900) (ht : 1 ≤ t ∧ t ≤ 9) (hn : n = 4 ∨ n = 7 ∨ n = 10) : OwnN (own0 s t n) := by
  refine ⟨by unfold own0; rw [List.length_map, List.length_range]; exact hn, ?_, fun i hi => ?_⟩
  · unfold own0
    refine List.pairwise_map.mpr (List.nodup_range.imp fun {a b} h e => h ?_)
    have e : t * (a : Int) = t * (b : Int) := by omega
    have := Int.eq_of_mul_eq_mul_left (by omega) e
    omega
  · obtain ⟨k, hk, rfl⟩ := List.mem_map.mp hi
    have hk := List.mem_range.mp hk
    have h1 : 0 ≤ t * (k : Int) := Int.mul_nonneg (by omega) (by omega)
    have h2 : t * (k : Int) ≤ 9 * 9 := Int.mul_le_mul (by omega) (by omega) (by omega) (by omega)
    omega
theorem perm_turn (ns : List Int) (k : Nat) : (ns.drop k ++ (ns.take k).reverse).Perm ns := by
  refine ((List.reverse_perm _).append_left _).trans ?_
  refine List.perm_append_comm.trans ?_
  rw [List.take_append_drop]
theorem OwnN.perm {ns ms : List Int} (h : OwnN ns) (p : ms.Perm ns) : OwnN ms := ⟨by rw [p.length_eq]; exact h.l, p.nodup_iff.mpr h.n, fun n hn => h.b n (p.mem_iff.mp hn)⟩
section
variable {K : PySem.W.Frag} {g : Ah} {p : Addr} {R : DQ} {Y : Xc}
theorem w_lowners (s : StN p g) (k : ∀ ns g', OwnN ns → StN p g' → Agr [p] g g' → R (.tq (ns.map Dv.int)) g') : D_law_owners K [.ref p] g R Y := by
  refine U_law_owners ?_
  unfold B_law_owners
  walk_at "s"
  refine s_next s (by decide) (by decide) fun v g1 hv s1 ag1 => ?_
  walk_at "s"
  refine r_ixOf rfl (by omega) (by show _ < (4 : Int); omega) fun x hx => ?_
  have hx : ∃ n : Nat, x = .int (n : Int) ∧ (n = 4 ∨ n = 7 ∨ n = 10) := by
    simp only [List.mem_cons, List.not_mem_nil, or_false] at hx
    rcases hx with rfl | rfl | rfl | rfl
    · exact ⟨4, rfl, .inl rfl⟩
    · exact ⟨4, rfl, .inl rfl⟩
    · exact ⟨7, rfl, .inr (.inl rfl)⟩
    · exact ⟨10, rfl, .inr (.inr rfl)⟩
  obtain ⟨n, rfl, hn⟩ := hx
  walk_at "s"
  refine s_next s1 (by decide) (by decide) fun v2 g2 hv2 s2 ag2 => ?_
  walk_at "s"
  refine s_next s2 (by decide) (by decide) fun v3 g3 hv3 s3 ag3 => ?_
  walk_at "s"
  have h0 := own0_ok (s := 1 + (v2 : Int)) (t := 1 + (v3 : Int)) (n := n) ⟨by omega, by omega⟩ ⟨by omega, by omega⟩ hn
  have hl0 : (own0 (1 + (v2 : Int)) (1 + (v3 : Int)) n).length = n := by unfold own0; rw [List.length_map, List.length_range]
  refine comp_to ((own0 (1 + (v2 : Int)) (1 + (v3 : Int)) n).map Dv.int) (by rw [List.length_map, hl0, rngD_len]; omega) (by rw [rngD_len]; omega) trivial (fun i x y N MM h1 h2 hM => ?_) ?_
  · obtain ⟨rfl, hi⟩ := rngD_some h1
    rw [List.getElem?_map] at h2
    unfold own0 at h2
    rw [List.getElem?_map, List.getElem?_range (by omega)] at h2
    cases h2
    walk_at "s"
    rw [Int.zero_add]
    exact hM
  · walk_at "s"
    have agA := (ag1.trans ag2).trans ag3
    generalize own0 (1 + (v2 : Int)) (1 + (v3 : Int)) n = ns at h0 hl0
    unfold forQ
    refine loop_rec (fun ds ev g' => StN p g' ∧ Agr [p] g g' ∧ ∃ c2 c3 c5 c6 ns, ev = [some (.ref p), some (.int (n : Int)), c2, c3, some (.lst (ns.map Dv.int)), c5, c6] ∧ OwnN ns ∧ ns.length = n) ?_ ?_ ⟨s3, agA, _, _, _, _, ns, rfl, h0, hl0⟩
    · rintro ev g' ⟨s', ag', c2, c3, c5, c6, ns, rfl, hns, hl⟩
      refine ⟨trivial, ?_⟩
      walk_at "s"
      exact k ns g' hns s' ag'
    · rintro x ds ev g' N' ⟨s', ag', c2, c3, c5, c6, ns, rfl, hns, hl⟩ hN'
      refine ⟨trivial, ?_⟩
      walk_at "s"
      refine s_next s' (by omega) (by omega) fun v g5 hv s5 ag5 => ?_
      walk_at "s"
      rw [cutQ_from, cutQ_to, ← List.map_drop, ← List.map_take, ← List.map_reverse]
      have hp := perm_turn ns v
      refine r_addL rfl rfl (by rw [List.length_map, List.length_map, List.length_drop, List.length_reverse, List.length_take]; omega) ?_
      refine r_nF ?_
      walk_at "s"
      rw [← List.map_append]
      exact hN' _ _ ⟨s5, ag'.trans ag5, _, _, _, _, _, rfl, hns.perm hp, by rw [hp.length_eq]; exact hl⟩
theorem w_with {d part : Dv} {xs : List Dv} {i : Nat} (h : tpV d = some xs) (hi : i < xs.length) (h2 : 2 ≤ xs.length) (hz : xs.length ≤ 1000) (k : R (.tq (xs.set i part)) g) : D_law_with K [d, .int (i : Int), part] g R Y := by
  refine U_law_with ?_
  unfold B_law_with
  walk_at "s"
  refine r_slV h (by rw [HT.sIx_none, HT.sIx_nat, Nat.min_eq_left (by omega)]; omega) ?_
  rw [cutQ_to]
  walk_at "s"
  refine ⟨by rw [sizeLine_eq]; simp, ?_⟩
  refine r_addQ (by simp only [List.length_take, List.length_cons, List.length_nil]; omega) ?_
  walk_at "s"
  rw [show (i : Int) + 1 = ((i + 1 : Nat) : Int) by omega]
  refine r_slV h (by rw [HT.sIx_none, HT.sIx_nat]; omega) ?_
  rw [cutQ_from]
  walk_at "s"
  refine r_addQ (by simp only [List.length_append, List.length_take, List.length_drop, List.length_cons, List.length_nil]; omega) ?_
  rw [List.set_eq_take_append_cons_drop, if_pos hi] at k
  rw [List.append_assoc]
  exact k
/-- the header that the law makes -/
def hdX (a b c d : Nat) (ns : List Int) : List Dv := [.str "header", .int ((a : Int) + 1), .int b, .int c, .int d, .tq (ns.map Dv.int)]
theorem w_lheader {ns : List Int} (s : StN p g) (k : ∀ (a b c d : Nat) g', a < 1000 → b < 1000 → c < 1000 → d < 1000 → StN p g' → Agr [p] g g' → R (.tup (hdX a b c d ns)) g') : D_law_header K [.ref p, .tq (ns.map Dv.int)] g R Y := by
  refine U_law_header ?_
  unfold B_law_header
  walk_at "s"
  refine comp_inv (fun n acc g' => acc.length = n ∧ StN p g' ∧ Agr [p] g g' ∧ ∀ x ∈ acc, ∃ a : Nat, a < 1000 ∧ x = .int (a : Int)) 0 ⟨rfl, s, .refl, fun x z => nomatch z⟩ (fun _ _ _ _ => trivial) ?_ ?_
  · rintro i x acc g' N MM hx ⟨h1, s', ag', h2⟩ hN hM
    walk_at "s"
    refine s_next s' (by decide) (by decide) fun v g5 hv s5 ag5 => ?_
    obtain ⟨_, hi⟩ := rngD_some hx
    refine hM _ _ ⟨by rw [sizeLine_eq]; have : i < 4 := hi; omega, by rw [List.length_append, h1]; rfl, s5, ag'.trans ag5, fun y hy => ?_⟩
    rcases List.mem_append.mp hy with hy | hy
    · exact h2 y hy
    · cases List.mem_singleton.mp hy
      exact ⟨v, by omega, rfl⟩
  · rintro acc g' ⟨h1, s', ag', h2⟩
    rw [rngD_len] at h1
    obtain ⟨w, x, y, z, rfl⟩ : ∃ w x y z, acc = [w, x, y, z] := by
      match acc, h1 with
      | [w, x, y, z], _ => exact ⟨w, x, y, z, rfl⟩
    obtain ⟨a, ha, rfl⟩ := h2 w (by simp)
    obtain ⟨b, hb, rfl⟩ := h2 x (by simp)
    obtain ⟨c, hc, rfl⟩ := h2 y (by simp)
    obtain ⟨d, hd, rfl⟩ := h2 z (by simp)
    walk_at "s"
    exact k a b c d g' ha hb hc hd s' ag'
end
/-! ### what is no header -/
def badv (v : Dv) : Prop := HdG v ∧ ¬ HdOk v
theorem bd_non {v : Dv} (h : tpV v = none) (hg : GdV v) : badv v := by
  refine ⟨⟨hg, ?_, fun xs x e => by rw [h] at e; cases e⟩, fun ⟨_, a, b, c, d, o, e, _⟩ => by rw [h] at e; cases e⟩
  cases v <;> first | (cases h; done) | (unfold szV; omega)
theorem bd_len {v : Dv} {xs : List Dv} (h : tpV v = some xs) (hl : xs.length ≠ 6) (hg : ∀ x ∈ xs, GdV x) (hz : szVs xs ≤ 1000) (ho : ∀ x, xs[5]? = some x → OwG x) : badv v := by
  refine ⟨⟨?_, by rw [tpV_sz h]; omega, fun ys x e => by rw [h] at e; cases e; exact ho x⟩, fun ⟨_, a, b, c, d, o, e, _⟩ => by rw [h] at e; cases e; exact hl rfl⟩
  cases v <;> cases h <;> (unfold GdV; exact gdVs_of hg)
/-- the part at a place of a header is not right -/
def badAt : Nat → Dv → Prop
  | 0, x => x ≠ .str "header"
  | 1, x => natD x = false
  | 2, x => natD x = false
  | 3, x => natD x = false
  | 4, x => natD x = false
  | _, x => ¬ OwnOk x
theorem gd_ints (ns : List Int) : ∀ x ∈ ns.map Dv.int, GdV x := fun x hx => by
  obtain ⟨i, _, rfl⟩ := List.mem_map.mp hx
  unfold GdV
  trivial
theorem sz_ints : ∀ ns : List Int, szVs (ns.map Dv.int) = ns.length
  | [] => rfl
  | n :: ns => by
    rw [List.map_cons, szVs, sz_ints ns, List.length_cons]
    unfold szV
    omega
theorem scl_ints (ns : List Int) : ∀ x ∈ ns.map Dv.int, SclD x := fun x hx => by
  obtain ⟨i, _, rfl⟩ := List.mem_map.mp hx
  unfold SclD
  trivial
theorem owG_tq {xs : List Dv} (h : ∀ x ∈ xs, SclD x) : OwG (.tq xs) := fun ys e _ => by cases e; exact ⟨rfl, h⟩
theorem owG_non {v : Dv} (h : tpV v = none) : OwG v := fun ys e _ => by rw [h] at e; cases e
theorem owG_len {v : Dv} {xs : List Dv} (h : tpV v = some xs) (hl : xs.length ≠ 4 ∧ xs.length ≠ 7 ∧ xs.length ≠ 10) : OwG v := fun ys e k => by
  rw [h] at e
  cases e
  omega
theorem strOk_header : PyData.strOk "header" = true := by decide +kernel
theorem gd_hdX (a b c d : Nat) (ns : List Int) : ∀ x ∈ hdX a b c d ns, GdV x := fun x hx => by
  simp only [hdX, List.mem_cons, List.not_mem_nil, or_false] at hx
  rcases hx with rfl | rfl | rfl | rfl | rfl | rfl
  · unfold GdV; exact strOk_header
  · unfold GdV; trivial
  · unfold GdV; trivial
  · unfold GdV; trivial
  · unfold GdV; trivial
  · unfold GdV; exact gdVs_of (gd_ints ns)
theorem sz_hdX (a b c d : Nat) (ns : List Int) : szVs (hdX a b c d ns) = ns.length + 6 := by
  unfold hdX
  simp only [szVs, szV, sz_ints]
  omega
theorem sz_set : ∀ (xs : List Dv) (i : Nat) (x : Dv), szVs (xs.set i x) ≤ szVs xs + szV x
  | [], _, _ => by simp [szVs]
  | y :: xs, 0, x => by
    rw [List.set_cons_zero, szVs, szVs]
    omega
  | y :: xs, i + 1, x => by
    have := sz_set xs i x
    rw [List.set_cons_succ, szVs, szVs]
    omega
theorem bd_set {a b c d : Nat} {ns : List Int} {i : Nat} {x : Dv} (hn : ns.length ≤ 20) (hi : i < 6) (hg : GdV x) (hz : szV x ≤ 100) (ho : i = 5 → OwG x) (hb : badAt i x) : badv (.tq ((hdX a b c d ns).set i x)) := by
  have hl : (hdX a b c d ns).length = 6 := rfl
  have hs := sz_set (hdX a b c d ns) i x
  rw [sz_hdX] at hs
  refine ⟨⟨?_, by unfold szV; omega, fun xs y e h => ?_⟩, fun ⟨_, a', b', c', d', o', e, h1, h2, h3, h4, h5⟩ => ?_⟩
  · unfold GdV
    refine gdVs_of fun y hy => ?_
    rcases List.mem_or_eq_of_mem_set hy with hy | rfl
    · exact gd_hdX a b c d ns y hy
    · exact hg
  · cases e
    by_cases h5 : i = 5
    · subst h5
      rw [List.getElem?_set_self (by rw [hl]; omega)] at h
      cases h
      exact ho rfl
    · rw [List.getElem?_set_ne h5] at h
      have h : Dv.tq (ns.map Dv.int) = y := Option.some.inj h
      subst h
      exact owG_tq (scl_ints ns)
  · have e : (hdX a b c d ns).set i x = [.str "header", a', b', c', d', o'] := Option.some.inj e
    have hx : ((hdX a b c d ns).set i x)[i]? = some x := List.getElem?_set_self (by rw [hl]; exact hi)
    rw [e] at hx
    match i, hi with
    | 0, _ => exact hb (Option.some.inj hx).symm
    | 1, _ => cases hx; exact Bool.noConfusion (h1.symm.trans hb)
    | 2, _ => cases hx; exact Bool.noConfusion (h2.symm.trans hb)
    | 3, _ => cases hx; exact Bool.noConfusion (h3.symm.trans hb)
    | 4, _ => cases hx; exact Bool.noConfusion (h4.symm.trans hb)
    | 5, _ => cases hx; exact hb h5
theorem own_len {xs : List Dv} (h : xs.length ≠ 4 ∧ xs.length ≠ 7 ∧ xs.length ≠ 10) : ¬ OwnOk (.tq xs) := fun ⟨ns, e, hn⟩ => by
  cases e
  have := hn.l
  rw [List.length_map] at h
  omega
theorem own_set {ns : List Int} {i : Nat} {x : Dv} (hi : i < ns.length) (h : (∀ n : Int, x = .int n → n < 1 ∨ 999 < n ∨ ∃ j, j ≠ i ∧ ns[j]? = some n)) : ¬ OwnOk (.tq ((ns.map Dv.int).set i x)) := fun ⟨ms, e, hm⟩ => by
  have e : (ns.map Dv.int).set i x = ms.map Dv.int := Dv.tq.inj e
  have hx : ((ns.map Dv.int).set i x)[i]? = some x := List.getElem?_set_self (by rw [List.length_map]; exact hi)
  rw [e, List.getElem?_map] at hx
  obtain ⟨n, hn, rfl⟩ := Option.map_eq_some_iff.mp hx
  have hb := hm.b n (List.mem_of_getElem? hn)
  rcases h n rfl with h | h | ⟨j, hj, hjn⟩
  · omega
  · omega
  · have h2 : ((ns.map Dv.int).set i (.int n))[j]? = some (.int n) := by
      rw [List.getElem?_set_ne (Ne.symm hj), List.getElem?_map, hjn]
      rfl
    rw [e, List.getElem?_map] at h2
    obtain ⟨m, hm2, e2⟩ := Option.map_eq_some_iff.mp h2
    cases e2
    exact hj ((List.getElem?_inj (List.getElem?_eq_some_iff.mp hm2).1 hm.n).mp (by rw [hm2, hn]))
theorem r_tupRg {g : Ah} {R : DQ} {X : Xc} {ev : Ev} {Da Db : DE} (h : Da X ev g fun d g1 => Db X ev g1 fun e g2 => ∃ i j, d = .int i ∧ e = .int j ∧ RgOk i j ∧ R (.tup ((rgI i j).map Dv.int)) g2) : dTupRg Da Db X ev g R := h
theorem r_lstRg {g : Ah} {R : DQ} {X : Xc} {ev : Ev} {n : Nw} {Da Db : DE} (h : Da X ev g fun d g1 => Db X ev g1 fun e g2 => ∃ i j, d = .int i ∧ e = .int j ∧ RgOk i j ∧ n ((rgI i j).map Dv.int) g2 R) : dLstRg n Da Db X ev g R := h
theorem at_prev {ns : List Int} {v : Nat} (hl : 4 ≤ ns.length) (hv : v < ns.length) : ∃ (j : Nat) (n : Int), atI (ns.map Dv.int) ((v : Int) - 1) = some (.int n) ∧ j ≠ v ∧ ns[j]? = some n := by
  by_cases h0 : v = 0
  · subst h0
    have hj : ns.length - 1 < ns.length := by omega
    refine ⟨ns.length - 1, ns[ns.length - 1], ?_, by omega, List.getElem?_eq_getElem hj⟩
    unfold atI ixN
    rw [List.length_map, if_neg (by omega), if_pos (by omega), Option.bind_some, show (((0 : Nat) : Int) - 1 + (ns.length : Int)).toNat = ns.length - 1 by omega, List.getElem?_map, List.getElem?_eq_getElem hj]
    rfl
  · have hj : v - 1 < ns.length := by omega
    refine ⟨v - 1, ns[v - 1], ?_, by omega, List.getElem?_eq_getElem hj⟩
    unfold atI ixN
    rw [List.length_map, if_pos (by omega), if_pos (by omega), Option.bind_some, show ((v : Int) - 1).toNat = v - 1 by omega, List.getElem?_map, List.getElem?_eq_getElem hj]
    rfl
def BadL (l : Addr) (k : Nat) (g : Ah) : Prop := ∃ L, g l = some (.lst L) ∧ L.length ≤ k ∧ ∀ v ∈ L, badv v
section
variable {K : PySem.W.Frag} {g : Ah} {p : Addr} {R : DQ} {Y : Xc}
theorem w_bad {a b c d : Nat} {ns : List Int} (hns : OwnN ns) (s : StN p g) (k : ∀ L g', (∀ v ∈ L, badv v) → L.length ≤ 1000 → StN p g' → Agr [p] g g' → R (.lst L) g') : D_law_bad_headers K [.ref p, .tup (hdX a b c d ns)] g R Y := by
  have hnl := hns.l
  have hsl : (hdX a b c d ns).length = 6 := rfl
  have hx5 : (hdX a b c d ns)[5]? = some (.tq (ns.map Dv.int)) := rfl
  refine U_law_bad_headers ?_
  unfold B_law_bad_headers
  walk_at "s"
  refine r_addT (by rw [hsl]; decide) ?_
  walk_at "s"
  refine r_nM fun l hl => ?_
  have nlp : l ≠ p := by
    rintro rfl
    obtain ⟨_, _, _, _, e, _⟩ := s.ex
    rw [e] at hl
    cases hl
  have s0 : StN p (ups g l (.lst [.non, .bl true, .int 7, .str "header", .tup [], .lst [], .lst (hdX a b c d ns), .tup (cutX (hdX a b c d ns) none (some 5)), .tup (hdX a b c d ns ++ [.int 0]), .lst [.str "ab"]])) := by
    obtain ⟨w1, w2, w3, w4, e, z⟩ := s.ex
    exact ⟨w1, w2, w3, w4, by rw [ups_ne (Ne.symm nlp)]; exact e, z⟩
  have b0 : BadL l 10 (ups g l (.lst [.non, .bl true, .int 7, .str "header", .tup [], .lst [], .lst (hdX a b c d ns), .tup (cutX (hdX a b c d ns) none (some 5)), .tup (hdX a b c d ns ++ [.int 0]), .lst [.str "ab"]])) := by
    refine ⟨_, ups_same, Nat.le_refl _, fun v hv => ?_⟩
    simp only [List.mem_cons, List.not_mem_nil, or_false] at hv
    rcases hv with rfl | rfl | rfl | rfl | rfl | rfl | rfl | rfl | rfl | rfl
    · exact bd_non rfl (by unfold GdV; trivial)
    · exact bd_non rfl (by unfold GdV; trivial)
    · exact bd_non rfl (by unfold GdV; trivial)
    · exact bd_non rfl (by unfold GdV; exact strOk_header)
    · exact bd_len rfl (by decide) (fun x h => nomatch h) (by decide) (fun x h => nomatch h)
    · exact bd_non rfl (by unfold GdV; trivial)
    · exact bd_non rfl (by unfold GdV; trivial)
    · rw [show (some (5 : Int)) = some (((5 : Nat)) : Int) from rfl, cutQ_to]
      exact bd_len rfl (by rw [List.length_take, hsl]; decide) (fun x h => gd_hdX a b c d ns x (List.mem_of_mem_take h)) (by show szVs [_, _, _, _, _] ≤ 1000; simp [szVs, szV]) (fun x h => by cases h)
    · refine bd_len rfl (by rw [List.length_append, hsl]; decide) (fun x h => ?_) (by rw [szVs_app, sz_hdX]; simp only [szVs, szV]; omega) (fun x h => by cases h; exact owG_tq (scl_ints ns))
      rcases List.mem_append.mp h with h | h
      · exact gd_hdX a b c d ns x h
      · cases List.mem_singleton.mp h
        unfold GdV; trivial
    · exact bd_non rfl (by unfold GdV; trivial)
  have a0 : Agr [p] g (ups g l (.lst [.non, .bl true, .int 7, .str "header", .tup [], .lst [], .lst (hdX a b c d ns), .tup (cutX (hdX a b c d ns) none (some 5)), .tup (hdX a b c d ns ++ [.int 0]), .lst [.str "ab"]])) := .new .refl hl
  generalize ups g l (.lst [.non, .bl true, .int 7, .str "header", .tup [], .lst [], .lst (hdX a b c d ns), .tup (cutX (hdX a b c d ns) none (some 5)), .tup (hdX a b c d ns ++ [.int 0]), .lst [.str "ab"]]) = g1 at s0 b0 a0 ⊢
  have push : ∀ {g' : Ah} {m : Nat} {v : Dv} {R' : DQ}, m ≤ 500 → BadL l m g' → badv v → StN p g' → Agr [p] g g' → (∀ g2, BadL l (m + 1) g2 → StN p g2 → Agr [p] g g2 → R' .non g2) → mAppend (.ref l) [v] g' R' := by
    rintro g' m v R' hm ⟨L, e, h1, h2⟩ hv ⟨w1, w2, w3, w4, e2, z⟩ ag kk
    refine r_app e (by omega) (kk _ ⟨_, ups_same, by rw [List.length_append]; simp; omega, fun x hx => ?_⟩ ⟨w1, w2, w3, w4, by rw [ups_ne (Ne.symm nlp)]; exact e2, z⟩ (ag.fr (.inr hl)))
    rcases List.mem_append.mp hx with hx | hx
    · exact h2 x hx
    · cases List.mem_singleton.mp hx
      exact hv
  have isL' : ∀ {g' : Ah} {m : Nat}, BadL l m g' → isL g' (.ref l) := fun ⟨L, e, _⟩ => by unfold isL; rw [vw_lstE e]; trivial
  walk_at "q"
  with_reducible refine r_cutF (fun ev g' => StN p g' ∧ Agr [p] g g' ∧ BadL l 46 g' ∧ ∃ c4 c5, ev = [some (.ref p), some (.tup (hdX a b c d ns)), some (.tq (ns.map Dv.int)), some (.ref l), c4, c5, none, none, none, none]) (fun N hN => ?_) ?_
  · walk_at "s"
    unfold forQ
    refine loop_rec (fun ds ev g' => StN p g' ∧ Agr [p] g g' ∧ (∃ m, m + 6 * ds.length ≤ 46 ∧ BadL l m g') ∧ (∃ c4 c5, ev = [some (.ref p), some (.tup (hdX a b c d ns)), some (.tq (ns.map Dv.int)), some (.ref l), c4, c5, none, none, none, none]) ∧ ∀ x ∈ ds, ∃ i : Nat, i < 6 ∧ x = .int (i : Int)) ?_ ?_ ⟨s0, a0, ⟨10, by decide, b0⟩, ⟨_, _, rfl⟩, fun x hx => ?_⟩
    · rintro ev g' ⟨s', ag', ⟨m, hm, hb⟩, ⟨c4, c5, rfl⟩, _⟩
      obtain ⟨L, e, h1, h2⟩ := hb
      exact ⟨trivial, hN _ _ ⟨s', ag', ⟨L, e, by simp at hm; omega, h2⟩, _, _, rfl⟩⟩
    · rintro x ds ev g' N' ⟨s', ag', ⟨m, hm, hb⟩, ⟨c4, c5, rfl⟩, hd⟩ hN'
      refine ⟨trivial, ?_⟩
      obtain ⟨i, hi, rfl⟩ := hd x List.mem_cons_self
      rw [List.length_cons] at hm
      walk_at "s"
      refine loop_rec (fun es ev g' => StN p g' ∧ Agr [p] g g' ∧ (∃ m, m + es.length + 6 * ds.length ≤ 46 ∧ BadL l m g') ∧ (∃ c5, ev = [some (.ref p), some (.tup (hdX a b c d ns)), some (.tq (ns.map Dv.int)), some (.ref l), some (.int (i : Int)), c5, none, none, none, none]) ∧ ∀ x ∈ es, GdV x ∧ szV x ≤ 100 ∧ OwG x ∧ ∀ i, i < 6 → badAt i x) ?_ ?_ ⟨s', ag', ⟨m, by simp; omega, hb⟩, ⟨_, rfl⟩, fun x hx => ?_⟩
      · rintro ev g' ⟨s', ag', ⟨m, hm, hb⟩, ⟨c5, rfl⟩, _⟩
        exact ⟨trivial, hN' _ _ ⟨s', ag', ⟨m, by simp at hm; omega, hb⟩, ⟨_, _, rfl⟩, fun x hx => hd x (List.mem_cons_of_mem _ hx)⟩⟩
      · rintro y es ev g' N2 ⟨s', ag', ⟨m, hm, hb⟩, ⟨c5, rfl⟩, he⟩ hN2
        refine ⟨trivial, ?_⟩
        obtain ⟨y1, y2, y3, y4⟩ := he y List.mem_cons_self
        rw [List.length_cons] at hm
        walk_at "s"
        refine ⟨isL' hb, ?_⟩
        walk_at "s"
        refine w_with (xs := hdX a b c d ns) rfl (by rw [hsl]; exact hi) (by rw [hsl]; decide) (by rw [hsl]; decide) ?_
        walk_at "s"
        refine push (by omega) hb (bd_set (by omega) hi y1 y2 (fun _ => y3) (y4 i hi)) s' ag' fun g2 hb2 s2 ag2 => ?_
        walk_at "s"
        exact hN2 _ _ ⟨s2, ag2, ⟨m + 1, by omega, hb2⟩, ⟨_, rfl⟩, fun x hx => he x (List.mem_cons_of_mem _ hx)⟩
      · simp only [List.mem_cons, List.not_mem_nil, or_false] at hx
        have all : ∀ x : Dv, x ≠ .str "header" → natD x = false → ¬ OwnOk x → ∀ i, i < 6 → badAt i x := fun x h1 h2 h3 i hi => by
          match i, hi with
          | 0, _ => exact h1
          | 1, _ => exact h2
          | 2, _ => exact h2
          | 3, _ => exact h2
          | 4, _ => exact h2
          | 5, _ => exact h3
        have no : ∀ {x : Dv}, (∀ xs, x ≠ .tq xs) → ¬ OwnOk x := fun h ⟨ns, e, _⟩ => h _ e
        rcases hx with rfl | rfl | rfl | rfl | rfl | rfl
        · exact ⟨by unfold GdV; trivial, by decide, owG_non rfl, all _ (fun z => nomatch z) rfl (no fun _ z => nomatch z)⟩
        · exact ⟨by unfold GdV; decide +kernel, by decide, owG_non rfl, all _ (fun z => by injection z with z; revert z; decide +kernel) rfl (no fun _ z => nomatch z)⟩
        · exact ⟨by unfold GdV; trivial, by decide, owG_non rfl, all _ (fun z => nomatch z) rfl (no fun _ z => nomatch z)⟩
        · exact ⟨by unfold GdV; trivial, by decide, owG_non rfl, all _ (fun z => nomatch z) rfl (no fun _ z => nomatch z)⟩
        · exact ⟨by unfold GdV GdVs; trivial, by decide, owG_len rfl (by decide), all _ (fun z => nomatch z) rfl (no fun _ z => nomatch z)⟩
        · exact ⟨by unfold GdV; trivial, by decide, owG_non rfl, all _ (fun z => nomatch z) rfl (no fun _ z => nomatch z)⟩
    · obtain ⟨i, hi⟩ := List.getElem?_of_mem hx
      obtain ⟨rfl, h⟩ := rngD_some hi
      exact ⟨i, h, by rw [Int.zero_add]⟩
  · rintro ev g' ⟨s', ag', hb, c4, c5, rfl⟩
    have hnm : (ns.map Dv.int).length = ns.length := List.length_map _
    walk_at "q"
    rw [hnm]
    refine s_next s' (by omega) (by omega) fun v g2 hv s2 ag3 => ?_
    have hv : v < ns.length := by omega
    have ag2 := ag'.trans ag3
    have hb2 : BadL l 46 g2 := by
      obtain ⟨L, e, h⟩ := hb
      exact ⟨L, ag3.get (by simpa using nlp) e, h⟩
    obtain ⟨j, z, hz, hjv, hjz⟩ := at_prev (by omega) hv
    walk_at "q"
    with_reducible refine r_cutF (fun ev g' => StN p g' ∧ Agr [p] g g' ∧ BadL l 52 g' ∧ ∃ c4 c5 c6 c7, ev = [some (.ref p), some (.tup (hdX a b c d ns)), some (.tq (ns.map Dv.int)), some (.ref l), c4, c5, c6, c7, none, none]) (fun N hN => ?_) ?_
    · walk_at "s"
      refine r_ixT rfl hz ?_
      walk_at "s"
      unfold forQ
      refine loop_rec (fun es ev g' => StN p g' ∧ Agr [p] g g' ∧ (∃ m, m + es.length ≤ 52 ∧ BadL l m g') ∧ (∃ c4 c5 c7, ev = [some (.ref p), some (.tup (hdX a b c d ns)), some (.tq (ns.map Dv.int)), some (.ref l), c4, c5, some (.int (v : Int)), c7, none, none]) ∧ ∀ x ∈ es, SclD x ∧ ∀ n : Int, x = .int n → n < 1 ∨ 999 < n ∨ ∃ j, j ≠ v ∧ ns[j]? = some n) ?_ ?_ ⟨s2, ag2, ⟨46, Nat.le_refl _, hb2⟩, ⟨_, _, _, rfl⟩, fun x hx => ?_⟩
      · rintro ev g' ⟨s', ag', ⟨m, hm, hb⟩, ⟨c4, c5, c7, rfl⟩, _⟩
        obtain ⟨L, e, h1, h2⟩ := hb
        exact ⟨trivial, hN _ _ ⟨s', ag', ⟨L, e, by simp at hm; omega, h2⟩, _, _, _, _, rfl⟩⟩
      · rintro y es ev g' N2 ⟨s', ag', ⟨m, hm, hb⟩, ⟨c4, c5, c7, rfl⟩, he⟩ hN2
        refine ⟨trivial, ?_⟩
        obtain ⟨y1, y2⟩ := he y List.mem_cons_self
        rw [List.length_cons] at hm
        have sy : ∀ x ∈ (ns.map Dv.int).set v y, SclD x := fun x hx => by
          rcases List.mem_or_eq_of_mem_set hx with hx | rfl
          · exact scl_ints ns x hx
          · exact y1
        have zy : szV y ≤ 1 := by cases y <;> first | exact y1.elim | (unfold szV; omega)
        walk_at "s"
        refine ⟨isL' hb, ?_⟩
        walk_at "s"
        refine w_with (d := .tq (ns.map Dv.int)) rfl (by rw [hnm]; exact hv) (by rw [hnm]; omega) (by rw [hnm]; omega) ?_
        walk_at "s"
        refine w_with (i := 5) (xs := hdX a b c d ns) rfl (by rw [hsl]; decide) (by rw [hsl]; decide) (by rw [hsl]; decide) ?_
        walk_at "s"
        refine push (by omega) hb (bd_set (by omega) (by decide) ?_ ?_ (fun _ => owG_tq sy) (own_set hv y2)) s' ag' fun g2 hb2 s2 ag2 => ?_
        · unfold GdV
          exact gdVs_of fun x hx => (sy x hx).gd
        · have := sz_set (ns.map Dv.int) v y
          rw [sz_ints] at this
          unfold szV
          omega
        · walk_at "s"
          exact hN2 _ _ ⟨s2, ag2, ⟨m + 1, by omega, hb2⟩, ⟨_, _, _, rfl⟩, fun x hx => he x (List.mem_cons_of_mem _ hx)⟩
      · simp only [List.mem_cons, List.not_mem_nil, or_false] at hx
        rcases hx with rfl | rfl | rfl | rfl | rfl | rfl
        · exact ⟨trivial, fun n e => by cases e; exact .inl (by decide)⟩
        · exact ⟨trivial, fun n e => by cases e; exact .inr (.inl (by decide))⟩
        · exact ⟨trivial, fun n e => nomatch e⟩
        · exact ⟨trivial, fun n e => nomatch e⟩
        · exact ⟨by unfold SclD; decide +kernel, fun n e => nomatch e⟩
        · exact ⟨trivial, fun n e => by cases e; exact .inr (.inr ⟨j, hjv, hjz⟩)⟩
    · rintro ev g' ⟨s', ag', hb, c4, c5, c6, c7, rfl⟩
      walk_at "s"
      refine r_slQ ?_
      walk_at "s"
      refine r_tupRg ?_
      walk_at "s"
      refine ⟨1, 14, rfl, rfl, .of_le (by decide) (by decide) (by decide) (by decide), ?_⟩
      walk_at "q"
      with_reducible refine r_cutF (fun ev g' => StN p g' ∧ Agr [p] g g' ∧ BadL l 60 g' ∧ ∃ c4 c5 c6 c7 c8 c9, ev = [some (.ref p), some (.tup (hdX a b c d ns)), some (.tq (ns.map Dv.int)), some (.ref l), c4, c5, c6, c7, c8, c9]) (fun N hN => ?_) ?_
      · walk_at "s"
        rw [hnm, show ((ns.length : Int) - 1) = ((ns.length - 1 : Nat) : Int) by omega]
        refine r_slQ ?_
        walk_at "s"
        obtain ⟨n0, hn0⟩ : ∃ n0, ns[0]? = some n0 := ⟨ns[0], List.getElem?_eq_getElem (by omega)⟩
        refine r_ixT (x := .int n0) rfl (atI_nat (j := 0) (by rw [List.getElem?_map, hn0]; rfl)) ?_
        walk_at "s"
        refine ⟨by rw [sizeLine_eq]; simp, ?_⟩
        refine r_addQ (by rw [hnm]; simp; omega) ?_
        walk_at "s"
        refine r_slQ ?_
        walk_at "s"
        rw [cutQ_to, show (some (1 : Int)) = some (((1 : Nat)) : Int) from rfl, show (some (3 : Int)) = some (((3 : Nat)) : Int) from rfl, cutQ_to, cutQ_to]
        have sub : ∀ k, ∀ x ∈ (ns.map Dv.int).take k, SclD x := fun k x hx => scl_ints ns x (List.mem_of_mem_take hx)
        have good : ∀ y, y = .tq ((ns.map Dv.int).take 1) ∨ y = .tup [.int 1, .int 2, .int 3, .int 4, .int 5] ∨ y = .tup [.int 1, .int 2, .int 3, .int 4, .int 5, .int 6, .int 7, .int 8] ∨ y = .tup ((rgI 1 14).map Dv.int) ∨ y = .tq ((ns.map Dv.int).take (ns.length - 1)) ∨ y = .tq (ns.map Dv.int ++ [.int (n0 + 1000)]) ∨ y = .lst (ns.map Dv.int) ∨ y = .tq ((ns.map Dv.int).take 3) →
            GdV y ∧ szV y ≤ 100 ∧ OwG y ∧ ¬ OwnOk y := by
          have no : ∀ {x : Dv}, (∀ xs, x ≠ .tq xs) → ¬ OwnOk x := fun h ⟨ns, e, _⟩ => h _ e
          have tk : ∀ k, (k ≤ ns.length) → k ≠ 4 ∧ k ≠ 7 ∧ k ≠ 10 → GdV (.tq ((ns.map Dv.int).take k)) ∧ szV (.tq ((ns.map Dv.int).take k)) ≤ 100 ∧ OwG (.tq ((ns.map Dv.int).take k)) ∧ ¬ OwnOk (.tq ((ns.map Dv.int).take k)) := fun k hk h => by
            refine ⟨by unfold GdV; exact gdVs_of fun x hx => (sub k x hx).gd, ?_, owG_tq (sub k), own_len (by rw [List.length_take, hnm, Nat.min_eq_left hk]; exact h)⟩
            unfold szV
            rw [← List.map_take, sz_ints, List.length_take]
            omega
          intro y hy
          rcases hy with rfl | rfl | rfl | rfl | rfl | rfl | rfl | rfl
          · exact tk 1 (by omega) (by decide)
          · exact ⟨by unfold GdV; exact gdVs_of (gd_ints [1, 2, 3, 4, 5]), by decide, owG_len rfl (by decide), no fun _ z => nomatch z⟩
          · exact ⟨by unfold GdV; exact gdVs_of (gd_ints [1, 2, 3, 4, 5, 6, 7, 8]), by decide, owG_len rfl (by decide), no fun _ z => nomatch z⟩
          · exact ⟨by unfold GdV; exact gdVs_of (gd_ints _), by unfold szV; rw [sz_ints]; decide, owG_len rfl (by rw [List.length_map]; decide), no fun _ z => nomatch z⟩
          · exact tk _ (by omega) (by omega)
          · have h2 : ∀ x ∈ ns.map Dv.int ++ [.int (n0 + 1000)], SclD x := fun x hx => by
              rcases List.mem_append.mp hx with hx | hx
              · exact scl_ints ns x hx
              · cases List.mem_singleton.mp hx
                trivial
            refine ⟨by unfold GdV; exact gdVs_of fun x hx => (h2 x hx).gd, ?_, owG_tq h2, own_len (by rw [List.length_append, hnm]; simp; omega)⟩
            unfold szV
            rw [szVs_app, sz_ints]
            simp only [szVs, szV]
            omega
          · exact ⟨by unfold GdV; trivial, by unfold szV; omega, owG_non rfl, no fun _ z => nomatch z⟩
          · exact tk 3 (by omega) (by decide)
        unfold forQ
        refine loop_rec (fun es ev g' => StN p g' ∧ Agr [p] g g' ∧ (∃ m, m + es.length ≤ 60 ∧ BadL l m g') ∧ (∃ c4 c5 c6 c7 c8 c9, ev = [some (.ref p), some (.tup (hdX a b c d ns)), some (.tq (ns.map Dv.int)), some (.ref l), c4, c5, c6, c7, c8, c9]) ∧ ∀ y ∈ es, GdV y ∧ szV y ≤ 100 ∧ OwG y ∧ ¬ OwnOk y) ?_ ?_ ⟨s', ag', ⟨52, Nat.le_refl _, hb⟩, ⟨_, _, _, _, _, _, rfl⟩, fun x hx => ?_⟩
        · rintro ev g' ⟨s', ag', ⟨m, hm, hb⟩, ⟨c4, c5, c6, c7, c8, c9, rfl⟩, _⟩
          obtain ⟨L, e, h1, h2⟩ := hb
          exact ⟨trivial, hN _ _ ⟨s', ag', ⟨L, e, by simp at hm; omega, h2⟩, _, _, _, _, _, _, rfl⟩⟩
        · rintro y es ev g' N2 ⟨s', ag', ⟨m, hm, hb⟩, ⟨c4, c5, c6, c7, c8, c9, rfl⟩, he⟩ hN2
          refine ⟨trivial, ?_⟩
          obtain ⟨y1, y2, y3, y4⟩ := he y List.mem_cons_self
          rw [List.length_cons] at hm
          walk_at "s"
          refine ⟨isL' hb, ?_⟩
          walk_at "s"
          refine w_with (i := 5) (xs := hdX a b c d ns) rfl (by rw [hsl]; decide) (by rw [hsl]; decide) (by rw [hsl]; decide) ?_
          walk_at "s"
          refine push (by omega) hb (bd_set (by omega) (by decide) y1 y2 (fun _ => y3) y4) s' ag' fun g2 hb2 s2 ag2 => ?_
          walk_at "s"
          exact hN2 _ _ ⟨s2, ag2, ⟨m + 1, by omega, hb2⟩, ⟨_, _, _, _, _, _, rfl⟩, fun x hx => he x (List.mem_cons_of_mem _ hx)⟩
        · refine good x ?_
          simpa only [List.cons_append, List.nil_append, List.mem_cons, List.not_mem_nil, or_false] using hx
      · rintro ev g' ⟨s', ag', ⟨L, e, h1, h2⟩, c4, c5, c6, c7, c8, c9, rfl⟩
        with_reducible refine r_ret ?_
        with_reducible refine r_frz ?_
        refine r_var rfl ?_
        refine r_frzL e ?_
        refine k L _ h2 (by omega) ?_ (ag'.delN hl)
        obtain ⟨w1, w2, w3, w4, e2, z⟩ := s'.ex
        exact ⟨w1, w2, w3, w4, by rw [del_ne (Ne.symm nlp)]; exact e2, z⟩
end
/-! ### forms -/
theorem plD_int {i : Int} {n : Nat} (h : Sml i) : plD (.int i) n = true := by
  unfold plD
  have := h.1
  have := h.2
  split <;> simp <;> omega
theorem plD_tq {ns : List Int} {n : Nat} (h0 : 0 < n) (h : ∀ i ∈ ns, Sml i) : plD (.tq (ns.map Dv.int)) n = true := by
  rw [tpV_pl (xs := ns.map Dv.int) rfl, decide_eq_true h0, Bool.true_and, List.all_eq_true]
  intro x hx
  obtain ⟨i, hi, rfl⟩ := List.mem_map.mp hx
  exact plD_int (h i hi)
theorem OwnN.sml {ns : List Int} (h : OwnN ns) : ∀ i ∈ ns, Sml i := fun i hi => by
  have := h.b i hi
  exact ⟨by omega, by omega⟩
theorem natD_nat (n : Nat) : natD (.int (n : Int)) = true := decide_eq_true (Int.natCast_nonneg n)
theorem hdOk_of {v x : Dv} {a b c d : Nat} {ns : List Int} (h : tpV v = some (hdX a b c d ns)) (hn : OwnN ns) (ha : a < 100000) (hb : b < 100000) (hc : c < 100000) (hd : d < 100000) : HdOk v := by
  refine ⟨?_, _, _, _, _, _, h, rfl, ?_, ?_, ?_, ⟨ns, rfl, hn⟩⟩
  · rw [tpV_pl h, Bool.and_eq_true_iff]
    refine ⟨by decide, List.all_eq_true.mpr fun x hx => ?_⟩
    simp only [hdX, List.mem_cons, List.not_mem_nil, or_false] at hx
    rcases hx with rfl | rfl | rfl | rfl | rfl | rfl
    · unfold plD; rfl
    · exact plD_int ⟨by omega, by omega⟩
    · exact plD_int ⟨by omega, by omega⟩
    · exact plD_int ⟨by omega, by omega⟩
    · exact plD_int ⟨by omega, by omega⟩
    · exact plD_tq (by decide) hn.sml
  · exact natD_nat _
  · exact natD_nat _
  · exact natD_nat _
theorem hdG_of {v : Dv} {a b c d : Nat} {ns : List Int} (h : tpV v = some (hdX a b c d ns)) (hn : ns.length ≤ 20) : HdG v := by
  refine ⟨?_, by rw [tpV_sz h, sz_hdX]; omega, fun xs x e h5 => ?_⟩
  · cases v <;> cases h <;> (unfold GdV; exact gdVs_of (gd_hdX a b c d ns))
  · rw [h] at e
    cases e
    cases h5
    exact owG_tq (scl_ints ns)
section
variable {K : PySem.W.Frag} {g : Ah} {p : Addr} {R : DQ} {Y : Xc}
theorem w_forms {a b c d : Nat} {ns : List Int} (hns : OwnN ns) (ha : a < 1000) (hb : b < 1000) (hc : c < 1000) (hd : d < 1000) (s : StN p g) (k : ∀ g', StN p g' → Agr [p] g g' → R (.bl true) g') : D_law_forms K [.ref p, .tup (hdX a b c d ns)] g R Y := by
  have hnl := hns.l
  refine U_law_forms ?_
  unfold B_law_forms
  walk_at "s"
  refine w_header (hdG_of rfl (by omega)) (fun _ g1 ag1 => ?_) (fun h => absurd (hdOk_of (x := .non) rfl hns (by omega) (by omega) (by omega) (by omega)) h)
  walk_at "s"
  refine r_isBl ?_
  walk_at "s"
  refine r_ifF rfl ?_
  walk_at "s"
  have s1 : StN p g1 := (s.ok.agr ag1 (fun _ _ z => nomatch z)).p
  refine w_bad hns s1 fun L g2 hL hl s2 ag2 => ?_
  walk_at "s"
  refine comp_pure L (fun x => x) (fun _ => false) (fun x => x) (by simp) (by omega) (fun _ _ => trivial) (fun x hx g3 N MM ag3 hN hM => ?_) fun g3 ag3 => ?_
  · walk_at "s"
    refine w_header (hL x hx).1 (fun h => absurd h (hL x hx).2) (fun _ g4 ag4 => ?_)
    walk_at "s"
    refine r_isBl ?_
    walk_at "s"
    exact hN rfl _ ag4
  · rw [show (L.filter fun _ => false).map (fun x => x) = [] by simp]
    walk_at "s"
    refine r_eqNilD (n := 1) (ps := []) rfl (fun p h => nomatch h) (by decide) ?_
    exact k _ (s2.ok.agr ag3 (fun _ _ z => nomatch z)).p ((agM ag1).trans (ag2.trans (agM ag3)))
end
/-! ### what is sealed -/
theorem pen_keep {g g' : Ah} {a b C : Addr} {fs : List (Str × Dv)} {m : Mo} (h : g a = some (.ins C fs)) (ag : Agr [b] g g') (hb : g b = some m) (hm : ∀ C fs, m ≠ .ins C fs) : g' a = some (.ins C fs) := by
  refine ag.get (fun z => ?_) h
  cases List.mem_singleton.mp z
  rw [hb] at h
  cases h
  exact hm _ _ rfl
def dO (P : Addr) (m : Mo) : Ob := ⟨[P], fun g => g P = some m⟩
theorem dO_ok {P : Addr} {m : Mo} {g : Ah} (h : g P = some m) : (dO P m).ok g :=
  ⟨h, fun a ha => by cases List.mem_singleton.mp ha; rw [h]; exact (fun z => nomatch z), fun g' e => by show g' P = _; rw [e P (List.mem_singleton.mpr rfl)]; exact h⟩
def othP (h num nm : Int) : List PyData := [bdyP "prevote" h num nm, bdyP "precommit" (h + 1) num nm, bdyP "precommit" h (num + 1) nm, bdyP "precommit" h num (nm + 1000), .tuple [.str "precommit", .int h, .int num, .none]]
def othD (h num nm : Int) : List Dv := [bdyD "prevote" h num nm, bdyD "precommit" (h + 1) num nm, bdyD "precommit" h (num + 1) nm, bdyD "precommit" h num (nm + 1000), .tup [.str "precommit", .int h, .int num, .non]]
theorem pv_ne : ("prevote" : Str) ≠ "precommit" := by decide +kernel
theorem oth_no {h num nm num' nm' : Int} (hc : num' ≠ num + 1 ∧ nm' ≠ nm + 1000) (q : PyData) (hq : q ∈ othP h num nm) : q ≠ bdyP "precommit" h num' nm' := by
  intro e
  subst e
  simp only [othP, List.mem_cons, List.not_mem_nil, or_false, bdyP, PyData.tuple.injEq, List.cons.injEq, PyData.str.injEq, PyData.int.injEq, and_true] at hq
  rcases hq with h | h | h | h | h
  · exact pv_ne h.1.symm
  · omega
  · omega
  · omega
  · cases h.2.2.2
theorem oth_val {h num nm : Int} (h1 : Sml h ∧ Sml (h + 1)) (h2 : num.natAbs < 10 ^ 50) (h3 : Sml nm ∧ Sml (nm + 1000)) {x : Dv} (hx : x ∈ othD h num nm) : ∃ q, Val 1 390 x q ∧ q ∈ othP h num nm := by
  simp only [othD, List.mem_cons, List.not_mem_nil, or_false] at hx
  have hn : num.natAbs < 10 ^ 60 := by omega
  rcases hx with rfl | rfl | rfl | rfl | rfl
  · exact ⟨_, val_bdy (by simp) h1.1 hn h3.1, by simp [othP]⟩
  · exact ⟨_, val_bdy (by simp) h1.2 hn h3.1, by simp [othP]⟩
  · exact ⟨_, val_bdy (by simp) h1.1 (by omega) h3.1, by simp [othP]⟩
  · exact ⟨_, val_bdy (by simp) h1.1 hn h3.2, by simp [othP]⟩
  · exact ⟨.tuple [.str "precommit", .int h, .int num, .none], ValL.tup (.cons (val_80 (by simp)) (.cons h1.1.v (.cons (.int (w := 201) hn (Nat.le_refl _)) (.cons (w := 0) .non (.nil (w := 0)) (by decide) (Nat.le_refl _)) (by decide) (Nat.le_refl _)) (by decide) (Nat.le_refl _)) (by decide) (by decide)), by simp [othP]⟩
/-- what the seals say -/
structure SlP (h num nm : Int) (ss : List Int) (sl : List (PyData × PyData)) : Prop where
  m : ∀ o : Int, ((.int o, bdyP "precommit" h num nm) : PyData × PyData) ∈ sl ↔ o ∈ ss
  o : ∀ x ∈ sl, x.2 = bdyP "precommit" h num nm ∨ x.2 ∈ othP h num nm
theorem SlP.nil {h num nm : Int} : SlP h num nm [] [] := ⟨fun o => by simp, fun x z => nomatch z⟩
theorem SlP.add {h num nm : Int} {ss : List Int} {sl : List (PyData × PyData)} (k : SlP h num nm ss sl) (o : Int) : SlP h num nm (ss ++ [o]) (sl ++ [(.int o, bdyP "precommit" h num nm)]) := by
  refine ⟨fun o' => ?_, fun x hx => ?_⟩
  · rw [List.mem_append, List.mem_append, k.m, List.mem_singleton, List.mem_singleton, Prod.mk.injEq, PyData.int.injEq]
    simp
  · rcases List.mem_append.mp hx with hx | hx
    · exact k.o x hx
    · cases List.mem_singleton.mp hx
      exact .inl rfl
theorem SlP.oth {h num nm : Int} {ss : List Int} {sl : List (PyData × PyData)} {q : PyData} (k : SlP h num nm ss sl) (o : Int) (hq : q ∈ othP h num nm) : SlP h num nm ss (sl ++ [(.int o, q)]) := by
  have hne := oth_no (h := h) (num := num) (nm := nm) (num' := num) (nm' := nm) ⟨by omega, by omega⟩ q hq
  refine ⟨fun o' => ?_, fun x hx => ?_⟩
  · rw [List.mem_append, k.m, List.mem_singleton, Prod.mk.injEq]
    constructor
    · rintro (z | z)
      · exact z
      · exact absurd z.2.symm hne
    · exact .inl
  · rcases List.mem_append.mp hx with hx | hx
    · exact k.o x hx
    · cases List.mem_singleton.mp hx
      exact .inr hq
/-- the pens that were given -/
def Pns (K : PySem.W.Frag) (r : Addr) (kvs : List (Key × Dv)) (pre : List Int) (g : Ah) : Prop := ∀ o ∈ pre, ∃ a, valD kvs (.inl o) = some (.ref a) ∧ g a = some (penM K o r)
theorem Pns.keep {K : PySem.W.Frag} {r b : Addr} {kvs : List (Key × Dv)} {pre : List Int} {g g' : Ah} {m : Mo} (h : Pns K r kvs pre g) (ag : Agr [b] g g') (hb : g b = some m) (hm : ∀ C fs, m ≠ .ins C fs) : Pns K r kvs pre g' := fun o ho => by
  obtain ⟨a, h1, h2⟩ := h o ho
  exact ⟨a, h1, pen_keep h2 ag hb hm⟩
theorem Pns.keep0 {K : PySem.W.Frag} {r : Addr} {kvs : List (Key × Dv)} {pre : List Int} {g g' : Ah} (h : Pns K r kvs pre g) (ag : Agr [] g g') : Pns K r kvs pre g' := fun o ho => by
  obtain ⟨a, h1, h2⟩ := h o ho
  exact ⟨a, h1, ag.get (fun z => nomatch z) h2⟩
/-- the state of the law behind the sealing -/
structure Sd (K : PySem.W.Frag) (p r n pp s P : Addr) (ps : List PyData) (sl : List (PyData × PyData)) (ms : List Int) (kvs : List (Key × Dv)) (os : List Int) (g : Ah) : Prop where
  w : Wd g [stN p, rgO K r n pp s ps os sl, dO P (.dct kvs)]
  pn : Pns K r kvs ms g
theorem Sd.st {K : PySem.W.Frag} {p r n pp s P : Addr} {ps : List PyData} {sl : List (PyData × PyData)} {ms : List Int} {kvs : List (Key × Dv)} {os : List Int} {g : Ah} (h : Sd K p r n pp s P ps sl ms kvs os g) : StN p g := h.w.get 0 rfl
theorem Sd.rg {K : PySem.W.Frag} {p r n pp s P : Addr} {ps : List PyData} {sl : List (PyData × PyData)} {ms : List Int} {kvs : List (Key × Dv)} {os : List Int} {g : Ah} (h : Sd K p r n pp s P ps sl ms kvs os g) : RgA K r n pp s ps os sl g := h.w.get 1 rfl
theorem Sd.d {K : PySem.W.Frag} {p r n pp s P : Addr} {ps : List PyData} {sl : List (PyData × PyData)} {ms : List Int} {kvs : List (Key × Dv)} {os : List Int} {g : Ah} (h : Sd K p r n pp s P ps sl ms kvs os g) : g P = some (.dct kvs) := h.w.get 2 rfl
theorem Sd.agr0 {K : PySem.W.Frag} {p r n pp s P : Addr} {ps : List PyData} {sl : List (PyData × PyData)} {ms : List Int} {kvs : List (Key × Dv)} {os : List Int} {g g' : Ah} (h : Sd K p r n pp s P ps sl ms kvs os g) (ag : Agr [] g g') : Sd K p r n pp s P ps sl ms kvs os g' := ⟨h.w.agr0 ag, h.pn.keep0 ag⟩
/-- one object of it is changed -/
theorem Sd.next {K : PySem.W.Frag} {p r n pp s P : Addr} {ps : List PyData} {sl : List (PyData × PyData)} {ms : List Int} {kvs : List (Key × Dv)} {os : List Int} {g g' : Ah} (h : Sd K p r n pp s P ps sl ms kvs os g) (ag : Agr [p] g g') (k : StN p g') : Sd K p r n pp s P ps sl ms kvs os g' := by
  obtain ⟨_, _, _, _, e, _⟩ := h.st.ex
  exact ⟨h.w.chg 0 rfl ag k.ok (fun a ha => .inl ha), h.pn.keep ag e fun _ _ z => nomatch z⟩
theorem Sd.seal {K : PySem.W.Frag} {p r n pp s P : Addr} {ps : List PyData} {sl sl' : List (PyData × PyData)} {ms : List Int} {kvs : List (Key × Dv)} {os : List Int} {g g' : Ah} (h : Sd K p r n pp s P ps sl ms kvs os g) (ag : Agr [s] g g') (k : RgA K r n pp s ps os sl' g') : Sd K p r n pp s P ps sl' ms kvs os g' := by
  obtain ⟨_, e, _⟩ := h.rg.es
  exact ⟨h.w.chg 1 rfl (ag.more fun b hb => by cases List.mem_singleton.mp hb; simp [rgO]) k.ok (fun a ha => .inl ha), h.pn.keep ag e fun _ _ z => nomatch z⟩
theorem Sd.name {K : PySem.W.Frag} {p r n pp s P : Addr} {ps ps' : List PyData} {sl : List (PyData × PyData)} {ms : List Int} {kvs : List (Key × Dv)} {os : List Int} {g g' : Ah} (h : Sd K p r n pp s P ps sl ms kvs os g) (ag : Agr [n] g g') (k : RgA K r n pp s ps' os sl g') : Sd K p r n pp s P ps' sl ms kvs os g' := by
  have e := h.rg.en
  exact ⟨h.w.chg 1 rfl (ag.more fun b hb => by cases List.mem_singleton.mp hb; simp [rgO]) k.ok (fun a ha => .inl ha), h.pn.keep ag e fun _ _ z => nomatch z⟩
theorem Sd.pen {K : PySem.W.Frag} {p r n pp s P : Addr} {ps : List PyData} {sl : List (PyData × PyData)} {ms : List Int} {kvs : List (Key × Dv)} {os os' : List Int} {g g' : Ah} (h : Sd K p r n pp s P ps sl ms kvs os g) (ag : Agr [pp] g g') (k : RgA K r n pp s ps os' sl g') : Sd K p r n pp s P ps sl ms kvs os' g' := by
  obtain ⟨_, e, _⟩ := h.rg.ep
  exact ⟨h.w.chg 1 rfl (ag.more fun b hb => by cases List.mem_singleton.mp hb; simp [rgO]) k.ok (fun a ha => .inl ha), h.pn.keep ag e fun _ _ z => nomatch z⟩
section
variable {K : PySem.W.Frag} {g : Ah} {p r n pp s : Addr} {R : DQ} {Y : Xc}
theorem w_sealed {hd : Dv} {q : PyData} {N w : Nat} {h1 : Int} {ns : List Int} {xs1 : List Dv} {num : Nat} (hw0 : Wd g [stN p, rgO K r n pp s [] [] []]) (hns : OwnN ns) (hh : tpV hd = some xs1) (hh1 : xs1[1]? = some (.int h1)) (hh5 : xs1[5]? = some (.tq (ns.map Dv.int)))
    (hs1 : Sml h1 ∧ Sml (h1 + 1)) (hq : Val N w hd q) (hN : N ≤ 40) (hw : w ≤ 1500) (hnum : num ≤ 100)
    (k : ∀ P kvs ss sl os g' ms, ms.Perm ns → ms.Pairwise (· ≤ ·) → ss.Sublist ms → sl.length ≤ 20 → os.length ≤ 20 → (∀ o ∈ os, o ∈ ns) → SlP h1 num 1 ss sl → Sd K p r n pp s P [q] sl ns kvs os g' →
      R (.tup [.ref P, bdyD "precommit" h1 num 1, .lst (ss.map Dv.int)]) g') : D_law_sealed K [.ref p, .ref r, hd, .int (num : Int)] g R Y := by
  have hnl := hns.l
  refine U_law_sealed ?_
  unfold B_law_sealed
  have eh := tpV_vw (g := g) hh
  have rg0 : RgA K r n pp s [] [] [] g := hw0.get 1 rfl
  have eo := rg0.eo
  walk_at "s"
  refine s_name rg0 hq hN hw (by decide) fun g1 hR1 ag1 => ?_
  have e1 : nmA [] q = [q] := by unfold nmA; rw [if_neg (fun z => nomatch z)]; rfl
  have e2 : ((nmI [] q : Nat) : Int) = 1 := by unfold nmI; simp
  rw [e1] at hR1
  rw [e2]
  have w1 : Wd g1 [stN p, rgO K r n pp s [q] [] []] := hw0.chg 1 rfl (ag1.more fun b hb => by cases List.mem_singleton.mp hb; simp [rgO]) hR1.ok (fun a ha => .inl ha)
  have eh := tpV_vw (g := g1) hh
  walk_at "s"
  refine r_addT (Nat.le_of_ble_eq_true rfl) ?_
  walk_at "s"
  refine r_addT (Nat.le_of_ble_eq_true rfl) ?_
  walk_at "s"
  refine r_addT (Nat.le_of_ble_eq_true rfl) ?_
  walk_at "s"
  refine r_addT (Nat.le_of_ble_eq_true rfl) ?_
  walk_at "s"
  refine r_addT (Nat.le_of_ble_eq_true rfl) ?_
  walk_at "s"
  refine r_addT (Nat.le_of_ble_eq_true rfl) ?_
  walk_at "q"
  refine r_nM fun L hL => ?_
  walk_at "q"
  refine r_d0M fun P hP => ?_
  obtain ⟨hPL, hP⟩ := ups_none hP
  have w2 : Wd (ups (ups g1 L (.lst [])) P (.dct [])) [stN p, rgO K r n pp s [q] [] [], dO P (.dct [])] :=
    (w1.add (g' := ups (ups g1 L (.lst [])) P (.dct [])) (o := dO P (.dct [])) (.new (.new .refl hL) hP) (dO_ok ups_same) (fun a ha => by cases List.mem_singleton.mp ha; exact hP)).perm (by simpa using List.perm_append_comm (l₁ := [dO P (.dct [])]) (l₂ := [stN p, rgO K r n pp s [q] [] []]))
  have gL : (ups (ups g1 L (.lst [])) P (.dct [])) L = some (.lst (([] : List Int).map Dv.int)) := (ups_ne (Ne.symm hPL)).trans ups_same
  have s2 : Sd K p r n pp s P [q] [] [] [] [] (ups (ups g1 L (.lst [])) P (.dct [])) := ⟨w2, fun o z => nomatch z⟩
  generalize ups (ups g1 L (.lst [])) P (.dct []) = g2 at w2 gL s2 ⊢
  have offL : ∀ a ∈ [p, r, n, pp, s, P], a ≠ L := fun a ha => by
    have al : ∀ o ∈ [stN p, rgO K r n pp s [q] [] []], ∀ a ∈ o.S, a ≠ L := fun o ho a ha e => by
      subst e
      exact (w1.ok o ho).al a ha hL
    simp only [List.mem_cons, List.not_mem_nil, or_false] at ha
    rcases ha with e | e | e | e | e | e
    · rw [e]; exact al (stN p) (by simp) _ (by simp [stN])
    · rw [e]; exact al (rgO K r n pp s [q] [] []) (by simp) _ (by simp [rgO])
    · rw [e]; exact al (rgO K r n pp s [q] [] []) (by simp) _ (by simp [rgO])
    · rw [e]; exact al (rgO K r n pp s [q] [] []) (by simp) _ (by simp [rgO])
    · rw [e]; exact al (rgO K r n pp s [q] [] []) (by simp) _ (by simp [rgO])
    · rw [e]; exact hPL
  have offS : ∀ {sl : List (PyData × PyData)} {pre : List Int} {kvs : List (Key × Dv)} {os : List Int} {g' : Ah} {xs : List Dv} {m : Mo}, Sd K p r n pp s P [q] sl pre kvs os g' → g' L = some (.lst xs) → Sd K p r n pp s P [q] sl pre kvs os (ups g' L m) := fun {sl pre kvs os g' xs m} h e => by
    have ag : Agr [L] g' (ups g' L m) := .ups .refl (by simp)
    refine ⟨⟨fun o ho => (h.w.ok o ho).agr ag fun a ha hb => ?_, h.w.pw⟩, h.pn.keep ag e fun _ _ z => nomatch z⟩
    cases List.mem_singleton.mp hb
    simp only [List.mem_cons, List.not_mem_nil, or_false] at ho
    rcases ho with rfl | rfl | rfl
    · exact offL L (by simp [stN] at ha; simp [ha]) rfl
    · refine offL L ?_ rfl
      simp only [rgO, List.mem_cons, List.not_mem_nil, or_false] at ha
      rcases ha with h | h | h | h <;> simp [h]
    · exact offL L (by simp [dO] at ha; simp [ha]) rfl
  have hb := val_bdy (n := 0) (w := "precommit") (h := h1) (num := (num : Int)) (nm := 1) (by simp) hs1.1 (by omega) ⟨by decide, by decide⟩
  have hb2 : Val 1 390 (.tup [.str "precommit", .int h1, .int (num : Int), .int 1]) (bdyP "precommit" h1 (num : Int) 1) := hb
  walk_at "q"
  with_reducible refine r_cutF (fun ev g' => ∃ kvs ss sl os ms, ms.Perm ns ∧ ms.Pairwise (· ≤ ·) ∧ ss.Sublist ms ∧ sl.length ≤ 20 ∧ os.length ≤ 20 ∧ (∀ o ∈ os, o ∈ ns) ∧ SlP h1 num 1 ss sl ∧ Sd K p r n pp s P [q] sl ns kvs os g' ∧ g' L = some (.lst (ss.map Dv.int)) ∧ ∃ c4 c6 c9 c10 c11, ev = [some (.ref p), some (.ref r), some hd, some (.int (num : Int)), c4, some (bdyD "precommit" h1 num 1), c6, some (.ref L), some (.ref P), c9, c10, c11]) (fun N hN => ?_) ?_
  · walk_at "s"
    refine r_sortTI (ns := ns) rfl fun ms hp hs => ?_
    walk_at "s"
    have hml := hp.length_eq
    unfold forQ
    refine loop_rec (fun ds ev g' => ∃ pre rest ss sl os kvs, ds = rest.map Dv.int ∧ ms = pre ++ rest ∧ Sd K p r n pp s P [q] sl pre kvs os g' ∧ SlP h1 num 1 ss sl ∧ ss.Sublist pre ∧ (∀ o ∈ os, o ∈ pre) ∧ os.length ≤ pre.length ∧ sl.length ≤ pre.length ∧ kvs.length ≤ pre.length ∧ g' L = some (.lst (ss.map Dv.int)) ∧ ∃ c9 c10 c11,
      ev = [some (.ref p), some (.ref r), some hd, some (.int (num : Int)), some (.tq (ns.map Dv.int)), some (bdyD "precommit" h1 num 1), some (.lst (othD h1 num 1)), some (.ref L), some (.ref P), c9, c10, c11]) ?_ ?_ ⟨[], ms, [], [], [], [], rfl, rfl, s2, .nil, List.Sublist.refl _, (fun o z => nomatch z), by decide, by decide, by decide, gL, none, none, none, rfl⟩
    · rintro ev g' ⟨pre, rest, ss, sl, os, kvs, e, em, sd, slp, sub, ho, l1, l2, l3, eL, c9, c10, c11, rfl⟩
      obtain rfl : rest = [] := List.map_eq_nil_iff.mp e.symm
      rw [List.append_nil] at em
      subst em
      exact ⟨trivial, hN _ _ ⟨kvs, ss, sl, os, ms, hp, hs, sub, by omega, by omega, fun o z => hp.mem_iff.mp (ho o z), slp, ⟨sd.w, fun o z => sd.pn o (hp.mem_iff.mpr z)⟩, eL, _, _, _, _, _, rfl⟩⟩
    · rintro x ds ev g' N' ⟨pre, rest, ss, sl, os, kvs, e, em, sd, slp, sub, ho, l1, l2, l3, eL, c9, c10, c11, rfl⟩ hN'
      refine ⟨trivial, ?_⟩
      cases rest with
      | nil => cases e
      | cons o rest =>
        obtain ⟨rfl, rfl⟩ := List.cons.inj e
        have hbo := hns.b o (hp.mem_iff.mp (by rw [em]; simp))
        have hpl : pre.length < 10 := by
          have := congrArg List.length em
          rw [List.length_append, List.length_cons] at this
          omega
        have hno : o ∉ pre := fun z => by
          have := hp.nodup_iff.mpr hns.n
          rw [em] at this
          exact (List.nodup_append.mp this).2.2 o z o List.mem_cons_self rfl
        have eo := sd.rg.eo
        walk_at "s"
        refine s_pen o sd.rg (by omega) (fun _ a g3 ha hpen hR3 ag3 => ?_) (fun z => absurd (ho o z) hno)
        have sd3 := sd.pen ag3 hR3
        have eL3 : g3 L = some (.lst (ss.map Dv.int)) := ag3.get (fun z => offL pp (by simp) (List.mem_singleton.mp z).symm) eL
        have eP3 := sd3.d
        walk_at "s"
        refine r_putD eP3 rfl (by omega) ?_
        have sd4 : Sd K p r n pp s P [q] sl (pre ++ [o]) (putD kvs (.inl o) (.ref a)) (o :: os) (ups g3 P (.dct (putD kvs (.inl o) (.ref a)))) := by
          have ag : Agr [P] g3 (ups g3 P (.dct (putD kvs (.inl o) (.ref a)))) := .ups .refl (by simp)
          refine ⟨sd3.w.chg 2 rfl ag (dO_ok ups_same) (fun a ha => .inl ha), fun o' ho' => ?_⟩
          rcases List.mem_append.mp ho' with z | z
          · obtain ⟨a', h1, h2⟩ := sd3.pn o' z
            refine ⟨a', ?_, pen_keep h2 ag eP3 fun _ _ z => nomatch z⟩
            rw [valD_put, if_neg (fun e => hno (by cases e; exact z))]
            exact h1
          · cases List.mem_singleton.mp z
            refine ⟨a, ?_, pen_keep hpen ag eP3 fun _ _ z => nomatch z⟩
            rw [valD_put, if_pos rfl]
        have hpen4 : (ups g3 P (.dct (putD kvs (.inl o) (.ref a)))) a = some (penM K o r) := pen_keep hpen (.ups (S := [P]) .refl (by simp)) eP3 fun _ _ z => nomatch z
        have eL4 : (ups g3 P (.dct (putD kvs (.inl o) (.ref a)))) L = some (.lst (ss.map Dv.int)) := (ups_ne (Ne.symm (offL P (by simp)))).trans eL3
        have l4 : (putD kvs (.inl o) (.ref a)).length ≤ kvs.length + 1 := putD_le ..
        generalize ups g3 P (.dct (putD kvs (.inl o) (.ref a))) = g4 at sd4 hpen4 eL4 ⊢
        generalize putD kvs (.inl o) (.ref a) = kvs4 at sd4 l4
        walk_at "s"
        refine s_next sd4.st (by decide) (by decide) fun v g5 hv s5 ag5 => ?_
        have sd5 := sd4.next ag5 s5
        obtain ⟨_, _, _, _, ep4, _⟩ := sd4.st.ex
        have hpen5 := pen_keep hpen4 ag5 ep4 fun _ _ z => nomatch z
        have eL5 : g5 L = some (.lst (ss.map Dv.int)) := ag5.get (fun z => offL p (by simp) (List.mem_singleton.mp z).symm) eL4
        walk_at "s"
        refine r_dec (fun c => ?_) (fun c => ?_)
        · walk_at "s"
          refine s_seal sd5.rg hpen5 (by omega) hb2 (by decide) (by decide) (by omega) fun g6 hR6 ag6 => ?_
          have sd6 := sd5.seal ag6 hR6
          have eL6 : g6 L = some (.lst (ss.map Dv.int)) := ag6.get (fun z => offL s (by simp) (List.mem_singleton.mp z).symm) eL5
          walk_at "s"
          refine r_app eL6 (by rw [List.length_map]; have := sub.length_le; omega) ?_
          walk_at "s"
          refine hN' _ _ ⟨pre ++ [o], rest, ss ++ [o], _, _, kvs4, rfl, by rw [em]; simp, offS sd6 eL6, slp.add o, sub.append (List.Sublist.refl _), fun o' h => ?_, by simp; omega, by simp; omega, by simp; omega, by rw [List.map_append]; exact ups_same, _, _, _, rfl⟩
          rcases List.mem_cons.mp h with rfl | h
          · simp
          · exact List.mem_append_left _ (ho o' h)
        · walk_at "s"
          refine s_next sd5.st (by decide) (by decide) fun v2 g6 hv2 s6 ag6 => ?_
          have sd6 := sd5.next ag6 s6
          obtain ⟨_, _, _, _, ep5, _⟩ := sd5.st.ex
          have hpen6 := pen_keep hpen5 ag6 ep5 fun _ _ z => nomatch z
          have eL6 : g6 L = some (.lst (ss.map Dv.int)) := ag6.get (fun z => offL p (by simp) (List.mem_singleton.mp z).symm) eL5
          walk_at "s"
          refine r_ixOf rfl (by omega) (by show _ < (5 : Int); omega) fun x hx => ?_
          obtain ⟨qx, vx, hqx⟩ := oth_val (h := h1) (num := (num : Int)) (nm := 1) hs1 (by omega) ⟨⟨by decide, by decide⟩, ⟨by decide, by decide⟩⟩ hx
          walk_at "s"
          refine s_seal sd6.rg hpen6 (by omega) vx (by decide) (by decide) (by omega) fun g7 hR7 ag7 => ?_
          have sd7 := sd6.seal ag7 hR7
          have eL7 : g7 L = some (.lst (ss.map Dv.int)) := ag7.get (fun z => offL s (by simp) (List.mem_singleton.mp z).symm) eL6
          walk_at "s"
          refine hN' _ _ ⟨pre ++ [o], rest, ss, _, _, kvs4, rfl, by rw [em]; simp, sd7, slp.oth o hqx, sub.trans (List.sublist_append_left _ _), fun o' h => ?_, by simp; omega, by simp; omega, by simp; omega, eL7, _, _, _, rfl⟩
          rcases List.mem_cons.mp h with rfl | h
          · simp
          · exact List.mem_append_left _ (ho o' h)
  · rintro ev g' ⟨kvs, ss, sl, os, ms, hp, hs, sub, l1, l2, ho, slp, sd, eL, c4, c6, c9, c10, c11, rfl⟩
    with_reducible refine r_ret ?_
    refine r_tup ?_
    refine r_cons ?_
    refine r_var rfl ?_
    refine r_cons ?_
    refine r_var rfl ?_
    refine r_cons ?_
    with_reducible refine r_frz ?_
    refine r_var rfl ?_
    refine r_frzL eL ?_
    walk_at "s"
    refine k P kvs ss sl os _ ms hp hs sub l1 l2 ho slp ?_
    have ag : Agr [L] g' (del g' L) := .del .refl (by simp)
    refine ⟨⟨fun o ho => (sd.w.ok o ho).agr ag fun a ha hb => ?_, sd.w.pw⟩, sd.pn.keep ag eL fun _ _ z => nomatch z⟩
    cases List.mem_singleton.mp hb
    simp only [List.mem_cons, List.not_mem_nil, or_false] at ho
    rcases ho with rfl | rfl | rfl
    · exact offL L (by simp [stN] at ha; simp [ha]) rfl
    · refine offL L ?_ rfl
      simp only [rgO, List.mem_cons, List.not_mem_nil, or_false] at ha
      rcases ha with h | h | h | h <;> simp [h]
    · exact offL L (by simp [dO] at ha; simp [ha]) rfl
end
/-! ### the law's question about a certificate -/
def AskOk (sl : List (PyData × PyData)) (h num nm : Int) (ns : List Int) (xs : List Dv) : Prop := ∃ os : List Int, xs = os.map Dv.int ∧ quo ns.length ≤ os.length ∧ os.Pairwise (· < ·) ∧ ∀ o ∈ os, 1 ≤ o ∧ o ≤ 999 ∧ o ∈ ns ∧ ((.int o, bdyP "precommit" h num nm) : PyData × PyData) ∈ sl
theorem ask_ct {sl : List (PyData × PyData)} {h nm : Int} {num : Nat} {ns : List Int} {xs : List Dv} (hn : num ≤ 1000) (k : AskOk sl h num nm ns xs) : CtOk sl h nm ns (.tup [.str "certificate", .int (num : Int), .tup xs]) := by
  obtain ⟨os, rfl, h1, h2, h3⟩ := k
  refine ⟨?_, (num : Int), .tup (os.map Dv.int), os, rfl, by omega, rfl, h1, h2, h3⟩
  have hi : plD (.tup (os.map Dv.int)) 29 = true := by
    rw [tpV_pl (xs := os.map Dv.int) rfl, Bool.and_eq_true_iff]
    refine ⟨by decide, List.all_eq_true.mpr fun x hx => ?_⟩
    obtain ⟨i, hi, rfl⟩ := List.mem_map.mp hx
    have := h3 i hi
    exact plD_int ⟨by omega, by omega⟩
  rw [tpV_pl (xs := [.str "certificate", .int (num : Int), .tup (os.map Dv.int)]) rfl, Bool.and_eq_true_iff]
  refine ⟨by decide, List.all_eq_true.mpr fun x hx => ?_⟩
  simp only [List.mem_cons, List.not_mem_nil, or_false] at hx
  rcases hx with rfl | rfl | rfl
  · unfold plD; rfl
  · exact plD_int ⟨by omega, by omega⟩
  · exact hi
theorem ct_ask {sl : List (PyData × PyData)} {h nm : Int} {num : Int} {ns : List Int} {xs : List Dv} (k : CtOk sl h nm ns (.tup [.str "certificate", .int num, .tup xs])) : AskOk sl h num nm ns xs := by
  obtain ⟨_, n', S, os, e, _, e2, h1, h2, h3⟩ := k
  cases e
  cases e2
  exact ⟨os, rfl, h1, h2, h3⟩
theorem strOk_cert : PyData.strOk "certificate" = true := by decide +kernel
section
variable {K : PySem.W.Frag} {g : Ah} {r n pp s : Addr} {ps : List PyData} {os0 : List Int} {sl : List (PyData × PyData)} {R : DQ} {Y : Xc}
theorem w_asked {hd ds : Dv} {q : PyData} {N w : Nat} {h1 : Int} {ns : List Int} {xs1 xs : List Dv} {num : Nat} (hR : RgA K r n pp s ps os0 sl g) (hx : ∀ x ∈ xs, GdV x) (hz : szVs xs ≤ 1000) (hds : ds = .lst xs) (hh : tpV hd = some xs1) (hh1 : xs1[1]? = some (.int h1)) (hh5 : xs1[5]? = some (.tq (ns.map Dv.int)))
    (hs1 : Sml h1) (hq : Val N w hd q) (hN : N ≤ 40) (hw : w ≤ 1500) (hps : ps.length < 90000) (hn0 : 1 ≤ ns.length) (hn1 : ns.length ≤ 1000) (hm : q ∈ ps) (hnum : num ≤ 1000)
    (k : ∀ b : Bool, (b = true ↔ AskOk sl h1 num (nmI ps q) ns xs) → ∀ g', RgA K r n pp s ps os0 sl g' → Agr [n] g g' → R (.bl b) g') : D_law_asked K [.ref r, hd, .int (num : Int), ds] g R Y := by
  subst hds
  have en : nmA ps q = ps := by unfold nmA; rw [if_pos hm]
  refine U_law_asked ?_
  unfold B_law_asked
  have eh := tpV_vw (g := g) hh
  walk_at "s"
  refine w_cert (xs1 := xs1) hR ?_ ?_ hh hh1 hs1 hq hN hw hps hn0 hn1 (fun h g' hR' ag => ?_) (fun h ps' g' hp hR' ag => ?_)
  · unfold GdV GdVs GdVs GdVs GdVs
    refine ⟨strOk_cert, trivial, ?_, trivial⟩
    unfold GdV
    exact gdVs_of hx
  · simp only [szV, szVs]
    omega
  · rw [en] at hR'
    exact k true ⟨fun _ => ct_ask h, fun _ => rfl⟩ g' hR' ag
  · have : ps' = ps := by
      rcases hp with h | h
      · exact h
      · rw [h, en]
    subst this
    exact k false ⟨fun z => (nomatch z), fun z => absurd (ask_ct hnum z) h⟩ g' hR' ag
end
/-! ### wrong certificates -/
theorem any_n (n : Int) : ∀ ns : List Int, ((ns.map PyData.int).any fun z => PyData.eqv z (.int n)) = decide (n ∈ ns)
  | [] => rfl
  | m :: ns => by
    rw [List.map_cons, List.any_cons, any_n n ns]
    have e : PyData.eqv (.int m) (.int n) = decide (m = n) := by
      by_cases h : m = n <;> simp [PyData.eqv, h]
    rw [e]
    by_cases h : m = n
    · subst h; simp
    · rw [decide_eq_false h, Bool.false_or]
      by_cases z : n ∈ ns
      · simp [z]
      · have : n ∉ m :: ns := fun w => by
          rcases List.mem_cons.mp w with w | w
          · exact h w.symm
          · exact z w
        simp [z, this]
theorem r_inLn {g : Ah} {R : DQ} {d : Dv} {n : Int} {b : Bool} {ns : List Int} (h : vw g d = .lst (ns.map Dv.int)) (k : R (.bl (decide (n ∈ ns) == b)) g) : qIn b (.int n) d g R := by
  unfold qIn
  rw [h]
  refine ⟨.int n, ns.map PyData.int, rfl, pds_n ns, (Sh.int (n := 0) n).ok, ?_, by rw [any_n]; exact k⟩
  refine (Sh.list (n := 0) fun p hp => ?_).ok
  obtain ⟨i, _, rfl⟩ := List.mem_map.mp hp
  exact .int i
def wrow (sl : List (PyData × PyData)) (h num nm : Int) (ns : List Int) (d : Dv) : Prop := ∃ xs, d = .lst xs ∧ (∀ x ∈ xs, GdV x) ∧ szVs xs ≤ 1000 ∧ ¬ AskOk sl h num nm ns xs
theorem wr_mem {sl : List (PyData × PyData)} {h num nm : Int} {ns : List Int} {xs : List Dv} {x : Dv} (hg : ∀ x ∈ xs, GdV x) (hz : szVs xs ≤ 1000) (hx : x ∈ xs) (hno : ∀ o : Int, x = .int o → o ∉ ns ∨ ((.int o, bdyP "precommit" h num nm) : PyData × PyData) ∉ sl) : wrow sl h num nm ns (.lst xs) := by
  refine ⟨xs, rfl, hg, hz, fun ⟨os, e, _, _, h3⟩ => ?_⟩
  subst e
  obtain ⟨o, ho, rfl⟩ := List.mem_map.mp hx
  rcases hno o rfl with z | z
  · exact z (h3 o ho).2.2.1
  · exact z (h3 o ho).2.2.2
theorem wr_pw {sl : List (PyData × PyData)} {h num nm : Int} {ns ys : List Int} (hl : ys.length ≤ 500) (hp : ¬ ys.Pairwise (· < ·)) : wrow sl h num nm ns (.lst (ys.map Dv.int)) :=
  ⟨_, rfl, gd_ints ys, by rw [sz_ints]; omega, fun ⟨os, e, _, h2, _⟩ => hp (by rw [int_map e]; exact h2)⟩
theorem wr_few {sl : List (PyData × PyData)} {h num nm : Int} {ns ys : List Int} (hl : ys.length < quo ns.length) (hl2 : ys.length ≤ 500) : wrow sl h num nm ns (.lst (ys.map Dv.int)) :=
  ⟨_, rfl, gd_ints ys, by rw [sz_ints]; omega, fun ⟨os, e, h1, _, _⟩ => by rw [← int_map e] at h1; omega⟩
theorem wr_out {sl : List (PyData × PyData)} {h num nm : Int} {ns ys : List Int} {o : Int} (hl : ys.length ≤ 500) (ho : o ∈ ys) (hno : o < 1 ∨ 999 < o ∨ o ∉ ns ∨ ((.int o, bdyP "precommit" h num nm) : PyData × PyData) ∉ sl) : wrow sl h num nm ns (.lst (ys.map Dv.int)) :=
  ⟨_, rfl, gd_ints ys, by rw [sz_ints]; omega, fun ⟨os, e, _, _, h3⟩ => by
    rw [int_map e] at ho
    have := h3 o ho
    rcases hno with z | z | z | z
    · omega
    · omega
    · exact z this.2.2.1
    · exact z this.2.2.2⟩
theorem r_nMg {xs : List Dv} {g : Ah} {R : DQ} (P : List Dv → Prop) (h1 : P xs) (h : ∀ ys a, P ys → g a = none → R (.ref a) (ups g a (.lst ys))) : nM xs g R := fun a ha => h xs a h1 ha
theorem r_nFg {xs : List Dv} {g : Ah} {R : DQ} (P : List Dv → Prop) (h1 : P xs) (h : ∀ ys, P ys → R (.lst ys) g) : nF xs g R := h xs h1
theorem cutQ_neg1 (xs : List Dv) : cutX xs (some (-1)) none = xs.drop (xs.length - 1) := by
  unfold cutX
  rw [HT.sIx_none]
  have e : HT.sIx xs.length 0 (some (-1)) = xs.length - 1 := by
    show (if (-1 : Int) < 0 then ((-1 : Int) + (xs.length : Int)).toNat else min (-1 : Int).toNat xs.length) = _
    rw [if_pos (by decide)]
    omega
  rw [e, List.take_of_length_le (by rw [List.length_drop]; omega)]
theorem cutQ_toneg1 (xs : List Dv) : cutX xs none (some (-1)) = xs.take (xs.length - 1) := by
  unfold cutX
  rw [HT.sIx_none]
  have e : HT.sIx xs.length xs.length (some (-1)) = xs.length - 1 := by
    show (if (-1 : Int) < 0 then ((-1 : Int) + (xs.length : Int)).toNat else min (-1 : Int).toNat xs.length) = _
    rw [if_pos (by decide)]
    omega
  rw [e, List.drop_zero, Nat.sub_zero]
def hdP (a b c d : Nat) (ns : List Int) : PyData := .tuple [.str "header", .int ((a : Int) + 1), .int b, .int c, .int d, .tuple (ns.map PyData.int)]
theorem val_hdX {v : Dv} {a b c d : Nat} {ns : List Int} (h : tpV v = some (hdX a b c d ns)) (hn : OwnN ns) (ha : a < 100000) (hb : b < 100000) (hc : c < 100000) (hd : d < 100000) : Val 2 1000 v (hdP a b c d ns) := by
  have hl := hn.l
  have ho : Val 1 610 (.tq (ns.map Dv.int)) (.tuple (ns.map PyData.int)) := (ValL.ints (n := 0) fun i hi => hn.sml i hi).tq.up (Nat.le_refl _) (by omega)
  have sm : ∀ n : Nat, n < 100001 → Val 1 60 (.int (n : Int)) (.int (n : Int)) := fun n hn => Sml.v ⟨by omega, by omega⟩
  exact ValL.tp (.cons (val_80 (by simp)) (.cons (show Val 1 60 (.int ((a : Int) + 1)) (.int ((a : Int) + 1)) from sm (a + 1) (by omega)) (.cons (sm b (by omega)) (.cons (sm c (by omega)) (.cons (sm d (by omega)) (.cons ho (.nil (w := 0)) (by decide) (Nat.le_refl _)) (by decide) (Nat.le_refl _)) (by decide) (Nat.le_refl _)) (by decide) (Nat.le_refl _)) (by decide) (Nat.le_refl _)) (by decide) (by decide)) h
theorem ct_no {sl : List (PyData × PyData)} {h nm : Int} {ns : List Int} {v : Dv} (k : ∀ (num : Int) (S : Dv) (os : List Int), tpV v = some [.str "certificate", .int num, S] → 0 ≤ num → tpV S = some (os.map Dv.int) → (∃ o, ((.int o, bdyP "precommit" h num nm) : PyData × PyData) ∈ sl) → False) : ¬ CtOk sl h nm ns v := fun ⟨_, num, S, os, e, h0, h1, h2, _, h4⟩ => by
  refine k num S os e h0 h1 ?_
  cases os with
  | nil => simp [quo] at h2
  | cons o os => exact ⟨o, (h4 o List.mem_cons_self).2.2.2⟩
def badc (sl : List (PyData × PyData)) (h nm : Int) (ns : List Int) (v : Dv) : Prop := GdV v ∧ szV v ≤ 50000 ∧ ¬ CtOk sl h nm ns v
theorem bc_non {sl : List (PyData × PyData)} {h nm : Int} {ns : List Int} {v : Dv} (e : tpV v = none) (hg : GdV v) : badc sl h nm ns v := by
  refine ⟨hg, ?_, ct_no fun num S os e2 _ _ _ => by rw [e] at e2; cases e2⟩
  cases v <;> first | (cases e; done) | (unfold szV; omega)
theorem bc_len {sl : List (PyData × PyData)} {h nm : Int} {ns : List Int} {v : Dv} {xs : List Dv} (e : tpV v = some xs) (hl : xs.length ≠ 3) (hg : ∀ x ∈ xs, GdV x) (hz : szVs xs ≤ 1000) : badc sl h nm ns v := by
  refine ⟨?_, by rw [tpV_sz e]; omega, ct_no fun num S os e2 _ _ _ => by rw [e] at e2; cases e2; exact hl rfl⟩
  cases v <;> cases e <;> (unfold GdV; exact gdVs_of hg)
theorem bc_tq {sl : List (PyData × PyData)} {h nm : Int} {ns : List Int} {xs : List Dv} (hg : ∀ x ∈ xs, GdV x) (hz : szVs xs ≤ 1000) (k : ∀ (num : Int) (S : Dv) (os : List Int), xs = [.str "certificate", .int num, S] → 0 ≤ num → tpV S = some (os.map Dv.int) → (∃ o, ((.int o, bdyP "precommit" h num nm) : PyData × PyData) ∈ sl) → False) : badc sl h nm ns (.tq xs) :=
  ⟨by unfold GdV; exact gdVs_of hg, by unfold szV; omega, ct_no fun num S os e => k num S os (Option.some.inj e)⟩
section
variable {K : PySem.W.Frag} {g : Ah} {p r n pp s : Addr} {os0 : List Int} {sl : List (PyData × PyData)} {R : DQ} {Y : Xc}
theorem w_wrong {a b c d : Nat} {ns ss : List Int} {q : PyData} {N w : Nat} {num : Nat} {st : Int} (hns : OwnN ns) (ha : a < 1000) (hb : b < 1000) (hc : c < 1000) (hd : d < 1000) (hW : Wd g [stN p, rgO K r n pp s [q] os0 sl]) (hq : Val N w (.tup (hdX a b c d ns)) q) (hNN : N ≤ 40) (hw : w ≤ 1000)
    (hnum : num ≤ 100) (hss : ss.Pairwise (· < ·)) (hsub : ∀ o ∈ ss, o ∈ ns) (hqu : quo ns.length ≤ ss.length) (hlen : ss.length ≤ 10) (hst : st ∉ ns) (hm : ∀ o : Int, ((.int o, bdyP "precommit" ((a : Int) + 1) num 1) : PyData × PyData) ∈ sl ↔ o ∈ ss ∨ o = st) (hoth : ∀ x ∈ sl, x.2 = bdyP "precommit" ((a : Int) + 1) num 1 ∨ x.2 ∈ othP ((a : Int) + 1) num 1)
    (k : ∀ g', R (.bl true) g') : D_law_wrong K [.ref p, .ref r, .tup (hdX a b c d ns), .int (num : Int), .lst (ss.map Dv.int), .int st] g R Y := by
  have hnl := hns.l
  have hx5 : (hdX a b c d ns)[5]? = some (.tq (ns.map Dv.int)) := rfl
  have hqz : 3 ≤ quo ns.length := by unfold quo; omega
  have hsm : (ss.map Dv.int).length = ss.length := List.length_map _
  have hnm : (ns.map Dv.int).length = ns.length := List.length_map _
  refine U_law_wrong ?_
  unfold B_law_wrong
  walk_at "s"
  refine r_sortTI (ns := ns) rfl fun ms hp hs => ?_
  walk_at "s"
  refine comp_pure ms Dv.int (fun o => !decide (o ∈ ss)) Dv.int rfl (by have := hp.length_eq; omega) (fun _ _ => trivial) (fun x hx g2 N' MM ag2 hN' hM => ?_) fun g2 ag2 => ?_
  · walk_at "s"
    refine r_inLn (ns := ss) rfl ?_
    walk_at "s"
    by_cases h : x ∈ ss
    · rw [decide_eq_true h]
      refine r_ifF rfl ?_
      exact hN' (by simp [h]) _ .refl
    · rw [decide_eq_false h]
      refine r_ifT rfl ?_
      walk_at "s"
      exact hM (by simp [h]) _ .refl
  have hW2 := hW.agr0 ag2
  clear hW
  have hu : ∀ u ∈ ms.filter fun o => !decide (o ∈ ss), u ∈ ns ∧ u ∉ ss := fun u hu => by
    obtain ⟨h1, h2⟩ := List.mem_filter.mp hu
    exact ⟨hp.mem_iff.mp h1, by simpa using h2⟩
  have hul : (ms.filter fun o => !decide (o ∈ ss)).length ≤ 10 := by
    have := List.length_filter_le (fun o => !decide (o ∈ ss)) ms
    have := hp.length_eq
    omega
  generalize (ms.filter fun o => !decide (o ∈ ss)) = us at hu hul ⊢
  obtain ⟨s0, s1, sr, rfl⟩ : ∃ s0 s1 sr, ss = s0 :: s1 :: sr := by
    match ss, (by omega : 2 ≤ ss.length) with
    | s0 :: s1 :: sr, _ => exact ⟨s0, s1, sr, rfl⟩
  have hlr : sr.length + 2 ≤ 10 := by simpa using hlen
  have hl1 : ((s0 :: s1 :: sr).map Dv.int).length ≤ 10 := by rw [hsm]; exact hlen
  have gi : ∀ x ∈ (s0 :: s1 :: sr).map Dv.int, GdV x := gd_ints _
  have zi : szVs ((s0 :: s1 :: sr).map Dv.int) ≤ 10 := by rw [sz_ints]; exact hlen
  have h01 : s0 < s1 := (List.pairwise_cons.mp hss).1 s1 List.mem_cons_self
  have gone : ∀ {xs ys : List Dv}, (∀ x ∈ xs, GdV x) → (∀ x ∈ ys, GdV x) → ∀ x ∈ xs ++ ys, GdV x := fun h1 h2 x hx => (List.mem_append.mp hx).elim (h1 x) (h2 x)
  walk_at "s"
  rw [cutQ_neg1]
  refine r_addL rfl rfl (by rw [List.length_drop]; omega) ?_
  refine r_nF ?_
  walk_at "s"
  refine r_ixL (x := .int s0) rfl (atI_nat (j := 0) rfl) ?_
  walk_at "s"
  refine r_nMg (fun ys => ys.length ≤ 6 ∧ ∀ v ∈ ys, wrow sl ((a : Int) + 1) num 1 ns v) ⟨by simp, fun v hv => ?_⟩ fun R1 l1 hR1 hl1 => ?_
  · simp only [List.mem_cons, List.not_mem_nil, or_false] at hv
    rcases hv with rfl | rfl | rfl | rfl | rfl | rfl
    · rw [← List.map_reverse]
      refine wr_pw (by simp; omega) fun h => ?_
      have h := List.pairwise_reverse.mp h
      have := (List.pairwise_cons.mp h).1 s1 List.mem_cons_self
      omega
    · rw [← List.map_drop, ← List.map_append]
      refine wr_pw (by simp; omega) fun h => ?_
      have hj : ((s0 :: s1 :: sr).map Dv.int).length - 1 < (s0 :: s1 :: sr).length := by simp
      rw [List.drop_eq_getElem_cons hj] at h
      have := (List.pairwise_append.mp h).2.2 _ (List.getElem_mem hj) _ List.mem_cons_self
      omega
    · rw [show ([Dv.int s0] ++ (s0 :: s1 :: sr).map Dv.int) = (s0 :: s0 :: s1 :: sr).map Dv.int from rfl]
      refine wr_pw (by simp; omega) fun h => ?_
      have := (List.pairwise_cons.mp h).1 s0 List.mem_cons_self
      omega
    · rw [show ((s0 :: s1 :: sr).map Dv.int ++ [Dv.int 1000]) = ((s0 :: s1 :: sr) ++ [1000]).map Dv.int by rw [List.map_append]; rfl]
      exact wr_out (o := 1000) (by simp; omega) (by simp) (.inr (.inl (by decide)))
    · rw [show ([Dv.int 0] ++ (s0 :: s1 :: sr).map Dv.int) = (0 :: s0 :: s1 :: sr).map Dv.int from rfl]
      exact wr_out (o := 0) (by simp; omega) (by simp) (.inl (by decide))
    · exact wr_mem (x := .bl true) (gone (fun x hx => by cases List.mem_singleton.mp hx; unfold GdV; trivial) gi) (by rw [szVs_app]; simp only [szVs, szV]; omega) (by simp) (fun o e => nomatch e)
  have hW3 : Wd (ups g2 l1 (.lst R1)) [stN p, rgO K r n pp s [q] os0 sl] := hW2.agr0 (.new .refl hl1)
  have gl1 : (ups g2 l1 (.lst R1)) l1 = some (.lst R1) := ups_same
  clear hW2
  generalize ups g2 l1 (.lst R1) = g3 at hW3 gl1 ⊢
  have hR1l := hR1.1
  have dr1 : cutX ((s0 :: s1 :: sr).map Dv.int) (some 1) none = (s1 :: sr).map Dv.int := by
    rw [show (some (1 : Int)) = some (((1 : Nat)) : Int) from rfl, cutQ_from]
    rfl
  walk_at "s"
  refine w_quorum (xs := ns.map Dv.int) rfl (by rw [hnm]; omega) (by rw [hnm]; omega) ?_
  rw [hnm]
  walk_at "s"
  rw [dr1]
  refine r_addL rfl rfl (by simp; omega) ?_
  refine r_nF ?_
  walk_at "s"
  rw [dr1]
  refine r_addL rfl rfl (by simp; omega) ?_
  refine r_nF ?_
  walk_at "s"
  refine r_nMg (fun ys => ys.length ≤ 9 ∧ ∀ v ∈ ys, wrow sl ((a : Int) + 1) num 1 ns v) ⟨by simp; omega, fun v hv => ?_⟩ fun R2 l2 hR2 hl2 => ?_
  · rcases List.mem_append.mp hv with hv | hv
    · exact hR1.2 v hv
    · simp only [List.mem_cons, List.not_mem_nil, or_false] at hv
      have g1 : ∀ x ∈ (s1 :: sr).map Dv.int, GdV x := gd_ints _
      have z1 : szVs ((s1 :: sr).map Dv.int) ≤ 10 := by rw [sz_ints]; simp; omega
      rcases hv with rfl | rfl | rfl
      · rw [show (((quo ns.length : Nat) : Int) - 1) = ((quo ns.length - 1 : Nat) : Int) by omega, cutQ_to, ← List.map_take]
        exact wr_few (by rw [List.length_take]; omega) (by rw [List.length_take]; omega)
      · exact wr_mem (x := .non) (gone g1 (fun x hx => by cases List.mem_singleton.mp hx; unfold GdV; trivial)) (by rw [szVs_app]; simp only [szVs, szV] at z1 ⊢; omega) (by simp) (fun o e => nomatch e)
      · exact wr_mem (x := .str "a") (gone g1 (fun x hx => by cases List.mem_singleton.mp hx; unfold GdV; decide +kernel)) (by rw [szVs_app]; simp only [szVs, szV] at z1 ⊢; omega) (by simp) (fun o e => nomatch e)
  have hR2l := hR2.1
  have hW4 : Wd (ups g3 l2 (.lst R2)) [stN p, rgO K r n pp s [q] os0 sl] := hW3.agr0 (.new .refl hl2)
  have gl2 : (ups g3 l2 (.lst R2)) l2 = some (.lst R2) := ups_same
  clear hW3 gl1
  generalize ups g3 l2 (.lst R2) = g4 at hW4 gl2 ⊢
  walk_at "s"
  rw [dr1]
  refine r_addL rfl rfl (by simp; omega) ?_
  refine r_nF ?_
  walk_at "s"
  refine r_sortI (ns := (s1 :: sr) ++ [st]) (by show Dv.lst _ = _; rw [List.map_append]; rfl) fun t1 ht1 _ => ?_
  refine r_nF ?_
  walk_at "s"
  refine r_sortI (ns := (s0 :: s1 :: sr) ++ [st]) (by show Dv.lst _ = _; rw [List.map_append]; rfl) fun t2 ht2 _ => ?_
  refine r_nF ?_
  walk_at "s"
  rw [cutQ_toneg1, ← List.map_take]
  refine r_addL rfl rfl (by simp; omega) ?_
  refine r_nF ?_
  walk_at "s"
  refine r_sortI (ns := (s0 :: s1 :: sr).take (((s0 :: s1 :: sr).map Dv.int).length - 1) ++ [st]) (by show Dv.lst _ = _; rw [List.map_append]; rfl) fun t3 ht3 _ => ?_
  refine r_nF ?_
  walk_at "s"
  refine r_nMg (fun ys => ys.length ≤ 12 ∧ ∀ v ∈ ys, wrow sl ((a : Int) + 1) num 1 ns v) ⟨by simp; omega, fun v hv => ?_⟩ fun R3 l3 hR3 hl3 => ?_
  · rcases List.mem_append.mp hv with hv | hv
    · exact hR2.2 v hv
    · simp only [List.mem_cons, List.not_mem_nil, or_false] at hv
      rcases hv with rfl | rfl | rfl
      · exact wr_out (o := st) (by rw [ht1.length_eq]; simp; omega) (ht1.mem_iff.mpr (by simp)) (.inr (.inr (.inl hst)))
      · exact wr_out (o := st) (by rw [ht2.length_eq]; simp; omega) (ht2.mem_iff.mpr (by simp)) (.inr (.inr (.inl hst)))
      · exact wr_out (o := st) (by rw [ht3.length_eq, List.length_append, List.length_take]; simp; omega) (ht3.mem_iff.mpr (by simp)) (.inr (.inr (.inl hst)))
  have hR3l := hR3.1
  have hW5 : Wd (ups g4 l3 (.lst R3)) [stN p, rgO K r n pp s [q] os0 sl] := hW4.agr0 (.new .refl hl3)
  have gl3 : (ups g4 l3 (.lst R3)) l3 = some (.lst R3) := ups_same
  have n3p : l3 ≠ p := fun e => by
    subst e
    exact (hW4.ok _ List.mem_cons_self).al _ (by simp [stN]) hl3
  have n3r : ∀ x ∈ [r, n, pp, s], l3 ≠ x := fun x hx e => by
    subst e
    exact (hW4.ok (rgO K r n pp s [q] os0 sl) (by simp)).al _ hx hl3
  clear hW4 gl2
  generalize ups g4 l3 (.lst R3) = g5 at hW5 gl3 ⊢
  walk_at "q"
  with_reducible refine r_cutI (fun ev g' => (∃ R4, g' l3 = some (.lst R4) ∧ R4.length ≤ 13 ∧ ∀ v ∈ R4, wrow sl ((a : Int) + 1) num 1 ns v) ∧ Wd g' [stN p, rgO K r n pp s [q] os0 sl] ∧ ∃ c6 c7 c8, ev = [some (.ref p), some (.ref r), some (.tup (hdX a b c d ns)), some (.int (num : Int)), some (.lst ((s0 :: s1 :: sr).map Dv.int)), some (.int st), c6, c7, c8, some (.ref l3), none, none, none, none, none]) (fun N hN => ?_) ?_
  · walk_at "s"
    refine r_ite (fun c => ?_) (fun c => ?_)
    · walk_at "s"
      have hul0 : 0 < us.length := by
        cases us with
        | nil => simp at c
        | cons u us => simp
      refine s_next (hW5.get 0 rfl) (by simp; omega) (by simp; omega) fun v g6 hv s6 ag6 => ?_
      have hv : v < us.length := by simp at hv; omega
      have gl6 : g6 l3 = some (.lst R3) := ag6.get (by simpa using n3p) gl3
      have hW6 : Wd g6 [stN p, rgO K r n pp s [q] os0 sl] := hW5.chg 0 rfl ag6 s6.ok (fun a ha => .inl ha)
      walk_at "s"
      have hu' := List.getElem?_eq_getElem hv
      generalize us[v] = u at hu'
      refine r_ixL (x := .int u) rfl (atI_nat (j := v) (by rw [List.getElem?_map, hu']; rfl)) ?_
      walk_at "s"
      refine r_sortI (ns := (s0 :: s1 :: sr) ++ [u]) (by show Dv.lst _ = _; rw [List.map_append]; rfl) fun t4 ht4 _ => ?_
      refine r_nF ?_
      walk_at "s"
      have huu := hu u (List.mem_of_getElem? hu')
      refine hN _ _ ⟨⟨_, ups_same, by rw [List.length_append]; simp; omega, fun x hx => ?_⟩, ?_, _, _, _, rfl⟩
      · rcases List.mem_append.mp hx with hx | hx
        · exact hR3.2 x hx
        · cases List.mem_singleton.mp hx
          refine wr_out (o := u) (by rw [ht4.length_eq]; simp; omega) (ht4.mem_iff.mpr (by simp)) (.inr (.inr (.inr fun z => ?_)))
          rcases (hm u).mp z with z | z
          · exact huu.2 z
          · subst z
            exact hst huu.1
      · have ag : Agr [l3] g6 (ups g6 l3 (.lst (R3 ++ [.lst (t4.map Dv.int)]))) := .ups .refl (by simp)
        refine ⟨fun o ho => (hW6.ok o ho).agr ag fun x hx hb => ?_, hW6.pw⟩
        cases List.mem_singleton.mp hb
        simp only [List.mem_cons, List.not_mem_nil, or_false] at ho
        rcases ho with rfl | rfl
        · exact n3p (by simpa [stN] using hx)
        · exact n3r l3 hx rfl
    · walk_at "s"
      exact hN _ _ ⟨⟨R3, gl3, by omega, hR3.2⟩, hW5, _, _, _, rfl⟩
  · rintro ev g' ⟨⟨R4, gl4, hR4l, hR4⟩, hW6, c6, c7, c8, rfl⟩
    walk_at "s"
    have hmq : q ∈ [q] := by simp
    have nmq : ((nmI [q] q : Nat) : Int) = 1 := by unfold nmI; simp
    refine comp_inv (fun _ acc g' => acc = [] ∧ Wd g' [stN p, rgO K r n pp s [q] os0 sl] ∧ g' l3 = some (.lst R4)) 0 ⟨rfl, hW6, gl4⟩ (fun _ _ _ h => by show _ = _; rw [h.2.2, gl4]) ?_ ?_
    · rintro i x acc g7 N' MM hx ⟨rfl, hW7, gl7⟩ hN' hM
      obtain ⟨xs, rfl, x1, x2, x3⟩ := hR4 x (List.mem_of_getElem? hx)
      walk_at "s"
      refine w_asked (hW7.get 1 rfl) x1 x2 rfl (xs1 := hdX a b c d ns) rfl rfl hx5 ⟨by omega, by omega⟩ hq hNN (by omega) (by simp) (by omega) (by omega) hmq (by omega) fun b' hb' g8 hR8 ag8 => ?_
      rw [nmq] at hb'
      have : b' = false := by
        cases b' with
        | false => rfl
        | true => exact absurd (hb'.mp rfl) x3
      subst this
      walk_at "s"
      exact hN' _ ⟨rfl, hW7.chg 1 rfl (ag8.more fun b hb => by cases List.mem_singleton.mp hb; simp [rgO]) hR8.ok (fun a ha => .inl ha), ag8.get (fun z => n3r n (by simp) (List.mem_singleton.mp z)) gl7⟩
    · rintro acc g7 ⟨rfl, hW7, gl7⟩
      walk_at "s"
      refine r_ifF (by simp) ?_
      walk_at "s"
      refine r_addT (Nat.le_of_ble_eq_true rfl) ?_
      walk_at "s"
      refine w_with (i := 0) (xs := [.str "certificate", .int (num : Int), .tup ((s0 :: s1 :: sr).map Dv.int)]) rfl (by simp) (by simp) (by simp) ?_
      walk_at "s"
      refine w_with (i := 1) (xs := [.str "certificate", .int (num : Int), .tup ((s0 :: s1 :: sr).map Dv.int)]) rfl (by simp) (by simp) (by simp) ?_
      walk_at "s"
      refine w_with (i := 1) (xs := [.str "certificate", .int (num : Int), .tup ((s0 :: s1 :: sr).map Dv.int)]) rfl (by simp) (by simp) (by simp) ?_
      walk_at "s"
      refine w_with (i := 1) (xs := [.str "certificate", .int (num : Int), .tup ((s0 :: s1 :: sr).map Dv.int)]) rfl (by simp) (by simp) (by simp) ?_
      walk_at "s"
      refine w_with (i := 2) (xs := [.str "certificate", .int (num : Int), .tup ((s0 :: s1 :: sr).map Dv.int)]) rfl (by simp) (by simp) (by simp) ?_
      walk_at "s"
      refine w_with (i := 2) (xs := [.str "certificate", .int (num : Int), .tup ((s0 :: s1 :: sr).map Dv.int)]) rfl (by simp) (by simp) (by simp) ?_
      walk_at "s"
      refine w_with (i := 1) (xs := [.str "certificate", .int (num : Int), .tup ((s0 :: s1 :: sr).map Dv.int)]) rfl (by simp) (by simp) (by simp) ?_
      walk_at "q"
      with_reducible refine r_cutF (fun ev g' => Wd g' [stN p, rgO K r n pp s [q] os0 sl] ∧ ∃ c6 c7 c8 c9 c10 c12 c13 c14, ev = [some (.ref p), some (.ref r), some (.tup (hdX a b c d ns)), some (.int (num : Int)), some (.lst ((s0 :: s1 :: sr).map Dv.int)), some (.int st), c6, c7, c8, c9, c10, some (.tup [.str "certificate", .int (num : Int), .tup ((s0 :: s1 :: sr).map Dv.int)]), c12, c13, c14]) (fun N hN => ?_) ?_
      · walk_at "s"
        unfold forQ
        refine loop_rec (fun ds ev g' => Wd g' [stN p, rgO K r n pp s [q] os0 sl] ∧ (∀ x ∈ ds, badc sl ((a : Int) + 1) 1 ns x) ∧ ∃ c6 c7 c8 c9 c10 c12 c13 c14, ev = [some (.ref p), some (.ref r), some (.tup (hdX a b c d ns)), some (.int (num : Int)), some (.lst ((s0 :: s1 :: sr).map Dv.int)), some (.int st), c6, c7, c8, c9, c10, some (.tup [.str "certificate", .int (num : Int), .tup ((s0 :: s1 :: sr).map Dv.int)]), c12, c13, c14]) ?_ ?_ ⟨hW7, fun x hx => ?_, _, _, _, _, _, _, _, _, rfl⟩
        · rintro ev g' ⟨hW', _, c6, c7, c8, c9, c10, c12, c13, c14, rfl⟩
          exact ⟨trivial, hN _ _ ⟨hW', _, _, _, _, _, _, _, _, rfl⟩⟩
        · rintro x ds ev g' N2 ⟨hW', hds, c6, c7, c8, c9, c10, c12, c13, c14, rfl⟩ hN2
          refine ⟨trivial, ?_⟩
          obtain ⟨x1, x2, x3⟩ := hds x List.mem_cons_self
          walk_at "s"
          have e1 : nmA [q] q = [q] := by unfold nmA; rw [if_pos hmq]
          refine w_cert (hW'.get 1 rfl) x1 x2 (hd := .tup (hdX a b c d ns)) rfl rfl (h1 := (a : Int) + 1) ⟨by omega, by omega⟩ hq hNN (by omega) (by simp) (by omega) (by omega) (fun h => ?_) (fun _ ps' g8 hp' hR8 ag8 => ?_)
          · rw [nmq] at h
            exact absurd h x3
          · have : ps' = [q] := by
              rcases hp' with h | h
              · exact h
              · rw [h, e1]
            subst this
            walk_at "s"
            refine r_isBl ?_
            walk_at "s"
            refine r_ifF rfl ?_
            walk_at "s"
            exact hN2 _ _ ⟨hW'.chg 1 rfl (ag8.more fun b hb => by cases List.mem_singleton.mp hb; simp [rgO]) hR8.ok (fun a ha => .inl ha), fun y hy => hds y (List.mem_cons_of_mem _ hy), _, _, _, _, _, _, _, _, rfl⟩
        · have grt : ∀ x ∈ [Dv.str "certificate", .int (num : Int), .tup ((s0 :: s1 :: sr).map Dv.int)], GdV x := fun x hx => by
            simp only [List.mem_cons, List.not_mem_nil, or_false] at hx
            rcases hx with rfl | rfl | rfl
            · unfold GdV; exact strOk_cert
            · unfold GdV; trivial
            · unfold GdV; exact gdVs_of gi
          have zrt : szVs [Dv.str "certificate", .int (num : Int), .tup ((s0 :: s1 :: sr).map Dv.int)] ≤ 100 := by simp only [szVs, szV] at zi ⊢; omega
          have set : ∀ i x, GdV x → szV x ≤ 100 → (∀ (num' : Int) (S : Dv) (os : List Int), [Dv.str "certificate", .int (num : Int), .tup ((s0 :: s1 :: sr).map Dv.int)].set i x = [.str "certificate", .int num', S] → 0 ≤ num' → tpV S = some (os.map Dv.int) → (∃ o, ((.int o, bdyP "precommit" ((a : Int) + 1) num' 1) : PyData × PyData) ∈ sl) → False) →
              badc sl ((a : Int) + 1) 1 ns (.tq ([Dv.str "certificate", .int (num : Int), .tup ((s0 :: s1 :: sr).map Dv.int)].set i x)) := fun i x g1 z1 k => by
            refine bc_tq (fun y hy => ?_) (by have := sz_set [Dv.str "certificate", .int (num : Int), .tup ((s0 :: s1 :: sr).map Dv.int)] i x; omega) k
            rcases List.mem_or_eq_of_mem_set hy with hy | rfl
            · exact grt y hy
            · exact g1
          rw [List.mem_append, List.mem_append] at hx
          simp only [List.mem_cons, List.not_mem_nil, or_false] at hx
          rcases hx with ((rfl | rfl | rfl | rfl | rfl | rfl | rfl | rfl) | (rfl | rfl | rfl | rfl)) | (rfl | rfl | rfl)
          · exact bc_non rfl (by unfold GdV; trivial)
          · exact bc_len rfl (by decide) (fun x h => nomatch h) (by decide)
          · rw [show (some (2 : Int)) = some (((2 : Nat)) : Int) from rfl, cutQ_to]
            exact bc_len rfl (by simp) (fun x h => grt x (List.mem_of_mem_take h)) (by simp only [List.take, szVs, szV]; omega)
          · refine bc_len rfl (by simp) (gone grt (fun x hx => by cases List.mem_singleton.mp hx; unfold GdV; trivial)) (by rw [szVs_app]; simp only [szVs, szV] at zrt ⊢; omega)
          · refine set 0 _ (by unfold GdV; decide +kernel) (by simp [szV]) fun num' S os e _ _ _ => ?_
            have : Dv.str "x" = .str "certificate" := (List.cons.inj e).1
            injection this with this
            revert this
            decide +kernel
          · refine set 1 _ (by unfold GdV; trivial) (by simp [szV]) fun num' S os e h0 _ _ => ?_
            have := (List.cons.inj (List.cons.inj e).2).1
            cases this
            omega
          · exact bc_non rfl (by unfold GdV; trivial)
          · exact bc_non rfl (by unfold GdV; trivial)
          · refine set 1 _ (by unfold GdV; trivial) (by simp [szV]) fun num' S os e h0 _ _ => ?_
            have := (List.cons.inj (List.cons.inj e).2).1
            cases this
          · refine set 1 _ (by unfold GdV; trivial) (by simp [szV]) fun num' S os e h0 _ _ => ?_
            have := (List.cons.inj (List.cons.inj e).2).1
            cases this
          · refine set 2 _ (by unfold GdV; trivial) (by simp [szV]) fun num' S os e h0 h1 _ => ?_
            have := (List.cons.inj (List.cons.inj (List.cons.inj e).2).2).1
            subst this
            cases h1
          · refine set 2 _ (by unfold GdV; trivial) (by simp [szV]) fun num' S os e h0 h1 _ => ?_
            have := (List.cons.inj (List.cons.inj (List.cons.inj e).2).2).1
            subst this
            cases h1
          · refine set 1 _ (by unfold GdV; trivial) (by simp [szV]) fun num' S os e h0 h1 ⟨o, ho⟩ => ?_
            have := (List.cons.inj (List.cons.inj e).2).1
            injection this with this
            subst this
            rcases hoth _ ho with z | z
            · simp only [bdyP, PyData.tuple.injEq, List.cons.injEq, PyData.int.injEq] at z
              omega
            · exact oth_no (num' := (num : Int) + 7) (nm' := 1) ⟨by omega, by decide⟩ _ z rfl
          · exact bc_non rfl (by unfold GdV; trivial)
          · exact bc_non rfl (by unfold GdV; trivial)
      · rintro ev g' ⟨hW8, c6, c7, c8, c9, c10, c12, c13, c14, rfl⟩
        walk_at "s"
        refine w_with (i := 4) (xs := hdX a b c d ns) rfl (by simp [hdX]) (by simp [hdX]) (by simp [hdX]) ?_
        rw [show (hdX a b c d ns).set 4 (.int ((d : Int) + 1)) = hdX a b c (d + 1) ns by simp [hdX]]
        walk_at "s"
        have v2 := val_hdX (v := .tq (hdX a b c (d + 1) ns)) rfl hns (by omega) (by omega) (by omega) (by omega)
        have qe : q = hdP a b c d ns := by
          have h1 := hq.e
          have h2 := (val_hdX (v := .tup (hdX a b c d ns)) rfl hns (by omega) (by omega) (by omega) (by omega)).e
          rw [h1] at h2
          exact Option.some.inj h2
        have hne : hdP a b c (d + 1) ns ≠ q := by
          rw [qe]
          unfold hdP
          intro e
          simp at e
          omega
        have nm2 : ((nmI [q] (hdP a b c (d + 1) ns) : Nat) : Int) = 2 := by
          unfold nmI
          rw [List.idxOf_cons, beq_eq_false_iff_ne.mpr (Ne.symm hne)]
          simp
        have h5' : (hdX a b c (d + 1) ns)[5]? = some (.tq (ns.map Dv.int)) := rfl
        refine w_cert (hW8.get 1 rfl) ?_ ?_ (hd := .tq (hdX a b c (d + 1) ns)) rfl rfl (h1 := (a : Int) + 1) ⟨by omega, by omega⟩ v2 (by decide) (by decide) (by simp) (by omega) (by omega) (fun h => ?_) (fun _ ps' g9 _ hR9 ag9 => ?_)
        · unfold GdV GdVs GdVs GdVs GdVs
          refine ⟨strOk_cert, trivial, ?_, trivial⟩
          unfold GdV
          exact gdVs_of gi
        · simp only [szV, szVs] at zi ⊢
          omega
        · exfalso
          rw [nm2] at h
          refine ct_no (fun num' S os e h0 h1 ⟨o, ho⟩ => ?_) h
          cases e
          rcases hoth _ ho with z | z
          · simp [bdyP] at z
          · exact oth_no (num' := (num : Int)) (nm' := 2) ⟨by omega, by decide⟩ _ z rfl
        · walk_at "s"
          refine r_isBl ?_
          exact k _
end
/-! ### the law -/
theorem quo_eq {n : Nat} (h : n = 4 ∨ n = 7 ∨ n = 10) : ((quo n : Nat) : Int) = (n : Int) - ((n : Int) - 1) / 3 := by
  rcases h with rfl | rfl | rfl <;> decide
theorem nodup_le : ∀ {l m : List Int}, l.Nodup → (∀ x ∈ l, x ∈ m) → l.length ≤ m.length
  | [], m, _, _ => Nat.zero_le _
  | x :: l, m, h, k => by
    have hx := k x List.mem_cons_self
    have hn := List.nodup_cons.mp h
    have := nodup_le (l := l) (m := m.erase x) hn.2 fun y hy => (List.mem_erase_of_ne (fun e => hn.1 (by rw [← e]; exact hy))).mpr (k y (List.mem_cons_of_mem _ hy))
    rw [List.length_erase_of_mem hx] at this
    have := List.length_pos_of_mem hx
    rw [List.length_cons]
    omega
theorem filter_two {α : Type} (p : α → Bool) : ∀ l : List α, (l.filter p).length + (l.filter fun x => !p x).length = l.length
  | [] => rfl
  | x :: l => by
    have := filter_two p l
    cases h : p x <;> simp [List.filter_cons, h] <;> omega
theorem rngD_map2 : ∀ (n : Nat) (lo : Int), rngD lo n = ((List.range n).map fun (i : Nat) => lo + (i : Int)).map Dv.int
  | 0, lo => rfl
  | n + 1, lo => by
    show Dv.int lo :: rngD (lo + 1) n = _
    rw [rngD_map2 n (lo + 1), List.range_succ_eq_map, List.map_cons, List.map_cons, List.map_map]
    congr 1
    · simp
    · rw [List.map_map, List.map_map]
      refine List.map_congr_left fun i _ => ?_
      simp [Function.comp_def]
      omega
def strg (ns : List Int) : List Int := ((List.range 200).map fun (i : Nat) => (400 : Int) + (i : Int)).filter fun o => !decide (o ∈ ns)
theorem strg_len {ns : List Int} (h : ns.length ≤ 10) : 190 ≤ (strg ns).length := by
  have h1 := filter_two (fun o : Int => !decide (o ∈ ns)) ((List.range 200).map fun (i : Nat) => (400 : Int) + (i : Int))
  rw [List.length_map, List.length_range] at h1
  have hn : ((List.range 200).map fun (i : Nat) => (400 : Int) + (i : Int)).Nodup := List.pairwise_map.mpr (List.nodup_range.imp fun {a b} h e => h (by omega))
  have h2 := nodup_le (m := ns) (hn.sublist (List.filter_sublist (p := fun o : Int => !(!decide (o ∈ ns))))) fun x hx => by
    have := (List.mem_filter.mp hx).2
    simpa using this
  unfold strg
  omega
theorem strg_mem {ns : List Int} {o : Int} (h : o ∈ strg ns) : o ∉ ns ∧ 400 ≤ o ∧ o < 600 := by
  obtain ⟨h1, h2⟩ := List.mem_filter.mp h
  obtain ⟨i, hi, rfl⟩ := List.mem_map.mp h1
  have := List.mem_range.mp hi
  exact ⟨by simpa using h2, by omega, by omega⟩
theorem Wd.two {g : Ah} {a b c : Ob} (w : Wd g [a, b, c]) : Wd g [a, b] :=
  ⟨fun o ho => w.ok o (List.mem_append_left [c] ho), w.pw.sublist (.cons₂ _ (.cons₂ _ (.cons _ .slnil)))⟩
theorem SlP.cong {h num nm : Int} {ss ys : List Int} {sl : List (PyData × PyData)} (k : SlP h num nm ss sl) (e : ∀ o, o ∈ ys ↔ o ∈ ss) : SlP h num nm ys sl := ⟨fun o => by rw [k.m, e], k.o⟩
theorem law_holds {K : PySem.W.Frag} {mg : Str → Option Value} (T : Txt K mg) (ns0 : List Int) (hn : ns0.length ≤ 63) : D_law K [.fz (ns0.map Dv.int)] (fun _ => none) (fun d _ => d = .bl true) (fun _ _ => False) := by
  refine U_law ?_
  unfold B_law
  walk_at "s"
  refine r_nM fun p hp => ?_
  have s0 : StN p (ups (fun _ => none) p (.lst [.lst (ns0.map Dv.int), .int 0, .int 0, .int 1])) := ⟨ns0, 0, 0, 1, ups_same, by decide, by omega, by decide⟩
  generalize ups (fun _ => none) p (.lst [.lst (ns0.map Dv.int), .int 0, .int 0, .int 1]) = g0 at s0 ⊢
  walk_at "s"
  refine w_lowners s0 fun ns g1 hns s1 ag1 => ?_
  walk_at "s"
  refine w_lheader s1 fun a b c d g2 ha hb hc hd s2 ag2 => ?_
  walk_at "s"
  have hnl := hns.l
  have hnm : (ns.map Dv.int).length = ns.length := List.length_map _
  refine w_quorum (xs := ns.map Dv.int) rfl (by rw [hnm]; omega) (by rw [hnm]; omega) ?_
  rw [hnm]
  walk_at "s"
  rw [hnm]
  refine r_ifF (by rw [quo_eq hnl]; simp) ?_
  walk_at "s"
  refine w_forms hns ha hb hc hd s2 fun g3 s3 ag3 => ?_
  walk_at "s"
  refine r_make ?_
  walk_at "s"
  intro r hr
  refine s_reg hr fun n pp s g4 hn1 hp1 hs1 hR4 ag4 => ⟨rfl, ?_⟩
  have w4 : Wd g4 [stN p, rgO K r n pp s [] [] []] := by
    have h1 : Wd g3 [stN p] := (Wd.nil (g := fun _ => none)).add (fun b _ hn => absurd rfl hn) s3.ok (fun _ _ => rfl)
    refine (h1.add ag4 hR4.ok (fun x hx => ?_)).perm (List.Perm.swap _ _ _)
    simp only [rgO, List.mem_cons, List.not_mem_nil, or_false] at hx
    rcases hx with h | h | h | h
    · rw [h]; exact hr
    · rw [h]; exact hn1
    · rw [h]; exact hp1
    · rw [h]; exact hs1
  have s4 : StN p g4 := w4.get 0 rfl
  clear hR4 s3
  walk_at "s"
  refine s_next s4 (by decide) (by decide) fun v g5 hv s5 ag5 => ?_
  have w5 : Wd g5 [stN p, rgO K r n pp s [] [] []] := w4.chg 0 rfl ag5 s5.ok (fun a ha => .inl ha)
  walk_at "s"
  rw [show (2 : Int) + (v : Int) = ((2 + v : Nat) : Int) by omega]
  have hv5 : 2 + v ≤ 6 := by omega
  generalize 2 + v = num at hv5 ⊢
  have hq := val_hdX (v := .tup (hdX a b c d ns)) rfl hns (by omega) (by omega) (by omega) (by omega)
  have hx5 : (hdX a b c d ns)[5]? = some (.tq (ns.map Dv.int)) := rfl
  have hh1 : Sml ((a : Int) + 1) := ⟨by omega, by omega⟩
  refine w_sealed w5 hns (hd := .tup (hdX a b c d ns)) rfl rfl hx5 ⟨hh1, ⟨by omega, by omega⟩⟩ hq (by decide) (by decide) (by omega) fun P kvs ss sl os g6 ms hp6 hs6 hsub l6 l7 ho6 slp sd => ?_
  generalize hqd : hdP a b c d ns = q at *
  have hmq : q ∈ [q] := by simp
  have nmq : ((nmI [q] q : Nat) : Int) = 1 := by unfold nmI; simp
  have msn : ms.Pairwise (· < ·) := by
    have := hs6.and (hp6.nodup_iff.mpr hns.n)
    exact this.imp fun h => by omega
  have hss : ss.Pairwise (· < ·) := msn.sublist hsub
  have hsn : ∀ o ∈ ss, o ∈ ns := fun o ho => hp6.mem_iff.mp (hsub.subset ho)
  -- what the law asks of a certificate by these
  have ask : ∀ (ss ys : List Int) (sl : List (PyData × PyData)), ys.Sublist ss → ss.Pairwise (· < ·) → (∀ o ∈ ss, o ∈ ns ∧ ((.int o, bdyP "precommit" ((a : Int) + 1) num 1) : PyData × PyData) ∈ sl) → (AskOk sl ((a : Int) + 1) num 1 ns (ys.map Dv.int) ↔ quo ns.length ≤ ys.length) := fun ss ys sl h1 h2 h3 => by
    constructor
    · rintro ⟨os, e, h, _⟩
      rw [int_map e]
      exact h
    · intro h
      exact ⟨ys, rfl, h, h2.sublist h1, fun o ho => ⟨(hns.b o (h3 o (h1.subset ho)).1).1, (hns.b o (h3 o (h1.subset ho)).1).2, (h3 o (h1.subset ho)).1, (h3 o (h1.subset ho)).2⟩⟩
  have hpm := hp6.length_eq
  -- asking changes nothing
  have asks : ∀ {ss : List Int} {sl : List (PyData × PyData)} {os : List Int} {g' : Ah} {R' : DQ} {Y' : Xc}, Sd K p r n pp s P [q] sl ns kvs os g' → ss.length ≤ 20 → (∀ b1 : Bool, (b1 = true ↔ AskOk sl ((a : Int) + 1) num 1 ns (ss.map Dv.int)) → ∀ g2, Sd K p r n pp s P [q] sl ns kvs os g2 → R' (.bl b1) g2) →
      D_law_asked K [.ref r, .tup (hdX a b c d ns), .int (num : Int), .lst (ss.map Dv.int)] g' R' Y' := fun {ss sl os g' R' Y'} sd hl k => by
    refine w_asked sd.rg (gd_ints ss) (by rw [sz_ints]; omega) rfl (hd := .tup (hdX a b c d ns)) rfl rfl hx5 hh1 hq (by decide) (by decide) (by simp) (by omega) (by omega) hmq (by omega) fun b1 hb1 g7 hR7 ag7 => ?_
    rw [nmq] at hb1
    exact k b1 hb1 g7 (sd.name ag7 hR7)
  have hssl : ss.length ≤ 10 := by have := hsub.length_le; omega
  walk_at "s"
  refine asks sd (by omega) fun b1 hb1 g7 sd7 => ?_
  rw [ask ss ss sl (List.Sublist.refl _) hss (fun o ho => ⟨hsn o ho, (slp.m o).mpr ho⟩)] at hb1
  walk_at "s"
  refine w_quorum (xs := ns.map Dv.int) rfl (by rw [hnm]; omega) (by rw [hnm]; omega) ?_
  rw [hnm]
  walk_at "s"
  refine r_ifF (by
    have : b1 = decide (((quo ns.length : Nat) : Int) ≤ ((ss.map Dv.int).length : Int)) := by
      rw [List.length_map]
      cases b1 with
      | true => rw [decide_eq_true (by have := hb1.mp rfl; omega)]
      | false => rw [decide_eq_false (fun z => by have := hb1.mpr (by omega); cases this)]
    rw [this]
    simp) ?_
  walk_at "q"
  have hb2 : Val 1 390 (.tup [.str "precommit", .int ((a : Int) + 1), .int (num : Int), .int 1]) (bdyP "precommit" ((a : Int) + 1) num 1) := val_bdy (n := 0) (by simp) hh1 (by omega) ⟨by decide, by decide⟩
  have hq7 : quo ns.length ≤ 7 ∧ 3 ≤ quo ns.length ∧ quo ns.length ≤ ns.length := by unfold quo; omega
  with_reducible refine r_cutF (fun ev g' => ∃ ss sl, Sd K p r n pp s P [q] sl ns kvs os g' ∧ SlP ((a : Int) + 1) num 1 ss sl ∧ ss.Pairwise (· < ·) ∧ (∀ o ∈ ss, o ∈ ns) ∧ sl.length ≤ 40 ∧ ss.length ≤ 10 ∧ quo ns.length ≤ ss.length ∧ ∃ c0 c9, ev = [c0, some (.ref p), some (.tq (ns.map Dv.int)), some (.tup (hdX a b c d ns)), some (.ref r), some (.int (num : Int)), some (.ref P), some (bdyD "precommit" ((a : Int) + 1) num 1), some (.lst (ss.map Dv.int)), c9, none, none, none]) (fun N hN => ?_) ?_
  · walk_at "s"
    refine r_sortTI (ns := ns) rfl fun m2 hp2 _ => ?_
    walk_at "s"
    have hm2 := hp2.length_eq
    unfold forQ
    refine loop_rec (fun ds ev g' => ∃ pre rest ss sl, ds = rest.map Dv.int ∧ m2 = pre ++ rest ∧ Sd K p r n pp s P [q] sl ns kvs os g' ∧ SlP ((a : Int) + 1) num 1 ss sl ∧ ss.Pairwise (· < ·) ∧ (∀ o ∈ ss, o ∈ ns) ∧ sl.length + rest.length ≤ 40 ∧ ss.length ≤ 10 ∧ (quo ns.length ≤ ss.length ∨ ∀ o ∈ pre, o ∈ ss) ∧ ∃ c0 c9, ev = [c0, some (.ref p), some (.tq (ns.map Dv.int)), some (.tup (hdX a b c d ns)), some (.ref r), some (.int (num : Int)), some (.ref P), some (bdyD "precommit" ((a : Int) + 1) num 1), some (.lst (ss.map Dv.int)), c9, none, none, none]) ?_ ?_ ⟨[], m2, ss, sl, rfl, rfl, sd7, slp, hss, hsn, by omega, hssl, .inr fun o z => (nomatch z), _, _, rfl⟩
    · rintro ev g' ⟨pre, rest, ss, sl, e, em, sd', slp', h1, h2, h3, h4, h5, c0, c9, rfl⟩
      obtain rfl : rest = [] := List.map_eq_nil_iff.mp e.symm
      rw [List.append_nil] at em
      subst em
      refine ⟨trivial, hN _ _ ⟨ss, sl, sd', slp', h1, h2, by simpa using h3, h4, ?_, _, _, rfl⟩⟩
      rcases h5 with h5 | h5
      · exact h5
      · have := nodup_le (hp2.nodup_iff.mpr hns.n) h5
        omega
    · rintro x ds ev g' N2 ⟨pre, rest, ss, sl, e, em, sd', slp', h1, h2, h3, h4, h5, c0, c9, rfl⟩ hN2
      refine ⟨trivial, ?_⟩
      cases rest with
      | nil => cases e
      | cons o rest =>
        obtain ⟨rfl, rfl⟩ := List.cons.inj e
        rw [List.length_cons] at h3
        have hon : o ∈ ns := hp2.mem_iff.mp (by rw [em]; simp)
        have hem : m2 = (pre ++ [o]) ++ rest := by rw [em]; simp
        walk_at "s"
        refine w_quorum (xs := ns.map Dv.int) rfl (by rw [hnm]; omega) (by rw [hnm]; omega) ?_
        rw [hnm]
        walk_at "s"
        refine r_dec (fun c1 => ?_) (fun c1 => ?_)
        · rw [List.length_map] at c1
          walk_at "s"
          refine r_inLn (ns := ss) rfl ?_
          walk_at "s"
          by_cases ho : o ∈ ss
          · rw [decide_eq_true ho]
            refine r_ifF rfl ?_
            walk_at "s"
            refine hN2 _ _ ⟨pre ++ [o], rest, ss, sl, rfl, hem, sd', slp', h1, h2, by omega, h4, .inr fun y hy => ?_, _, _, rfl⟩
            rcases List.mem_append.mp hy with hy | hy
            · rcases h5 with h5 | h5
              · omega
              · exact h5 y hy
            · cases List.mem_singleton.mp hy
              exact ho
          · rw [decide_eq_false ho]
            refine r_ifT rfl ?_
            obtain ⟨ad, hval, hpen⟩ := sd'.pn o hon
            have edd := vw_dctE sd'.d
            walk_at "s"
            refine r_ixD edd rfl hval ?_
            have hbo := hns.b o hon
            have hpen' : g' ad = some (.ins (He.ga K "Pen") [("owner", .int o), ("_registry", .ref r)]) := hpen
            walk_at "s"
            refine s_seal sd'.rg hpen (by omega) hb2 (by decide) (by decide) (by omega) fun g8 hR8 ag8 => ?_
            have sd8 := sd'.seal ag8 hR8
            walk_at "s"
            refine r_sortI (ns := ss ++ [o]) (by show Dv.lst _ = _; rw [List.map_append]; rfl) fun ys hys hyp => ?_
            refine r_nF ?_
            have hysm : ∀ y, y ∈ ys ↔ y ∈ ss ++ [o] := fun y => hys.mem_iff
            have hyl : ys.length = ss.length + 1 := by rw [hys.length_eq]; simp
            have hyn : ys.Nodup := by
              rw [hys.nodup_iff]
              refine List.nodup_append.mpr ⟨h1.imp fun h e => by omega, by simp, fun x hx y hy e => ?_⟩
              cases List.mem_singleton.mp hy
              exact ho (e ▸ hx)
            have hy1 : ys.Pairwise (· < ·) := (hyp.and hyn).imp fun h => by omega
            have hy2 : ∀ y ∈ ys, y ∈ ns := fun y hy => by
              rcases List.mem_append.mp ((hysm y).mp hy) with hy | hy
              · exact h2 y hy
              · cases List.mem_singleton.mp hy
                exact hon
            have slp8 := (slp'.add o).cong hysm
            walk_at "s"
            refine asks sd8 (by omega) fun b2 hb2' g9 sd9 => ?_
            rw [ask ys ys _ (List.Sublist.refl _) hy1 (fun o ho => ⟨hy2 o ho, (slp8.m o).mpr ho⟩)] at hb2'
            walk_at "s"
            refine w_quorum (xs := ns.map Dv.int) rfl (by rw [hnm]; omega) (by rw [hnm]; omega) ?_
            rw [hnm]
            walk_at "s"
            refine r_ifF (by
              have : b2 = decide (((quo ns.length : Nat) : Int) ≤ ((ys.map Dv.int).length : Int)) := by
                rw [List.length_map]
                cases b2 with
                | true => rw [decide_eq_true (by have := hb2'.mp rfl; omega)]
                | false => rw [decide_eq_false (fun z => by have := hb2'.mpr (by omega); cases this)]
              rw [this]
              simp) ?_
            walk_at "s"
            refine hN2 _ _ ⟨pre ++ [o], rest, ys, _, rfl, hem, sd9, slp8, hy1, hy2, by simp; omega, by omega, .inr fun y hy => (hysm y).mpr ?_, _, _, rfl⟩
            rcases List.mem_append.mp hy with hy | hy
            · rcases h5 with h5 | h5
              · omega
              · exact List.mem_append_left _ (h5 y hy)
            · exact List.mem_append_right _ hy
        · rw [List.length_map] at c1
          walk_at "s"
          exact hN2 _ _ ⟨pre ++ [o], rest, ss, sl, rfl, hem, sd', slp', h1, h2, by omega, h4, .inl (by omega), _, _, rfl⟩
  · rintro ev g' ⟨ss, sl, sd', slp', h1, h2, h3, h4, h5, c0, c9, rfl⟩
    have hnl10 : ns.length ≤ 10 := by omega
    walk_at "s"
    refine w_quorum (xs := ns.map Dv.int) rfl (by rw [hnm]; omega) (by rw [hnm]; omega) ?_
    rw [hnm]
    walk_at "s"
    rw [show ((((ss.map Dv.int).length : Nat) : Int) - ((quo ns.length : Nat) : Int)) = ((ss.length - quo ns.length : Nat) : Int) by rw [List.length_map]; omega, cutQ_from, ← List.map_drop]
    walk_at "s"
    refine comp_pure ((List.range 200).map fun (i : Nat) => (400 : Int) + (i : Int)) Dv.int (fun o => !decide (o ∈ ns)) Dv.int (rngD_map2 200 400) (by rw [List.length_map, List.length_range]; decide) (fun _ _ => trivial) (fun x hx g2 N' MM ag2 hN' hM => ?_) fun g8 ag8 => ?_
    · walk_at "s"
      refine r_inN (ns := ns) rfl ?_
      walk_at "s"
      by_cases h : x ∈ ns
      · rw [decide_eq_true h]
        refine r_ifF rfl ?_
        exact hN' (by simp [h]) _ .refl
      · rw [decide_eq_false h]
        refine r_ifT rfl ?_
        walk_at "s"
        exact hM (by simp [h]) _ .refl
    have sd8 := sd'.agr0 ag8
    have hst := strg_len (ns := ns) hnl10
    walk_at "s"
    refine s_next sd8.st (by decide) (by decide) fun v2 g9 hv2 s9 ag9 => ?_
    have sd9 := sd8.next ag9 s9
    refine r_ixOf rfl (by omega) (by rw [List.length_map]; show (v2 : Int) < ((strg ns).length : Int); omega) fun x hx => ?_
    obtain ⟨st, hst', rfl⟩ := List.mem_map.mp hx
    have hst' : st ∈ strg ns := hst'
    obtain ⟨t1, t2, t3⟩ := strg_mem hst'
    have eo9 := sd9.rg.eo
    walk_at "s"
    refine s_pen st sd9.rg (by omega) (fun _ a10 g10 hf hpen hR10 ag10 => ?_) (fun z => absurd (ho6 st z) t1)
    have sd10 := sd9.pen ag10 hR10
    have hpen' : g10 a10 = some (.ins (He.ga K "Pen") [("owner", .int st), ("_registry", .ref r)]) := hpen
    walk_at "s"
    refine s_seal sd10.rg hpen (by omega) hb2 (by decide) (by decide) (by omega) fun g11 hR11 ag11 => ?_
    have sd11 := sd10.seal ag11 hR11
    have slp11 := slp'.add st
    walk_at "s"
    refine asks (ss := ss.drop (ss.length - quo ns.length)) sd11 (by rw [List.length_drop]; omega) fun b1 hb1 g12 sd12 => ?_
    rw [ask ss _ _ (List.drop_sublist _ _) h1 (fun o ho => ⟨h2 o ho, (slp11.m o).mpr (by simp [ho])⟩)] at hb1
    have : b1 = true := hb1.mpr (by rw [List.length_drop]; omega)
    subst this
    walk_at "s"
    refine r_isBl ?_
    walk_at "s"
    refine r_ifT rfl ?_
    walk_at "s"
    refine w_wrong hns ha hb hc hd sd12.w.two hq (by decide) (by decide) (by omega) h1 h2 h5 h4 t1 (fun o => by rw [slp11.m]; simp) slp11.o fun g' => ?_
    rfl
def d_is_within : He.DefD := ⟨("is_within", none), "is_within", "is_within", defArgs s_is_within, defBody s_is_within, defScope s_is_within, [], []⟩
def d_is_plain : He.DefD := ⟨("is_plain", none), "is_plain", "is_plain", defArgs s_is_plain, defBody s_is_plain, defScope s_is_plain, [], []⟩
def d_Pen__init_ : He.DefD := ⟨("Pen", some "__init__"), "__init__", "Pen.__init__", defArgs s_Pen__init_, defBody s_Pen__init_, defScope s_Pen__init_, [], []⟩
def d_Pen_seal : He.DefD := ⟨("Pen", some "seal"), "seal", "Pen.seal", defArgs s_Pen_seal, defBody s_Pen_seal, defScope s_Pen_seal, [], []⟩
def d_Registry__init_ : He.DefD := ⟨("Registry", some "__init__"), "__init__", "Registry.__init__", defArgs s_Registry__init_, defBody s_Registry__init_, defScope s_Registry__init_, [], []⟩
def d_Registry_name : He.DefD := ⟨("Registry", some "name"), "name", "Registry.name", defArgs s_Registry_name, defBody s_Registry_name, defScope s_Registry_name, [], []⟩
def d_Registry_pen : He.DefD := ⟨("Registry", some "pen"), "pen", "Registry.pen", defArgs s_Registry_pen, defBody s_Registry_pen, defScope s_Registry_pen, [], []⟩
def d_Registry_note_seal : He.DefD := ⟨("Registry", some "note_seal"), "note_seal", "Registry.note_seal", defArgs s_Registry_note_seal, defBody s_Registry_note_seal, defScope s_Registry_note_seal, [], []⟩
def d_Registry_is_sealed : He.DefD := ⟨("Registry", some "is_sealed"), "is_sealed", "Registry.is_sealed", defArgs s_Registry_is_sealed, defBody s_Registry_is_sealed, defScope s_Registry_is_sealed, [], []⟩
def d_is_count : He.DefD := ⟨("is_count", none), "is_count", "is_count", defArgs s_is_count, defBody s_is_count, defScope s_is_count, [], []⟩
def d_is_row_of : He.DefD := ⟨("is_row_of", none), "is_row_of", "is_row_of", defArgs s_is_row_of, defBody s_is_row_of, defScope s_is_row_of, [], []⟩
def d_are_owners : He.DefD := ⟨("are_owners", none), "are_owners", "are_owners", defArgs s_are_owners, defBody s_are_owners, defScope s_are_owners, [], []⟩
def d_is_natural : He.DefD := ⟨("is_natural", none), "is_natural", "is_natural", defArgs s_is_natural, defBody s_is_natural, defScope s_is_natural, [], []⟩
def d_is_header : He.DefD := ⟨("is_header", none), "is_header", "is_header", defArgs s_is_header, defBody s_is_header, defScope s_is_header, [], []⟩
def d_quorum : He.DefD := ⟨("quorum", none), "quorum", "quorum", defArgs s_quorum, defBody s_quorum, defScope s_quorum, [], []⟩
def d_is_certificate : He.DefD := ⟨("is_certificate", none), "is_certificate", "is_certificate", defArgs s_is_certificate, defBody s_is_certificate, defScope s_is_certificate, [], []⟩
def d_law_next : He.DefD := ⟨("_law_next", none), "_law_next", "_law_next", defArgs s_law_next, defBody s_law_next, defScope s_law_next, [], []⟩
def d_law_owners : He.DefD := ⟨("_law_owners", none), "_law_owners", "_law_owners", defArgs s_law_owners, defBody s_law_owners, defScope s_law_owners, [], []⟩
def d_law_with : He.DefD := ⟨("_law_with", none), "_law_with", "_law_with", defArgs s_law_with, defBody s_law_with, defScope s_law_with, [], []⟩
def d_law_header : He.DefD := ⟨("_law_header", none), "_law_header", "_law_header", defArgs s_law_header, defBody s_law_header, defScope s_law_header, [], []⟩
def d_law_bad_headers : He.DefD := ⟨("_law_bad_headers", none), "_law_bad_headers", "_law_bad_headers", defArgs s_law_bad_headers, defBody s_law_bad_headers, defScope s_law_bad_headers, [], []⟩
def d_law_forms : He.DefD := ⟨("_law_forms", none), "_law_forms", "_law_forms", defArgs s_law_forms, defBody s_law_forms, defScope s_law_forms, [], []⟩
def d_law_sealed : He.DefD := ⟨("_law_sealed", none), "_law_sealed", "_law_sealed", defArgs s_law_sealed, defBody s_law_sealed, defScope s_law_sealed, [], []⟩
def d_law_asked : He.DefD := ⟨("_law_asked", none), "_law_asked", "_law_asked", defArgs s_law_asked, defBody s_law_asked, defScope s_law_asked, [], []⟩
def d_law_wrong : He.DefD := ⟨("_law_wrong", none), "_law_wrong", "_law_wrong", defArgs s_law_wrong, defBody s_law_wrong, defScope s_law_wrong, [], []⟩
def d_law : He.DefD := ⟨("law", none), "law", "law", defArgs s_law, defBody s_law, defScope s_law, [], []⟩
def fn : List He.DefD := [d_is_within, d_is_plain, d_Pen__init_, d_Pen_seal, d_Registry__init_, d_Registry_name, d_Registry_pen, d_Registry_note_seal, d_Registry_is_sealed, d_is_count, d_is_row_of, d_are_owners, d_is_natural, d_is_header, d_quorum, d_is_certificate, d_law_next, d_law_owners, d_law_with, d_law_header, d_law_bad_headers, d_law_forms, d_law_sealed, d_law_asked, d_law_wrong, d_law]
def fa : List He.Fa := [.glo "is_within", .glo "is_plain", .mkr "Pen", .meth "Pen" "seal", .mkr "Registry", .meth "Registry" "name", .meth "Registry" "pen", .meth "Registry" "note_seal", .meth "Registry" "is_sealed", .glo "is_count", .glo "is_row_of", .glo "are_owners", .glo "is_natural", .glo "is_header", .glo "quorum", .glo "is_certificate", .glo "_law_next", .glo "_law_owners", .glo "_law_with", .glo "_law_header", .glo "_law_bad_headers", .glo "_law_forms", .glo "_law_sealed", .glo "_law_asked", .glo "_law_wrong", .glo "law", .glo "TrothError", .glo "InvalidArgument", .glo "Pen", .cls "Pen", .glo "Registry", .cls "Registry", .int "MOST_DEEP" 30, .int "MOST_INTEGER" 1000000000000000000000000000000000000000000000000000000000000, .int "MOST_OWNER" 999, .free "ValueError", .free "abs", .free "bool", .free "int", .free "isinstance", .free "len", .free "list", .free "range", .free "repr", .free "sorted", .free "str", .free "tuple"]
def exs : List (PySem.W.Frag → Bool) := [fun K => He.Fa.ok K (.cls "Pen"), fun K => He.Fa.ok K (.noat "Pen" "owner"), fun K => He.Fa.ok K (.noat "Pen" "_registry"), fun K => He.Fa.ok K (.cls "Registry"), fun K => He.Fa.ok K (.noat "Registry" "_names"), fun K => He.Fa.ok K (.noat "Registry" "_pens"), fun K => He.Fa.ok K (.noat "Registry" "_seals"), fun K => He.Fa.ok K (.exc "TrothError"), fun K => xcB K "TrothError", fun K => kiVB K "TrothError", fun K => He.Fa.ok K (.exm "TrothError" "TrothError" true), fun K => kiB K "TrothError" "TrothError" true, fun K => He.Fa.ok K (.exm "TrothError" "InvalidArgument" false), fun K => kiB K "TrothError" "InvalidArgument" false, fun K => He.Fa.ok K (.exc "InvalidArgument"), fun K => xcB K "InvalidArgument", fun K => kiVB K "InvalidArgument", fun K => He.Fa.ok K (.exm "InvalidArgument" "TrothError" true), fun K => kiB K "InvalidArgument" "TrothError" true, fun K => He.Fa.ok K (.exm "InvalidArgument" "InvalidArgument" true), fun K => kiB K "InvalidArgument" "InvalidArgument" true]
def ex (K : PySem.W.Frag) : Bool := exs.all fun f => f K
theorem txt_of {K : PySem.W.Frag} {h : Heap} {mg : Str → Option Value} (X : K.In h) (G : h.Ns mainGlobals mg) (c : He.SaysD fa fn K) (cx : ex K = true) : Txt K mg where
  f_is_within := by obtain ⟨fd, F⟩ := c.def_ 0 (d := d_is_within) rfl; exact ⟨_, fd, F, He.glo_ok X G (c.fact 0 (f := .glo "is_within") rfl)⟩
  f_is_plain := by obtain ⟨fd, F⟩ := c.def_ 1 (d := d_is_plain) rfl; exact ⟨_, fd, F, He.glo_ok X G (c.fact 1 (f := .glo "is_plain") rfl)⟩
  f_Pen__init_ := by obtain ⟨fd, F⟩ := c.def_ 2 (d := d_Pen__init_) rfl; exact ⟨_, fd, F, He.mkr_ok (c.fact 2 (f := .mkr "Pen") rfl), He.glo_ok X G (c.fact 28 (f := .glo "Pen") rfl)⟩
  f_Pen_seal := by obtain ⟨fd, F⟩ := c.def_ 3 (d := d_Pen_seal) rfl; exact ⟨_, fd, F, He.cls_ok (c.fact 29 (f := .cls "Pen") rfl), He.meth_ok (c.fact 3 (f := .meth "Pen" "seal") rfl)⟩
  f_Registry__init_ := by obtain ⟨fd, F⟩ := c.def_ 4 (d := d_Registry__init_) rfl; exact ⟨_, fd, F, He.mkr_ok (c.fact 4 (f := .mkr "Registry") rfl), He.glo_ok X G (c.fact 30 (f := .glo "Registry") rfl)⟩
  f_Registry_name := by obtain ⟨fd, F⟩ := c.def_ 5 (d := d_Registry_name) rfl; exact ⟨_, fd, F, He.cls_ok (c.fact 31 (f := .cls "Registry") rfl), He.meth_ok (c.fact 5 (f := .meth "Registry" "name") rfl)⟩
  f_Registry_pen := by obtain ⟨fd, F⟩ := c.def_ 6 (d := d_Registry_pen) rfl; exact ⟨_, fd, F, He.cls_ok (c.fact 31 (f := .cls "Registry") rfl), He.meth_ok (c.fact 6 (f := .meth "Registry" "pen") rfl)⟩
  f_Registry_note_seal := by obtain ⟨fd, F⟩ := c.def_ 7 (d := d_Registry_note_seal) rfl; exact ⟨_, fd, F, He.cls_ok (c.fact 31 (f := .cls "Registry") rfl), He.meth_ok (c.fact 7 (f := .meth "Registry" "note_seal") rfl)⟩
  f_Registry_is_sealed := by obtain ⟨fd, F⟩ := c.def_ 8 (d := d_Registry_is_sealed) rfl; exact ⟨_, fd, F, He.cls_ok (c.fact 31 (f := .cls "Registry") rfl), He.meth_ok (c.fact 8 (f := .meth "Registry" "is_sealed") rfl)⟩
  f_is_count := by obtain ⟨fd, F⟩ := c.def_ 9 (d := d_is_count) rfl; exact ⟨_, fd, F, He.glo_ok X G (c.fact 9 (f := .glo "is_count") rfl)⟩
  f_is_row_of := by obtain ⟨fd, F⟩ := c.def_ 10 (d := d_is_row_of) rfl; exact ⟨_, fd, F, He.glo_ok X G (c.fact 10 (f := .glo "is_row_of") rfl)⟩
  f_are_owners := by obtain ⟨fd, F⟩ := c.def_ 11 (d := d_are_owners) rfl; exact ⟨_, fd, F, He.glo_ok X G (c.fact 11 (f := .glo "are_owners") rfl)⟩
  f_is_natural := by obtain ⟨fd, F⟩ := c.def_ 12 (d := d_is_natural) rfl; exact ⟨_, fd, F, He.glo_ok X G (c.fact 12 (f := .glo "is_natural") rfl)⟩
  f_is_header := by obtain ⟨fd, F⟩ := c.def_ 13 (d := d_is_header) rfl; exact ⟨_, fd, F, He.glo_ok X G (c.fact 13 (f := .glo "is_header") rfl)⟩
  f_quorum := by obtain ⟨fd, F⟩ := c.def_ 14 (d := d_quorum) rfl; exact ⟨_, fd, F, He.glo_ok X G (c.fact 14 (f := .glo "quorum") rfl)⟩
  f_is_certificate := by obtain ⟨fd, F⟩ := c.def_ 15 (d := d_is_certificate) rfl; exact ⟨_, fd, F, He.glo_ok X G (c.fact 15 (f := .glo "is_certificate") rfl)⟩
  f_law_next := by obtain ⟨fd, F⟩ := c.def_ 16 (d := d_law_next) rfl; exact ⟨_, fd, F, He.glo_ok X G (c.fact 16 (f := .glo "_law_next") rfl)⟩
  f_law_owners := by obtain ⟨fd, F⟩ := c.def_ 17 (d := d_law_owners) rfl; exact ⟨_, fd, F, He.glo_ok X G (c.fact 17 (f := .glo "_law_owners") rfl)⟩
  f_law_with := by obtain ⟨fd, F⟩ := c.def_ 18 (d := d_law_with) rfl; exact ⟨_, fd, F, He.glo_ok X G (c.fact 18 (f := .glo "_law_with") rfl)⟩
  f_law_header := by obtain ⟨fd, F⟩ := c.def_ 19 (d := d_law_header) rfl; exact ⟨_, fd, F, He.glo_ok X G (c.fact 19 (f := .glo "_law_header") rfl)⟩
  f_law_bad_headers := by obtain ⟨fd, F⟩ := c.def_ 20 (d := d_law_bad_headers) rfl; exact ⟨_, fd, F, He.glo_ok X G (c.fact 20 (f := .glo "_law_bad_headers") rfl)⟩
  f_law_forms := by obtain ⟨fd, F⟩ := c.def_ 21 (d := d_law_forms) rfl; exact ⟨_, fd, F, He.glo_ok X G (c.fact 21 (f := .glo "_law_forms") rfl)⟩
  f_law_sealed := by obtain ⟨fd, F⟩ := c.def_ 22 (d := d_law_sealed) rfl; exact ⟨_, fd, F, He.glo_ok X G (c.fact 22 (f := .glo "_law_sealed") rfl)⟩
  f_law_asked := by obtain ⟨fd, F⟩ := c.def_ 23 (d := d_law_asked) rfl; exact ⟨_, fd, F, He.glo_ok X G (c.fact 23 (f := .glo "_law_asked") rfl)⟩
  f_law_wrong := by obtain ⟨fd, F⟩ := c.def_ 24 (d := d_law_wrong) rfl; exact ⟨_, fd, F, He.glo_ok X G (c.fact 24 (f := .glo "_law_wrong") rfl)⟩
  f_law := by obtain ⟨fd, F⟩ := c.def_ 25 (d := d_law) rfl; exact ⟨_, fd, F, He.glo_ok X G (c.fact 25 (f := .glo "law") rfl)⟩
  g_MOST_DEEP := by obtain ⟨t, e⟩ := He.int_ok X G (c.fact 32 (f := .int "MOST_DEEP" 30) rfl); exact ⟨_, e, t, rfl⟩
  g_MOST_INTEGER := by obtain ⟨t, e⟩ := He.int_ok X G (c.fact 33 (f := .int "MOST_INTEGER" 1000000000000000000000000000000000000000000000000000000000000) rfl); exact ⟨_, e, t, rfl⟩
  g_MOST_OWNER := by obtain ⟨t, e⟩ := He.int_ok X G (c.fact 34 (f := .int "MOST_OWNER" 999) rfl); exact ⟨_, e, t, rfl⟩
  z_ValueError := He.free_ok X G (c.fact 35 (f := .free "ValueError") rfl)
  z_abs := He.free_ok X G (c.fact 36 (f := .free "abs") rfl)
  z_bool := He.free_ok X G (c.fact 37 (f := .free "bool") rfl)
  z_int := He.free_ok X G (c.fact 38 (f := .free "int") rfl)
  z_isinstance := He.free_ok X G (c.fact 39 (f := .free "isinstance") rfl)
  z_len := He.free_ok X G (c.fact 40 (f := .free "len") rfl)
  z_list := He.free_ok X G (c.fact 41 (f := .free "list") rfl)
  z_range := He.free_ok X G (c.fact 42 (f := .free "range") rfl)
  z_repr := He.free_ok X G (c.fact 43 (f := .free "repr") rfl)
  z_sorted := He.free_ok X G (c.fact 44 (f := .free "sorted") rfl)
  z_str := He.free_ok X G (c.fact 45 (f := .free "str") rfl)
  z_tuple := He.free_ok X G (c.fact 46 (f := .free "tuple") rfl)
  g_TrothError := He.glo_ok X G (c.fact 26 (f := .glo "TrothError") rfl)
  g_InvalidArgument := He.glo_ok X G (c.fact 27 (f := .glo "InvalidArgument") rfl)
  g_Pen := He.glo_ok X G (c.fact 28 (f := .glo "Pen") rfl)
  g_Registry := He.glo_ok X G (c.fact 30 (f := .glo "Registry") rfl)
  c_Pen := He.cls_ok (ex_at (exs := exs) cx 0)
  n_Pen_owner := He.noat_ok (ex_at (exs := exs) cx 1)
  n_Pen_registry := He.noat_ok (ex_at (exs := exs) cx 2)
  c_Registry := He.cls_ok (ex_at (exs := exs) cx 3)
  n_Registry_names := He.noat_ok (ex_at (exs := exs) cx 4)
  n_Registry_pens := He.noat_ok (ex_at (exs := exs) cx 5)
  n_Registry_seals := He.noat_ok (ex_at (exs := exs) cx 6)
  x_TrothError := He.exc_ok (ex_at (exs := exs) cx 7)
  xc_TrothError := xcB_ok (ex_at (exs := exs) cx 8)
  kv_TrothError := kiVB_ok (ex_at (exs := exs) cx 9)
  e_TrothError_TrothError := He.exm_ok (ex_at (exs := exs) cx 10)
  k_TrothError_TrothError := kiB_ok (ex_at (exs := exs) cx 11)
  e_TrothError_InvalidArgument := He.exm_ok (ex_at (exs := exs) cx 12)
  k_TrothError_InvalidArgument := kiB_ok (ex_at (exs := exs) cx 13)
  x_InvalidArgument := He.exc_ok (ex_at (exs := exs) cx 14)
  xc_InvalidArgument := xcB_ok (ex_at (exs := exs) cx 15)
  kv_InvalidArgument := kiVB_ok (ex_at (exs := exs) cx 16)
  e_InvalidArgument_TrothError := He.exm_ok (ex_at (exs := exs) cx 17)
  k_InvalidArgument_TrothError := kiB_ok (ex_at (exs := exs) cx 18)
  e_InvalidArgument_InvalidArgument := He.exm_ok (ex_at (exs := exs) cx 19)
  k_InvalidArgument_InvalidArgument := kiB_ok (ex_at (exs := exs) cx 20)
def loose : List Str := (["TrothError", "InvalidArgument", "MOST_DEEP", "MOST_INTEGER", "is_within", "is_plain", "Pen", "Registry", "is_count", "is_row_of", "MOST_OWNER", "are_owners", "is_natural", "is_header", "quorum", "is_certificate", "_law_next", "_law_owners", "_law_with", "_law_header", "_law_bad_headers", "_law_forms", "_law_sealed", "_law_asked", "_law_wrong"] : List Str)
abbrev R : PySem.W.OpenRow := PySem.W.OpenLaw.row PySem.Challenge.rw_steadwhole_k80_headers_and_certificates
abbrev hk : PySem.W.Hook := hookX 5 fa fn ex
def ob (s : PySem.W.SharedT) : He.AlD × Bool := obsX 5 fa fn ex (HandSHeadRun.getT s)
theorem ob_eq (s : PySem.W.SharedT) : ob s = hk.obs s.abs := obsX_eq (HandSHeadRun.getT_eq s)
theorem run (w : World) : HandSHeadRun.RunEq R (PySem.W.view R.prog [30]) hk ob 4000 loose w := by
  intro os
  kernel_rfl
abbrev sp_law (K : PySem.W.Frag) : Sp := fun vs H Q _ => spL K (D_law K) vs H Q E0

end Z
open PySem PySem.W PySem.Calls PyProof.Rows
theorem PySem.Challenge.cw_steadwhole_k80_headers_and_certificates_holds : PySem.Challenge.rw_steadwhole_k80_headers_and_certificates.Holds := by
  w_on; o_law
  refine HandSHeadRun.head_any (r := OpenLaw.row PySem.Challenge.rw_steadwhole_k80_headers_and_certificates) (q := view (OpenLaw.row PySem.Challenge.rw_steadwhole_k80_headers_and_certificates).prog [30]) (H := Z.hk) (ob := Z.ob) (M := 4000) (loose := Z.loose) (d := HandSHeadRun.topDef (OpenLaw.row PySem.Challenge.rw_steadwhole_k80_headers_and_certificates).prog 30) (kwd := []) Z.ob_eq
    (by kernel_rfl) (fun s => by kernel_rfl) Z.run (by kernel_rfl) (by kernel_rfl) (by kernel_rfl) (by rfl) (by first | assumption | decide +kernel) (by decide +kernel) ⟨rfl, rfl, rfl, rfl, rfl, by decide +kernel⟩ ?hw ?hc
  case hw => w_witness2
  case hc =>
    refine Z.walk_ofG (l := PySem.Challenge.rw_steadwhole_k80_headers_and_certificates) (n := 63) (k := 6) (x := "script") rfl (by decide) (by kernel_rfl) ⟨rfl, by decide, by decide⟩ ?F
    intro w mg fa h Y G hmg0
    obtain ⟨K, KX, c, cx⟩ := Y
    have hmg : mg ("law" : PySem.Str) = some (.ref fa) := by
      have e : (HandSHeadRun.topDef (OpenLaw.row PySem.Challenge.rw_steadwhole_k80_headers_and_certificates).prog 30).name = ("law" : PySem.Str) := by kernel_rfl
      rw [← e]
      exact hmg0
    have T : Z.Txt K mg := Z.txt_of KX G c cx
    obtain ⟨fd, hb, hF⟩ := Z.law_end (P := (PySem.Challenge.rw_steadwhole_k80_headers_and_certificates).prog) (w := w) T hmg
    exact ⟨K, fd, Z.sp_law K, KX, hb, fun H a ns hl hO hS => Z.law_spL hO hS (Z.law_holds T ns hl), hF⟩

