import PyProof.Rows.All
import Wide.All
import OpenK.AllK
import Wide.FinOn
import HandS.ForMost
import HandS.Text
import HandS.Codes
import HandS.Defaults
import HandS.IsInst
import HandS.Style
import HandS.Head0
import HandS.Head1
import HandS.Head2
import HandS.HeadEnd
import HandS.HeadHook1
import HandS.HeadHook2
import HandS.Wide
import HandS.TupLe
import HandS.Strs
import HandS.TupAny
import HandS.TupMul
import HandS.Iter
import PyProof.StrBlock2
import PyProof.P3In
import KE.KxText
import PySem.Challenge.RW_steadwhole_k75_forms_of_statements_on_ta
set_option Elab.async false
set_option linter.all false
set_option maxRecDepth 100000
set_option maxHeartbeats 4000000
namespace Z
/-! ### the layer of this claim: defs by names, short rules of reading -/
open PySem PySem.Spec PyProof.Rows L2
set_option autoImplicit false
abbrev BindAll (x qual : Str) (st : Stmt) (ps : List Str) : Prop := ∀ (kV doc pm : Value) (an : Option Addr) (cdv ct : Value) (us : List Value), us.length = ps.length →
  bindArgs (PySem.W.fnOf x qual (defArgs st) (defBody st) (defScope st) .none kV doc pm an cdv ct) ⟨us, []⟩ = pure (ps.zip us)
structure GFun (K : PySem.W.Frag) (mg : Str → Option Value) (x : Str) (st : Stmt) : Prop where
  ex : ∃ (f : Addr) (fd : FuncData), FunD K x x (defArgs st) (defBody st) (defScope st) [] [] f fd ∧ mg x = some (.ref f)
structure GMet (K : PySem.W.Frag) (C : Addr) (m qual : Str) (st : Stmt) : Prop where
  ex : ∃ (f : Addr) (fd : FuncData), FunD K m qual (defArgs st) (defBody st) (defScope st) [] [] f fd ∧ Cls K C ∧ Meth K C m f
/-- a def that may be called by its name (CX: what it may let out) -/
structure CalX (CX : CXT) (P : Program) (w : World) (K : PySem.W.Frag) (mg : Str → Option Value) (base : Heap) (k : Nat) (x : Str) (sp : Sp) (dvs : List V) : Prop where
  ex : ∃ (f : Addr) (fd : FuncData) (ps : List Str) (ds : List Value), FnOk P w K mg base CX k f fd ps sp ∧ mg x = some (.ref f) ∧ PySem.W.keepIn K (.ref f) = true ∧ Binds K fd ps ds ∧ Vals dvs ds
structure MetX (CX : CXT) (P : Program) (w : World) (K : PySem.W.Frag) (mg : Str → Option Value) (base : Heap) (k : Nat) (C : Addr) (m : Str) (sp : Sp) (dvs : List V) : Prop where
  ex : ∃ (f : Addr) (fd : FuncData) (ps : List Str) (ds : List Value), Cls K C ∧ Meth K C m f ∧ FnOk P w K mg base CX k f fd ps sp ∧ Binds K fd ps ds ∧ Vals dvs ds
structure MakX (CX : CXT) (P : Program) (w : World) (K : PySem.W.Frag) (mg : Str → Option Value) (base : Heap) (k : Nat) (x : Str) (C : Addr) (sp : Sp) (dvs : List V) : Prop where
  ex : ∃ (f : Addr) (fd : FuncData) (ps : List Str) (ds : List Value), Mk K C f ∧ FnOk P w K mg base CX k f fd ps sp ∧ mg x = some (.ref C) ∧ Binds K fd ps ds ∧ Vals dvs ds
abbrev Cal := CalX CX0
abbrev Met := MetX CX0
abbrev Mak := MakX CX0
section
variable {P : Program} {w : World} {K : PySem.W.Frag} {mg : Str → Option Value} {base : Heap} {x qual m : Str} {st : Stmt} {N ps : List Str} {k : Nat} {sp : Sp} {C : Addr}
theorem fnd_ok {f : Addr} {fd : FuncData} (F : FunD K x qual (defArgs st) (defBody st) (defScope st) [] [] f fd) (S : FnScope N ps (defScope st)) (len : ∀ vs H Q E, sp vs H Q E → vs.length = ps.length)
    (hbody : ∀ (cdv : Value) (A : Around) (outer : List Env) (s : Shared) (H : Hp) (vs : List V) (Q : VK) (E : XK), Room k (A.deeper (envOfC qual (defScope st) s.heap.objs.size f cdv)) → sp vs H Q E →
      ∃ t, PSs (cxOf CX0 P w K mg base N qual (defScope st) f cdv A outer s H E).nox (defBody st) t ∧ t { nx := fun _ H' => Q .non H', rt := Q } (start N vs) H) : FnOk P w K mg base CX0 (k + 1) f fd ps sp :=
  F.ok S len fun cdv A outer s H vs Q E hr h => by
    obtain ⟨t, h1, h2⟩ := hbody cdv A outer s H vs Q E hr h
    exact ⟨t, h1.nox, h2⟩
theorem GFun.cal (g : GFun K mg x st) (S : FnScope N ps (defScope st)) (b : BindAll x x st ps) (len : ∀ vs H Q E, sp vs H Q E → vs.length = ps.length)
    (hbody : ∀ (f : Addr) (cdv : Value) (A : Around) (outer : List Env) (s : Shared) (H : Hp) (vs : List V) (Q : VK) (E : XK), Room k (A.deeper (envOfC x (defScope st) s.heap.objs.size f cdv)) → sp vs H Q E →
      ∃ t, PSs (cxOf CX0 P w K mg base N x (defScope st) f cdv A outer s H E).nox (defBody st) t ∧ t { nx := fun _ H' => Q .non H', rt := Q } (start N vs) H) : Cal P w K mg base (k + 1) x sp [] := by
  obtain ⟨f, fd, F, hm⟩ := g.ex
  exact ⟨f, fd, ps, [], fnd_ok F S len (hbody f), hm, F.kp, F.bindsN b, .nil⟩
theorem GMet.met (g : GMet K C m qual st) (S : FnScope N ps (defScope st)) (b : BindAll m qual st ps) (len : ∀ vs H Q E, sp vs H Q E → vs.length = ps.length)
    (hbody : ∀ (f : Addr) (cdv : Value) (A : Around) (outer : List Env) (s : Shared) (H : Hp) (vs : List V) (Q : VK) (E : XK), Room k (A.deeper (envOfC qual (defScope st) s.heap.objs.size f cdv)) → sp vs H Q E →
      ∃ t, PSs (cxOf CX0 P w K mg base N qual (defScope st) f cdv A outer s H E).nox (defBody st) t ∧ t { nx := fun _ H' => Q .non H', rt := Q } (start N vs) H) : Met P w K mg base (k + 1) C m sp [] := by
  obtain ⟨f, fd, F, c, hm⟩ := g.ex
  exact ⟨f, fd, ps, [], c, hm, fnd_ok F S len (hbody f), F.bindsN b, .nil⟩
theorem GFun.law {fa : Addr} (g : GFun K mg "law" st) (hmg : mg "law" = some (.ref fa)) (S : FnScope N ["script"] (defScope st)) (b : BindAll "law" "law" st ["script"]) (len : ∀ vs H Q E, sp vs H Q E → vs.length = 1)
    (hbody : ∀ (base : Heap) (f : Addr) (cdv : Value) (A : Around) (outer : List Env) (s : Shared) (H : Hp) (vs : List V) (Q : VK) (E : XK), Room k (A.deeper (envOfC "law" (defScope st) s.heap.objs.size f cdv)) → sp vs H Q E →
      ∃ t, PSs (cxOf CX0 P w K mg base N "law" (defScope st) f cdv A outer s H E).nox (defBody st) t ∧ t { nx := fun _ H' => Q .non H', rt := Q } (start N vs) H) :
    ∃ fd : FuncData, (∀ (s : Shared) (v : Value), BindsTo s fd ⟨[v], []⟩ [("script", v)]) ∧ ∀ base : Heap, FnOk P w K mg base CX0 (k + 1) fa fd ["script"] sp := by
  obtain ⟨f, fd, F, hm⟩ := g.ex
  have e := hmg.symm.trans hm
  cases e
  exact ⟨fd, fun s v => F.bindsA (ps := ["script"]) b s [v] rfl, fun base => fnd_ok F S len (hbody base fa)⟩
end
section
variable {X : Cx} {k j : Nat} {C : Addr} {x m : Str} {sp : Sp} {dvs : List V} {p pos apos : Pos}
theorem pe_cX {CX : CXT} {E : XK} {e : Expr} {es : List Expr} {t : TA} (c : CalX CX X.prog X.w X.K X.mg X.base k x sp dvs) (hr : Room j X.A) (hk : k ≤ j) (hx : Passes CX X E) (hg : Gl X x) (ha : PA X (e :: es) t)
    (hdb : (x == ("__debug__" : Str)) = false := by decide) (he : starEach (e :: es) X.env = (false, eval e X.env) :: starEach es X.env := by rfl) (hpl : (backTo pos (starEach es X.env)).any (·.1) = false := by rfl) :
    PE X (.Call (.Name x p) (e :: es) [] pos) (tCall sp dvs E t) := by
  obtain ⟨f, fd, ps, ds, F, hm, kp, b, d⟩ := c.ex
  exact pe_call F (hr.mono hk) hg hm kp b d hx ha hdb he hpl
theorem pe_cX0 {CX : CXT} {E : XK} (c : CalX CX X.prog X.w X.K X.mg X.base k x sp dvs) (hr : Room j X.A) (hk : k ≤ j) (hx : Passes CX X E) (hg : Gl X x) (hdb : (x == ("__debug__" : Str)) = false := by decide) :
    PE X (.Call (.Name x p) [] [] pos) (tCall sp dvs E tNil) := by
  obtain ⟨f, fd, ps, ds, F, hm, kp, b, d⟩ := c.ex
  exact pe_call0 F (hr.mono hk) hg hm kp b d hx hdb
theorem pe_c {e : Expr} {es : List Expr} {t : TA} (c : Cal X.prog X.w X.K X.mg X.base k x sp dvs) (hr : Room j X.A) (hk : k ≤ j) (hg : Gl X x) (ha : PA X (e :: es) t)
    (hdb : (x == ("__debug__" : Str)) = false := by decide) (he : starEach (e :: es) X.env = (false, eval e X.env) :: starEach es X.env := by rfl) (hpl : (backTo pos (starEach es X.env)).any (·.1) = false := by rfl) :
    PE X (.Call (.Name x p) (e :: es) [] pos) (tCall sp dvs E0 t) := pe_cX c hr hk pass0 hg ha hdb he hpl
theorem pe_c0 (c : Cal X.prog X.w X.K X.mg X.base k x sp dvs) (hr : Room j X.A) (hk : k ≤ j) (hg : Gl X x) (hdb : (x == ("__debug__" : Str)) = false := by decide) :
    PE X (.Call (.Name x p) [] [] pos) (tCall sp dvs E0 tNil) := pe_cX0 c hr hk pass0 hg hdb
theorem pe_mkX {CX : CXT} {E : XK} {e : Expr} {es : List Expr} {t : TA} (c : MakX CX X.prog X.w X.K X.mg X.base k x C sp dvs) (hr : Room j X.A) (hk : k + 1 ≤ j) (hx : Passes CX X E) (hg : Gl X x) (ha : PA X (e :: es) t)
    (hdb : (x == ("__debug__" : Str)) = false := by decide) (he : starEach (e :: es) X.env = (false, eval e X.env) :: starEach es X.env := by rfl) (hpl : (backTo pos (starEach es X.env)).any (·.1) = false := by rfl) :
    PE X (.Call (.Name x p) (e :: es) [] pos) (tMake C sp dvs E t) := by
  obtain ⟨f, fd, ps, ds, M, F, hm, b, d⟩ := c.ex
  exact pe_make M F (hr.mono hk) hg hm b d hx ha hdb he hpl
theorem pe_mkX0 {CX : CXT} {E : XK} (c : MakX CX X.prog X.w X.K X.mg X.base k x C sp dvs) (hr : Room j X.A) (hk : k + 1 ≤ j) (hx : Passes CX X E) (hg : Gl X x) (hdb : (x == ("__debug__" : Str)) = false := by decide) :
    PE X (.Call (.Name x p) [] [] pos) (tMake C sp dvs E tNil) := by
  obtain ⟨f, fd, ps, ds, M, F, hm, b, d⟩ := c.ex
  exact pe_make0 M F (hr.mono hk) hg hm b d hx hdb
theorem pe_mk {e : Expr} {es : List Expr} {t : TA} (c : Mak X.prog X.w X.K X.mg X.base k x C sp dvs) (hr : Room j X.A) (hk : k + 1 ≤ j) (hg : Gl X x) (ha : PA X (e :: es) t)
    (hdb : (x == ("__debug__" : Str)) = false := by decide) (he : starEach (e :: es) X.env = (false, eval e X.env) :: starEach es X.env := by rfl) (hpl : (backTo pos (starEach es X.env)).any (·.1) = false := by rfl) :
    PE X (.Call (.Name x p) (e :: es) [] pos) (tMake C sp dvs E0 t) := pe_mkX c hr hk pass0 hg ha hdb he hpl
theorem pe_mk0 (c : Mak X.prog X.w X.K X.mg X.base k x C sp dvs) (hr : Room j X.A) (hk : k + 1 ≤ j) (hg : Gl X x) (hdb : (x == ("__debug__" : Str)) = false := by decide) :
    PE X (.Call (.Name x p) [] [] pos) (tMake C sp dvs E0 tNil) := pe_mkX0 c hr hk pass0 hg hdb
section
variable {e o : Expr} {es : List Expr} {ta : TE} {t : TA}
theorem pe_mtX {CX : CXT} {E : XK} {pl : Sem Bool} (c : MetX CX X.prog X.w X.K X.mg X.base k C m sp dvs) (hr : Room j X.A) (hk : k ≤ j) (hx : Passes CX X E) (he : PE X o ta) (ha : PA X (e :: es) t)
    (hst : starEach (e :: es) X.env = (false, eval e X.env) :: starEach es X.env := by rfl) (hpl : (backTo pos (starEach es X.env)).any (·.1) = false := by rfl)
    (ht : eval (.Call (.Attribute o m apos) (e :: es) [] pos) X.env = (do
      let ov ← eval o X.env
      standAt apos.atName
      let (f, first) ← holding [ov] (getMethod ov m pl)
      callWith pos f first (backTo pos (starEach (e :: es) X.env)) (backToKw pos (keywordEach [] X.env))) := by rfl) :
    PE X (.Call (.Attribute o m apos) (e :: es) [] pos) (tMeth C m sp dvs E ta t) := by
  obtain ⟨f, fd, ps, ds, hc, hm, F, b, d⟩ := c.ex
  exact pe_meth (pl := pl) he hc hm F (hr.mono hk) b d hx ha hst hpl ht
theorem pe_mtX0 {CX : CXT} {E : XK} {pl : Sem Bool} (c : MetX CX X.prog X.w X.K X.mg X.base k C m sp dvs) (hr : Room j X.A) (hk : k ≤ j) (hx : Passes CX X E) (he : PE X o ta)
    (ht : eval (.Call (.Attribute o m apos) [] [] pos) X.env = (do
      let ov ← eval o X.env
      standAt apos.atName
      let (f, first) ← holding [ov] (getMethod ov m pl)
      callWith pos f first (backTo pos (starEach [] X.env)) (backToKw pos (keywordEach [] X.env))) := by rfl) :
    PE X (.Call (.Attribute o m apos) [] [] pos) (tMeth C m sp dvs E ta tNil) := by
  obtain ⟨f, fd, ps, ds, hc, hm, F, b, d⟩ := c.ex
  exact pe_meth0 (pl := pl) he hc hm F (hr.mono hk) b d hx ht
theorem pe_mt {pl : Sem Bool} (c : Met X.prog X.w X.K X.mg X.base k C m sp dvs) (hr : Room j X.A) (hk : k ≤ j) (he : PE X o ta) (ha : PA X (e :: es) t)
    (hst : starEach (e :: es) X.env = (false, eval e X.env) :: starEach es X.env := by rfl) (hpl : (backTo pos (starEach es X.env)).any (·.1) = false := by rfl)
    (ht : eval (.Call (.Attribute o m apos) (e :: es) [] pos) X.env = (do
      let ov ← eval o X.env
      standAt apos.atName
      let (f, first) ← holding [ov] (getMethod ov m pl)
      callWith pos f first (backTo pos (starEach (e :: es) X.env)) (backToKw pos (keywordEach [] X.env))) := by rfl) :
    PE X (.Call (.Attribute o m apos) (e :: es) [] pos) (tMeth C m sp dvs E0 ta t) := pe_mtX (pl := pl) c hr hk pass0 he ha hst hpl ht
theorem pe_mt0 {pl : Sem Bool} (c : Met X.prog X.w X.K X.mg X.base k C m sp dvs) (hr : Room j X.A) (hk : k ≤ j) (he : PE X o ta)
    (ht : eval (.Call (.Attribute o m apos) [] [] pos) X.env = (do
      let ov ← eval o X.env
      standAt apos.atName
      let (f, first) ← holding [ov] (getMethod ov m pl)
      callWith pos f first (backTo pos (starEach [] X.env)) (backToKw pos (keywordEach [] X.env))) := by rfl) :
    PE X (.Call (.Attribute o m apos) [] [] pos) (tMeth C m sp dvs E0 ta tNil) := pe_mtX0 (pl := pl) c hr hk pass0 he ht
end
theorem pe_gc (hg : Gl X x) {v : V} (h : ∃ u, X.mg x = some u ∧ RelV v u) (hd : (x == ("__debug__" : Str)) = false := by decide) : PE X (.Name x p) (tC v) := by
  obtain ⟨u, e, r⟩ := h
  exact pe_glob hg e r hd
/-- xs[i], read ahead of xs[i] op= e -/
theorem get_list : PGet X (rIxL X.K) := by
  intro pins s σ H x y v u Q I rx ry h
  obtain ⟨p, xs, i, z, rfl, rfl, hq, he, q⟩ := h
  cases rx
  obtain ⟨t, rfl⟩ := ry
  obtain ⟨its, r, pl, hz⟩ := I.list hq
  obtain ⟨j, h1, h2, h3, h4, h5⟩ := atI_get he
  obtain ⟨w, ew, rw'⟩ := r.get h2
  have hl := r.length
  have hn := line63
  have fin : EP X pins σ Q w s := ⟨z, H, I, rw', q⟩
  by_cases h0 : 0 ≤ i
  · have hj : i.toNat = j := by
      rw [seqIndex_of h0 h5] at h1
      exact Option.some.inj h1
    exact wpAny_getItem_list pl.isList h0 (by omega) (by rw [hj]; simpa using ew) fin
  · have hj : (i + (its.toArray.size : Int)).toNat = j := by
      rw [seqIndex_neg (by omega) h4] at h1
      rw [List.size_toArray, ← hl]
      exact Option.some.inj h1
    exact wpAny_getItem_list_neg pl.isList (by omega) (by rw [List.size_toArray] <;> omega) (by omega) (by rw [hj]; simpa using ew) fin
end
abbrev qNewL (xs : List V) (H : Hp) (Q : VK) : Prop := xs.length ≤ sizeLine ∧ ∀ p, H p = none → Q (.ref p) (upd H p (.lst xs))
abbrev qNewT (xs : List V) (H : Hp) (Q : VK) : Prop := xs.length ≤ sizeLine ∧ ∀ p, H p = none → Q (.ref p) (upd H p (.tup xs))
section
variable {K : PySem.W.Frag} {σ : L2.St} {H : Hp} {Q : VK} {QB : Bool → Hp → Prop} {v x y : V} {ta tb te : TE} {t u : TT} {r : R2} {D : Ends} {QL : List V → Hp → Prop}
/-! ### readings, one step each -/
theorem rd_var {i : Nat} (h : σ[i]? = some (some v)) (q : Q v H) : tVar i σ H Q := ⟨v, h, q⟩
theorem rd_c (q : Q v H) : tC v σ H Q := q
theorem rd_op (q : ta σ H fun x H1 => tb σ H1 fun y H2 => r x y H2 Q) : tOp r ta tb σ H Q := q
theorem rd_i0 {g : Int → Int → V} {i j : Int} (q : Q (g i j) H) : rI0 g (.int i) (.int j) H Q := ⟨i, j, rfl, rfl, q⟩
theorem rd_i {C : Int → Int → Prop} {g : Int → Int → V} {i j : Int} (c : C i j) (q : Q (g i j) H) : rI C g (.int i) (.int j) H Q := ⟨i, j, rfl, rfl, c, q⟩
theorem rd_eq (h : scal x y = true) (q : Q (.bl (decide (x = y))) H) : rEq x y H Q := ⟨h, q⟩
theorem rd_ne (h : scal x y = true) (q : Q (.bl (!decide (x = y))) H) : rNe x y H Q := ⟨h, q⟩
theorem rd_eqi {i j : Int} (q : Q (.bl (decide (i = j))) H) : rEq (.int i) (.int j) H Q := ⟨rfl, by rw [show decide (V.int i = V.int j) = decide (i = j) from decide_eq_decide.mpr (by simp)]; exact q⟩
theorem rd_nei {i j : Int} (q : Q (.bl (!decide (i = j))) H) : rNe (.int i) (.int j) H Q := ⟨rfl, by rw [show decide (V.int i = V.int j) = decide (i = j) from decide_eq_decide.mpr (by simp)]; exact q⟩
theorem rd_tb {b : Bool} {R : Bool → Prop} (q : R b) : ∃ k, V.bl b = .bl k ∧ R k := ⟨b, rfl, q⟩
theorem rd_tTest (q : te σ H fun x H' => ∃ k, x = .bl k ∧ QB k H') : tTest te σ H QB := q
theorem rd_tB (q : te σ H fun x H' => ∃ k, x = .bl k ∧ QB k H') : tB te σ H QB := q
theorem rd_and (q : t σ H fun c H1 => if c = true then u σ H1 QB else QB false H1) : tAnd t u σ H QB := q
theorem rd_or (q : t σ H fun c H1 => if c = true then QB true H1 else u σ H1 QB) : tOr t u σ H QB := q
theorem rd_not (q : t σ H fun c H1 => QB (!c) H1) : tNot t σ H QB := q
theorem rd_ite {b : Bool} {A B : Prop} (h1 : b = true → A) (h2 : b = false → B) : if b = true then A else B := by
  cases b with
  | true => exact iteT (h1 rfl)
  | false => exact iteF (h2 rfl)
theorem rd_nil (q : QL [] H) : tNil σ H QL := q
theorem rd_cons {tr : TA} (q : ta σ H fun x H1 => tr σ H1 fun xs H2 => QL (x :: xs) H2) : tCons ta tr σ H QL := q
theorem rd_call {sp : Sp} {dvs : List V} {E : XK} {ts : TA} (q : ts σ H fun vs H1 => sp (vs ++ dvs) H1 Q E) : tCall sp dvs E ts σ H Q := q
theorem rd_cb {rc : List V → Hp → VK → Prop} {ts : TA} (q : ts σ H fun vs H1 => rc vs H1 Q) : tCB rc ts σ H Q := q
theorem rd_un {ru : V → Hp → VK → Prop} (q : ta σ H fun x H1 => ru x H1 Q) : tUn ru ta σ H Q := q
theorem rd_ixL {p : Addr} {xs : List V} {i : Int} (h : SqL K H p xs) (ha : atI xs i = some v) (q : Q v H) : rIxL K (.ref p) (.int i) H Q := ⟨p, xs, i, v, rfl, rfl, h, ha, q⟩
theorem rd_ixT {p : Addr} {xs : List V} {i : Int} (h : SqT K H p xs) (ha : atI xs i = some v) (q : Q v H) : rIxT K (.ref p) (.int i) H Q := ⟨p, xs, i, v, rfl, rfl, h, ha, q⟩
theorem rd_seq {a b : TS} (q : a { D with nx := b D } σ H) : tSeq a b D σ H := q
theorem rd_nx (q : D.nx σ H) : tNext D σ H := q
theorem rd_asg {g : TG} (q : te σ H fun x H1 => g x σ H1 D.nx) : tAsg te g D σ H := q
theorem rd_gName {i : Nat} {R : L2.St → Hp → Prop} (q : R (σ.set i (some v)) H) : gName i v σ H R := q
theorem rd_gSub {to ti : TE} {s : TSet} {R : L2.St → Hp → Prop} (q : to σ H fun o H1 => ti σ H1 fun i H2 => s o i v H2 fun H3 => R σ H3) : gSub to ti s v σ H R := q
theorem rd_setL {p : Addr} {xs : List V} {k : Int} {j : Nat} {R : Hp → Prop} (h : H p = some (.lst xs)) (hj : ixN xs.length k = some j) (q : R (upd H p (.lst (xs.set j v)))) : rSetL (.ref p) (.int k) v H R := ⟨p, xs, k, j, rfl, rfl, h, hj, q⟩
theorem rd_ret (q : te σ H D.rt) : tRet te D σ H := q
theorem rd_retN (q : D.rt .non H) : tRetN D σ H := q
theorem rd_if {c : TT} {a b : TS} (q : c σ H fun z H1 => if z = true then a D σ H1 else b D σ H1) : tIfS c a b D σ H := q
theorem rd_drop (q : te σ H fun _ H1 => D.nx σ H1) : tDrop te D σ H := q
theorem rd_aug {i : Nat} {ti : TIp} (h : σ[i]? = some (some x)) (q : te σ H fun y H1 => ti x y H1 fun z H2 => D.nx (σ.set i (some z)) H2) : tAug i te ti D σ H := ⟨x, h, q⟩
theorem rd_ipI {f : Int → Int → Int} {i j : Int} (q : Q (.int (f i j)) H) : ipI f (.int i) (.int j) H Q := ⟨i, j, rfl, rfl, q⟩
theorem rd_augS {to ti te : TE} {tg : V → V → Hp → VK → Prop} {tp : TIp} {ts : TSet} (q : to σ H fun o H1 => ti σ H1 fun i H2 => tg o i H2 fun x H3 => te σ H3 fun y H4 => tp x y H4 fun z H5 => ts o i z H5 fun H6 => D.nx σ H6) : tAugS to ti te tg tp ts D σ H := q
theorem rd_tup {ts : TA} (q : ts σ H fun xs H1 => qNewT xs H1 Q) : tTup ts σ H Q := q
theorem rd_lst {ts : TA} (q : ts σ H fun xs H1 => qNewL xs H1 Q) : tLst ts σ H Q := q
theorem rd_bm0 {T : String} {m : V → List V → Hp → VK → Prop} {to : TE} (q : to σ H fun x H1 => tyV K T x H1 ∧ m x [] H1 Q) : tBM0 K T m to σ H Q := q
theorem rd_bm {T : String} {m : V → List V → Hp → VK → Prop} {to : TE} {ts : TA} (q : to σ H fun x H1 => tyV K T x H1 ∧ ts σ H1 fun xs H2 => m x xs H2 Q) : tBM K T m to ts σ H Q := q
theorem rd_chain {r r' : R2} {tc : TE} (q : ta σ H fun x H1 => tb σ H1 fun y H2 => r x y H2 fun z H3 => ∃ k, z = .bl k ∧ (if k = true then tc σ H3 fun w' H4 => r' y w' H4 Q else Q (.bl false) H3)) : tChain r r' ta tb tc σ H Q := q
theorem rd_andV (q : ta σ H fun x H1 => ∃ c, x = .bl c ∧ if c = true then tb σ H1 Q else Q (.bl false) H1) : tAndV ta tb σ H Q := q
theorem rd_orV (q : ta σ H fun x H1 => ∃ c, x = .bl c ∧ if c = true then Q (.bl true) H1 else tb σ H1 Q) : tOrV ta tb σ H Q := q
theorem rd_notV (q : ta σ H fun x H1 => ∃ c, x = .bl c ∧ Q (.bl (!c)) H1) : tNotV ta σ H Q := q
end
section
variable {K : PySem.W.Frag} {H : Hp} {Q : VK}
theorem rd_isi {x c : V} {t u : Value} {b : Bool} (k : ClsV c u) (ty : TyX K H x t) (e : PySem.W.kitOne K t u = some b) (q : Q (.bl b) H) : rIsi K [x, c] H Q := ⟨x, c, t, u, b, rfl, k, ty, e, q⟩
theorem isi_int_int {i : Int} (q : Q (.bl true) H) : rIsi K [(.int i), .ty "int"] H Q := rd_isi (.ty _) (.base (.int _)) (kit_ty (by decide +kernel)) q
theorem isi_int_bool {i : Int} (q : Q (.bl false) H) : rIsi K [(.int i), .ty "bool"] H Q := rd_isi (.ty _) (.base (.int _)) (kit_ty (by decide +kernel)) q
theorem isi_int_str {i : Int} (q : Q (.bl false) H) : rIsi K [(.int i), .ty "str"] H Q := rd_isi (.ty _) (.base (.int _)) (kit_ty (by decide +kernel)) q
theorem isi_int_list {i : Int} (q : Q (.bl false) H) : rIsi K [(.int i), .ty "list"] H Q := rd_isi (.ty _) (.base (.int _)) (kit_ty (by decide +kernel)) q
theorem isi_int_tuple {i : Int} (q : Q (.bl false) H) : rIsi K [(.int i), .ty "tuple"] H Q := rd_isi (.ty _) (.base (.int _)) (kit_ty (by decide +kernel)) q
theorem isi_int_dict {i : Int} (q : Q (.bl false) H) : rIsi K [(.int i), .ty "dict"] H Q := rd_isi (.ty _) (.base (.int _)) (kit_ty (by decide +kernel)) q
theorem isi_int_bytes {i : Int} (q : Q (.bl false) H) : rIsi K [(.int i), .ty "bytes"] H Q := rd_isi (.ty _) (.base (.int _)) (kit_ty (by decide +kernel)) q
theorem isi_bool_int {i : Bool} (q : Q (.bl true) H) : rIsi K [(.bl i), .ty "int"] H Q := rd_isi (.ty _) (.base (.bl _)) (kit_ty (by decide +kernel)) q
theorem isi_bool_bool {i : Bool} (q : Q (.bl true) H) : rIsi K [(.bl i), .ty "bool"] H Q := rd_isi (.ty _) (.base (.bl _)) (kit_ty (by decide +kernel)) q
theorem isi_bool_str {i : Bool} (q : Q (.bl false) H) : rIsi K [(.bl i), .ty "str"] H Q := rd_isi (.ty _) (.base (.bl _)) (kit_ty (by decide +kernel)) q
theorem isi_bool_list {i : Bool} (q : Q (.bl false) H) : rIsi K [(.bl i), .ty "list"] H Q := rd_isi (.ty _) (.base (.bl _)) (kit_ty (by decide +kernel)) q
theorem isi_bool_tuple {i : Bool} (q : Q (.bl false) H) : rIsi K [(.bl i), .ty "tuple"] H Q := rd_isi (.ty _) (.base (.bl _)) (kit_ty (by decide +kernel)) q
theorem isi_bool_dict {i : Bool} (q : Q (.bl false) H) : rIsi K [(.bl i), .ty "dict"] H Q := rd_isi (.ty _) (.base (.bl _)) (kit_ty (by decide +kernel)) q
theorem isi_bool_bytes {i : Bool} (q : Q (.bl false) H) : rIsi K [(.bl i), .ty "bytes"] H Q := rd_isi (.ty _) (.base (.bl _)) (kit_ty (by decide +kernel)) q
theorem isi_str_int {i : Str} (q : Q (.bl false) H) : rIsi K [(.str i), .ty "int"] H Q := rd_isi (.ty _) (.base (.str _)) (kit_ty (by decide +kernel)) q
theorem isi_str_bool {i : Str} (q : Q (.bl false) H) : rIsi K [(.str i), .ty "bool"] H Q := rd_isi (.ty _) (.base (.str _)) (kit_ty (by decide +kernel)) q
theorem isi_str_str {i : Str} (q : Q (.bl true) H) : rIsi K [(.str i), .ty "str"] H Q := rd_isi (.ty _) (.base (.str _)) (kit_ty (by decide +kernel)) q
theorem isi_str_list {i : Str} (q : Q (.bl false) H) : rIsi K [(.str i), .ty "list"] H Q := rd_isi (.ty _) (.base (.str _)) (kit_ty (by decide +kernel)) q
theorem isi_str_tuple {i : Str} (q : Q (.bl false) H) : rIsi K [(.str i), .ty "tuple"] H Q := rd_isi (.ty _) (.base (.str _)) (kit_ty (by decide +kernel)) q
theorem isi_str_dict {i : Str} (q : Q (.bl false) H) : rIsi K [(.str i), .ty "dict"] H Q := rd_isi (.ty _) (.base (.str _)) (kit_ty (by decide +kernel)) q
theorem isi_str_bytes {i : Str} (q : Q (.bl false) H) : rIsi K [(.str i), .ty "bytes"] H Q := rd_isi (.ty _) (.base (.str _)) (kit_ty (by decide +kernel)) q
theorem isi_NoneType_int  (q : Q (.bl false) H) : rIsi K [.non, .ty "int"] H Q := rd_isi (.ty _) (.base (.non)) (kit_ty (by decide +kernel)) q
theorem isi_NoneType_bool  (q : Q (.bl false) H) : rIsi K [.non, .ty "bool"] H Q := rd_isi (.ty _) (.base (.non)) (kit_ty (by decide +kernel)) q
theorem isi_NoneType_str  (q : Q (.bl false) H) : rIsi K [.non, .ty "str"] H Q := rd_isi (.ty _) (.base (.non)) (kit_ty (by decide +kernel)) q
theorem isi_NoneType_list  (q : Q (.bl false) H) : rIsi K [.non, .ty "list"] H Q := rd_isi (.ty _) (.base (.non)) (kit_ty (by decide +kernel)) q
theorem isi_NoneType_tuple  (q : Q (.bl false) H) : rIsi K [.non, .ty "tuple"] H Q := rd_isi (.ty _) (.base (.non)) (kit_ty (by decide +kernel)) q
theorem isi_NoneType_dict  (q : Q (.bl false) H) : rIsi K [.non, .ty "dict"] H Q := rd_isi (.ty _) (.base (.non)) (kit_ty (by decide +kernel)) q
theorem isi_NoneType_bytes  (q : Q (.bl false) H) : rIsi K [.non, .ty "bytes"] H Q := rd_isi (.ty _) (.base (.non)) (kit_ty (by decide +kernel)) q
theorem isi_list_int {p : Addr} {xs : List V} (h : H p = some (.lst xs)) (q : Q (.bl false) H) : rIsi K [(.ref p), .ty "int"] H Q := rd_isi (.ty _) (.base (.lst h)) (kit_ty (by decide +kernel)) q
theorem isi_list_bool {p : Addr} {xs : List V} (h : H p = some (.lst xs)) (q : Q (.bl false) H) : rIsi K [(.ref p), .ty "bool"] H Q := rd_isi (.ty _) (.base (.lst h)) (kit_ty (by decide +kernel)) q
theorem isi_list_str {p : Addr} {xs : List V} (h : H p = some (.lst xs)) (q : Q (.bl false) H) : rIsi K [(.ref p), .ty "str"] H Q := rd_isi (.ty _) (.base (.lst h)) (kit_ty (by decide +kernel)) q
theorem isi_list_list {p : Addr} {xs : List V} (h : H p = some (.lst xs)) (q : Q (.bl true) H) : rIsi K [(.ref p), .ty "list"] H Q := rd_isi (.ty _) (.base (.lst h)) (kit_ty (by decide +kernel)) q
theorem isi_list_tuple {p : Addr} {xs : List V} (h : H p = some (.lst xs)) (q : Q (.bl false) H) : rIsi K [(.ref p), .ty "tuple"] H Q := rd_isi (.ty _) (.base (.lst h)) (kit_ty (by decide +kernel)) q
theorem isi_list_dict {p : Addr} {xs : List V} (h : H p = some (.lst xs)) (q : Q (.bl false) H) : rIsi K [(.ref p), .ty "dict"] H Q := rd_isi (.ty _) (.base (.lst h)) (kit_ty (by decide +kernel)) q
theorem isi_list_bytes {p : Addr} {xs : List V} (h : H p = some (.lst xs)) (q : Q (.bl false) H) : rIsi K [(.ref p), .ty "bytes"] H Q := rd_isi (.ty _) (.base (.lst h)) (kit_ty (by decide +kernel)) q
theorem isi_tuple_int {p : Addr} {xs : List V} (h : H p = some (.tup xs)) (q : Q (.bl false) H) : rIsi K [(.ref p), .ty "int"] H Q := rd_isi (.ty _) (.base (.tup h)) (kit_ty (by decide +kernel)) q
theorem isi_tuple_bool {p : Addr} {xs : List V} (h : H p = some (.tup xs)) (q : Q (.bl false) H) : rIsi K [(.ref p), .ty "bool"] H Q := rd_isi (.ty _) (.base (.tup h)) (kit_ty (by decide +kernel)) q
theorem isi_tuple_str {p : Addr} {xs : List V} (h : H p = some (.tup xs)) (q : Q (.bl false) H) : rIsi K [(.ref p), .ty "str"] H Q := rd_isi (.ty _) (.base (.tup h)) (kit_ty (by decide +kernel)) q
theorem isi_tuple_list {p : Addr} {xs : List V} (h : H p = some (.tup xs)) (q : Q (.bl false) H) : rIsi K [(.ref p), .ty "list"] H Q := rd_isi (.ty _) (.base (.tup h)) (kit_ty (by decide +kernel)) q
theorem isi_tuple_tuple {p : Addr} {xs : List V} (h : H p = some (.tup xs)) (q : Q (.bl true) H) : rIsi K [(.ref p), .ty "tuple"] H Q := rd_isi (.ty _) (.base (.tup h)) (kit_ty (by decide +kernel)) q
theorem isi_tuple_dict {p : Addr} {xs : List V} (h : H p = some (.tup xs)) (q : Q (.bl false) H) : rIsi K [(.ref p), .ty "dict"] H Q := rd_isi (.ty _) (.base (.tup h)) (kit_ty (by decide +kernel)) q
theorem isi_tuple_bytes {p : Addr} {xs : List V} (h : H p = some (.tup xs)) (q : Q (.bl false) H) : rIsi K [(.ref p), .ty "bytes"] H Q := rd_isi (.ty _) (.base (.tup h)) (kit_ty (by decide +kernel)) q
theorem isi_dict_int {p : Addr} {xs : List (Key × V)} (h : H p = some (.dK xs)) (q : Q (.bl false) H) : rIsi K [(.ref p), .ty "int"] H Q := rd_isi (.ty _) (.base (.dK h)) (kit_ty (by decide +kernel)) q
theorem isi_dict_bool {p : Addr} {xs : List (Key × V)} (h : H p = some (.dK xs)) (q : Q (.bl false) H) : rIsi K [(.ref p), .ty "bool"] H Q := rd_isi (.ty _) (.base (.dK h)) (kit_ty (by decide +kernel)) q
theorem isi_dict_str {p : Addr} {xs : List (Key × V)} (h : H p = some (.dK xs)) (q : Q (.bl false) H) : rIsi K [(.ref p), .ty "str"] H Q := rd_isi (.ty _) (.base (.dK h)) (kit_ty (by decide +kernel)) q
theorem isi_dict_list {p : Addr} {xs : List (Key × V)} (h : H p = some (.dK xs)) (q : Q (.bl false) H) : rIsi K [(.ref p), .ty "list"] H Q := rd_isi (.ty _) (.base (.dK h)) (kit_ty (by decide +kernel)) q
theorem isi_dict_tuple {p : Addr} {xs : List (Key × V)} (h : H p = some (.dK xs)) (q : Q (.bl false) H) : rIsi K [(.ref p), .ty "tuple"] H Q := rd_isi (.ty _) (.base (.dK h)) (kit_ty (by decide +kernel)) q
theorem isi_dict_dict {p : Addr} {xs : List (Key × V)} (h : H p = some (.dK xs)) (q : Q (.bl true) H) : rIsi K [(.ref p), .ty "dict"] H Q := rd_isi (.ty _) (.base (.dK h)) (kit_ty (by decide +kernel)) q
theorem isi_dict_bytes {p : Addr} {xs : List (Key × V)} (h : H p = some (.dK xs)) (q : Q (.bl false) H) : rIsi K [(.ref p), .ty "bytes"] H Q := rd_isi (.ty _) (.base (.dK h)) (kit_ty (by decide +kernel)) q
end
/-! ### the head's facts and some more of K -/
def obsX (n : Nat) (fa : List He.Fa) (fn : List He.DefD) (ex : PySem.W.Frag → Bool) (g : Addr → Option Obj) : He.AlD × Bool := (He.obsD fa fn (He.frG g (He.asD g n)), ex (He.frG g (He.asD g n)))
def hookX (n : Nat) (fa : List He.Fa) (fn : List He.DefD) (ex : PySem.W.Frag → Bool) : PySem.W.Hook where
  α := He.AlD × Bool
  obs := fun s => obsX n fa fn ex s.heap.get?
  val := fun _ => (He.valD fn, true)
  says := fun _ h => ∃ K : PySem.W.Frag, K.In h ∧ He.SaysD fa fn K ∧ ex K = true
  of := fun _ _ e => ⟨_, He.frG_in, congrArg Prod.fst e, congrArg Prod.snd e⟩
  keeps := fun _ _ _ ⟨K, hK, c⟩ k => ⟨K, PySem.W.Frag.In.keeps hK k, c⟩
theorem obsX_eq {n : Nat} {fa : List He.Fa} {fn : List He.DefD} {ex : PySem.W.Frag → Bool} {g : Addr → Option Obj} {s : Shared} (h : ∀ a, g a = s.heap.get? a) : obsX n fa fn ex g = (hookX n fa fn ex).obs s := by
  have e : g = s.heap.get? := funext h
  rw [e] <;> rfl
theorem ex_at {exs : List (PySem.W.Frag → Bool)} {K : PySem.W.Frag} (h : (exs.all fun f => f K) = true) (i : Nat) {f : PySem.W.Frag → Bool} (e : exs[i]? = some f := by rfl) : f K = true := List.all_eq_true.mp h f (List.mem_of_getElem? e)
/-! ### rules under names -/
def qIsN : R2 := fun x y H Q => y = .non ∧ Q (.bl (decide (x = .non))) H
def qNotN : R2 := fun x y H Q => y = .non ∧ Q (.bl (!decide (x = .non))) H
def qInt1 : List V → Hp → VK → Prop := fun xs H Q => (∃ i, xs = [.int i] ∧ Q (.int i) H) ∨ ∃ k, xs = [.bl k] ∧ Q (.int (if k then 1 else 0)) H
def qBool1 : List V → Hp → VK → Prop := fun xs H Q => (∃ i, xs = [.int i] ∧ Q (.bl (i != 0)) H) ∨ ∃ k, xs = [.bl k] ∧ Q (.bl k) H
def qLen (K : PySem.W.Frag) : List V → Hp → VK → Prop := fun xs H Q => ∃ p ys, xs = [.ref p] ∧ (SqL K H p ys ∨ SqT K H p ys) ∧ (ys.length ≤ 1152921504606846976 → Q (.int ys.length) H)
def qLenS : List V → Hp → VK → Prop := fun xs H Q => ∃ z, xs = [.str z] ∧ z.length ≤ sizeLine ∧ Q (.int z.length) H
def qListOf (K : PySem.W.Frag) : List V → Hp → VK → Prop := fun xs H Q => ∃ p ys, xs = [.ref p] ∧ (SqL K H p ys ∨ SqT K H p ys) ∧ ∀ l, H l = none → Q (.ref l) (upd H l (.lst ys))
def qMax2 : List V → Hp → VK → Prop := fun xs H Q => ∃ i j, xs = [.int i, .int j] ∧ Q (.int (if j > i then j else i)) H
def qMin2 : List V → Hp → VK → Prop := fun xs H Q => ∃ i j, xs = [.int i, .int j] ∧ Q (.int (if j < i then j else i)) H
section
variable {X : Cx} {K : PySem.W.Frag} {H : Hp} {Q : VK} {x : V}
theorem op_isNq : OpR X (compareOp .Is) qIsN := op_isN
theorem op_notNq : OpR X (compareOp .IsNot) qNotN := op_notN
theorem call_int1q : CallR X (.type "int") qInt1 := call_int1
theorem call_bool1q : CallR X (.type "bool") qBool1 := call_bool1
theorem call_lenq : CallR X (.builtin "len") (qLen X.K) := by
  intro pins s σ H xs us Q I r h
  obtain ⟨p, ys, rfl, hs, q⟩ := h
  have hz : ys.length ≤ sizeLine := by
    rcases hs with hs | hs
    · obtain ⟨_, _, _, z⟩ := I.list hs
      exact z
    · obtain ⟨_, _, _, z⟩ := I.tuple hs
      exact z
  exact call_len_seq pins s σ H _ us Q I r ⟨p, ys, rfl, hs, q (Nat.le_trans hz (by decide))⟩
theorem call_lenSq : CallR X (.builtin "len") qLenS := call_len_str
theorem call_listq : CallR X (.type "list") (qListOf X.K) := call_list_of
theorem call_max2q (hc : X.calm = true) : CallR X (.builtin "max") qMax2 := call_max2 hc
theorem call_min2q (hc : X.calm = true) : CallR X (.builtin "min") qMin2 := call_min2 hc
theorem rd_isNn (q : Q (.bl true) H) : qIsN .non .non H Q := ⟨rfl, q⟩
theorem rd_isNi {i : Int} (q : Q (.bl false) H) : qIsN (.int i) .non H Q := ⟨rfl, q⟩
theorem rd_isNb {i : Bool} (q : Q (.bl false) H) : qIsN (.bl i) .non H Q := ⟨rfl, q⟩
theorem rd_isNs {i : Str} (q : Q (.bl false) H) : qIsN (.str i) .non H Q := ⟨rfl, q⟩
theorem rd_isNr {i : Addr} (q : Q (.bl false) H) : qIsN (.ref i) .non H Q := ⟨rfl, q⟩
theorem rd_notNn (q : Q (.bl false) H) : qNotN .non .non H Q := ⟨rfl, q⟩
theorem rd_notNi {i : Int} (q : Q (.bl true) H) : qNotN (.int i) .non H Q := ⟨rfl, q⟩
theorem rd_notNb {i : Bool} (q : Q (.bl true) H) : qNotN (.bl i) .non H Q := ⟨rfl, q⟩
theorem rd_notNs {i : Str} (q : Q (.bl true) H) : qNotN (.str i) .non H Q := ⟨rfl, q⟩
theorem rd_notNr {i : Addr} (q : Q (.bl true) H) : qNotN (.ref i) .non H Q := ⟨rfl, q⟩
theorem rd_int1 {i : Int} (q : Q (.int i) H) : qInt1 [.int i] H Q := .inl ⟨i, rfl, q⟩
theorem rd_int1b {k : Bool} (q : Q (.int (if k then 1 else 0)) H) : qInt1 [.bl k] H Q := .inr ⟨k, rfl, q⟩
theorem rd_lenL {p : Addr} {xs : List V} (h : SqL K H p xs) (q : xs.length ≤ 1152921504606846976 → Q (.int xs.length) H) : qLen K [.ref p] H Q := ⟨p, xs, rfl, .inl h, q⟩
theorem rd_lenT {p : Addr} {xs : List V} (h : SqT K H p xs) (q : xs.length ≤ 1152921504606846976 → Q (.int xs.length) H) : qLen K [.ref p] H Q := ⟨p, xs, rfl, .inr h, q⟩
theorem rd_listL {p : Addr} {xs : List V} (h : SqL K H p xs) (q : ∀ l, H l = none → Q (.ref l) (upd H l (.lst xs))) : qListOf K [.ref p] H Q := ⟨p, xs, rfl, .inl h, q⟩
end
section
variable {K : PySem.W.Frag} {H : Hp} {Q : VK}
theorem rd_xor {a b : Nat} (q : Q (.int ((a ^^^ b : Nat) : Int)) H) : rI0 (fun i j => .int (Builtin.bitXor i j)) (.int (a : Int)) (.int (b : Int)) H Q :=
  rd_i0 (by rw [Bits.bitXor_pp (x := (a : Int)) (y := (b : Int)) (by omega) (by omega)]; exact q)
theorem iteNF {A B : Prop} (h : A) : if (!false) = true then A else B := by
  rw [if_pos (show (!false) = true from rfl)]
  exact h
theorem iteNT {A B : Prop} (h : B) : if (!true) = true then A else B := by
  rw [if_neg (by decide)]
  exact h
theorem iteNS' {c A B : Prop} [Decidable c] (hc : ¬ c) (h : A) : if (!decide c) = true then A else B := by
  rw [decide_eq_false hc]
  exact iteNF h
theorem not_t {c : Prop} [Decidable c] (h : (!decide c) = true) : ¬ c := by
  cases q : decide c with
  | true => rw [q] at h; cases h
  | false => exact of_decide_eq_false q
theorem not_f {c : Prop} [Decidable c] (h : (!decide c) = false) : c := by
  cases q : decide c with
  | true => exact of_decide_eq_true q
  | false => rw [q] at h; cases h
theorem iteD {c A B : Prop} [Decidable c] (hc : c) (h : A) : if decide c = true then A else B := by
  rw [decide_eq_true hc]
  exact iteT h
theorem iteDn {c A B : Prop} [Decidable c] (hc : ¬ c) (h : B) : if decide c = true then A else B := by
  rw [decide_eq_false hc]
  exact iteF h
theorem atI_int {ns : List Int} {i : Int} (h0 : 0 ≤ i) (h1 : i < ns.length) : ∃ z : Int, atI (ns.map V.int) i = some (.int z) ∧ ns[i.toNat]? = some z := by
  have hk : i.toNat < ns.length := by omega
  have e : ((i.toNat : Nat) : Int) = i := by omega
  refine ⟨ns[i.toNat], ?_, List.getElem?_eq_getElem hk⟩
  have q : atI (ns.map V.int) ((i.toNat : Nat) : Int) = some (.int ns[i.toNat]) := atI_nat (by rw [List.getElem?_map, List.getElem?_eq_getElem hk] <;> rfl)
  rw [e] at q
  exact q
theorem same_new {H : Hp} {p : Addr} (h : H p = none) (o : HO) : Same H (upd H p o) := fun b u q => by rw [upd_ne (ne_of_none q h)]; exact q
end
/-- a statement, then the rest, with a word between them: what follows is shown once -/
def qJoin (t u : TS) : TS := fun D σ H => ∃ Mid : L2.St → Hp → Prop, t { D with nx := Mid } σ H ∧ ∀ σ' H', Mid σ' H' → u D σ' H'
theorem pss_join {X : Cx} {st : Stmt} {rest : List Stmt} {t u : TS} (h1 : PS X st t) (h2 : PSs X rest u) : PSs X (st :: rest) (qJoin t u) := by
  refine ⟨fun pins s σ H D I h => ?_⟩
  obtain ⟨Mid, h, k⟩ := h
  refine wpAny_execs_cons (thn (h1.run pins s σ H { D with nx := Mid } I h) fun f s1 q => ?_)
  cases f with
  | next =>
    obtain ⟨σ', H', I', q⟩ := q
    exact h2.run pins s1 σ' H' D I' (k σ' H' q)
  | ret v => exact q
  | brk => exact q
  | cont => exact q
theorem cx_K {CX : CXT} {P : Program} {w : World} {K : PySem.W.Frag} {mg : Str → Option Value} {base : Heap} {N : List Str} {qual : Str} {sc : Scope} {f : Addr} {cd : Value} {A : Around} {outer : List Env} {s : Shared} {H : Hp} {E : XK} : (cxOf CX P w K mg base N qual sc f cd A outer s H E).nox.K = K := rfl
theorem cx_K2 {CX : CXT} {P : Program} {w : World} {K : PySem.W.Frag} {mg : Str → Option Value} {base : Heap} {N : List Str} {qual : Str} {sc : Scope} {f : Addr} {cd : Value} {A : Around} {outer : List Env} {s : Shared} {H : Hp} {E : XK} : (cxOf CX P w K mg base N qual sc f cd A outer s H E).K = K := rfl
theorem cx_w {CX : CXT} {P : Program} {w : World} {K : PySem.W.Frag} {mg : Str → Option Value} {base : Heap} {N : List Str} {qual : Str} {sc : Scope} {f : Addr} {cd : Value} {A : Around} {outer : List Env} {s : Shared} {H : Hp} {E : XK} : (cxOf CX P w K mg base N qual sc f cd A outer s H E).nox.w = w := rfl
/-! ### data: what a value stands for, off the objects M that change -/
/-- all that is not in M stays; nothing goes -/
structure Ext (M : List Addr) (H H' : Hp) : Prop where
  keep : ∀ b o, b ∉ M → H b = some o → H' b = some o
  there : ∀ b, H b ≠ none → H' b ≠ none
/-- the objects M stand -/
def Al (M : List Addr) (H : Hp) : Prop := ∀ b ∈ M, H b ≠ none
mutual
inductive Is (M : List Addr) (H : Hp) : V → PyData → Prop
  | non : Is M H .non .none
  | bl (b : Bool) : Is M H (.bl b) (.bool b)
  | int (i : Int) : Is M H (.int i) (.int i)
  | str (x : Str) : Is M H (.str x) (.str x)
  | lst {a : Addr} {xs : List V} {ds : List PyData} : a ∉ M → H a = some (.lst xs) → IsAll M H xs ds → Is M H (.ref a) (.list ds)
  | tup {a : Addr} {xs : List V} {ds : List PyData} : a ∉ M → H a = some (.tup xs) → IsAll M H xs ds → Is M H (.ref a) (.tuple ds)
inductive IsAll (M : List Addr) (H : Hp) : List V → List PyData → Prop
  | nil : IsAll M H [] []
  | cons {v : V} {vs : List V} {d : PyData} {ds : List PyData} : Is M H v d → IsAll M H vs ds → IsAll M H (v :: vs) (d :: ds)
end
section
variable {M M' : List Addr} {H H' H'' : Hp} {v x : V} {vs xs : List V} {d : PyData} {ds : List PyData} {a p : Addr} {o : HO} {K : PySem.W.Frag}
theorem Ext.refl : Ext M H H := ⟨fun _ _ _ h => h, fun _ h => h⟩
theorem Ext.trans (e : Ext M H H') (f : Ext M H' H'') : Ext M H H'' := ⟨fun b o hb h => f.keep b o hb (e.keep b o hb h), fun b h => f.there b (e.there b h)⟩
theorem Ext.more (e : Ext M H H') (h : ∀ b ∈ M, b ∈ M') : Ext M' H H' := ⟨fun b o hb k => e.keep b o (fun q => hb (h b q)) k, e.there⟩
theorem Ext.any (e : Ext [] H H') : Ext M H H' := e.more fun b h => nomatch h
theorem there_upd : ∀ b, H b ≠ none → (upd H p o) b ≠ none := fun b h => by
  unfold upd
  split
  · exact fun z => nomatch z
  · exact h
theorem Ext.new (h : H p = none) : Ext M H (upd H p o) := ⟨fun b u _ k => by rw [upd_ne (ne_of_none k h)]; exact k, there_upd⟩
theorem Ext.set (h : p ∈ M) : Ext M H (upd H p o) := ⟨fun b u hb k => by rw [upd_ne (fun e => hb (by rw [e]; exact h))]; exact k, there_upd⟩
/-- a change of what was not there at first -/
theorem Ext.mut (e : Ext M H H') (h : H p = none) : Ext M H (upd H' p o) := ⟨fun b u hb k => by rw [upd_ne (ne_of_none k h)]; exact e.keep b u hb k, fun b k => there_upd b (e.there b k)⟩
theorem Ext.same (e : Ext [] H H') : Same H H' := fun b o h => e.keep b o (fun q => nomatch q) h
theorem Ext.free (e : Ext M H H') (h : H' p = none) : H p = none := by
  cases q : H p with
  | none => rfl
  | some o => exact absurd h (e.there p (by rw [q]; exact fun z => nomatch z))
theorem Ext.drop (e : Ext (p :: M) H H') (h : H p = none) : Ext M H H' := ⟨fun b o hb k => e.keep b o (fun q => by
  rcases List.mem_cons.mp q with rfl | q
  · rw [h] at k; cases k
  · exact hb q) k, e.there⟩
theorem Al.ext (s : Al M H) (e : Ext M' H H') : Al M H' := fun b hb => e.there b (s b hb)
theorem Al.nil : Al [] H := fun b h => nomatch h
theorem Al.cons (h : H p ≠ none) (s : Al M H) : Al (p :: M) H := fun b hb => by
  rcases List.mem_cons.mp hb with rfl | hb
  · exact h
  · exact s b hb
theorem Al.fresh (s : Al M H) (h : H p = none) : p ∉ M := fun q => s p q h
theorem some_ne {b : Addr} {o : HO} (h : H b = some o) : H b ≠ none := by rw [h]; exact fun z => nomatch z
theorem upd_there : upd H p o p ≠ none := by rw [upd_same]; exact fun z => nomatch z
mutual
theorem Is.mono (e : Ext M H H') : ∀ {v : V} {d : PyData}, Is M H v d → Is M H' v d
  | _, _, .non => .non
  | _, _, .bl b => .bl b
  | _, _, .int i => .int i
  | _, _, .str x => .str x
  | _, _, .lst n h r => .lst n (e.keep _ _ n h) (IsAll.mono e r)
  | _, _, .tup n h r => .tup n (e.keep _ _ n h) (IsAll.mono e r)
theorem IsAll.mono (e : Ext M H H') : ∀ {vs : List V} {ds : List PyData}, IsAll M H vs ds → IsAll M H' vs ds
  | _, _, .nil => .nil
  | _, _, .cons h r => .cons (Is.mono e h) (IsAll.mono e r)
end
mutual
/-- other objects are looked away from -/
theorem Is.swap (h : ∀ b ∈ M', b ∈ M ∨ H b = none) : ∀ {v : V} {d : PyData}, Is M H v d → Is M' H v d
  | _, _, .non => .non
  | _, _, .bl b => .bl b
  | _, _, .int i => .int i
  | _, _, .str x => .str x
  | _, _, .lst n k r => .lst (fun q => by
      rcases h _ q with z | z
      · exact n z
      · rw [z] at k; cases k) k (IsAll.swap h r)
  | _, _, .tup n k r => .tup (fun q => by
      rcases h _ q with z | z
      · exact n z
      · rw [z] at k; cases k) k (IsAll.swap h r)
theorem IsAll.swap (h : ∀ b ∈ M', b ∈ M ∨ H b = none) : ∀ {vs : List V} {ds : List PyData}, IsAll M H vs ds → IsAll M' H vs ds
  | _, _, .nil => .nil
  | _, _, .cons k r => .cons (Is.swap h k) (IsAll.swap h r)
end
theorem Is.off (i : Is M H v d) (h : H p = none) : Is (p :: M) H v d := i.swap fun b hb => by
  rcases List.mem_cons.mp hb with rfl | hb
  · exact .inr h
  · exact .inl hb
theorem IsAll.off (i : IsAll M H vs ds) (h : H p = none) : IsAll (p :: M) H vs ds := i.swap fun b hb => by
  rcases List.mem_cons.mp hb with rfl | hb
  · exact .inr h
  · exact .inl hb
theorem Is.on (i : Is (p :: M) H v d) : Is M H v d := i.swap fun b hb => .inl (List.mem_cons_of_mem _ hb)
theorem IsAll.on (i : IsAll (p :: M) H vs ds) : IsAll M H vs ds := i.swap fun b hb => .inl (List.mem_cons_of_mem _ hb)
theorem Is.all (i : Is M H v d) : Is [] H v d := i.swap fun b hb => absurd hb (by simp)
/-- a new object beside -/
theorem Is.beside (i : Is M H v d) (h : H p = none) : Is (p :: M) (upd H p o) v d := (i.off h).mono (.set (List.mem_cons_self ..))
theorem IsAll.beside (i : IsAll M H vs ds) (h : H p = none) : IsAll (p :: M) (upd H p o) vs ds := (i.off h).mono (.set (List.mem_cons_self ..))
mutual
theorem Is.dp : ∀ {v : V} {d : PyData}, Is M H v d → Dp K H v d
  | _, _, .non => .non
  | _, _, .bl b => .bl b
  | _, _, .int i => .int i
  | _, _, .str x => .str x
  | _, _, .lst _ h r => .lst (SqL.of h) (IsAll.dp r)
  | _, _, .tup _ h r => .tup (SqT.of h) (IsAll.dp r)
theorem IsAll.dp : ∀ {vs : List V} {ds : List PyData}, IsAll M H vs ds → DpAll K H vs ds
  | _, _, .nil => .nil
  | _, _, .cons h r => .cons (Is.dp h) (IsAll.dp r)
end
theorem IsAll.length : ∀ {vs : List V} {ds : List PyData}, IsAll M H vs ds → vs.length = ds.length
  | _, _, .nil => rfl
  | _, _, .cons _ r => congrArg Nat.succ r.length
theorem IsAll.get : ∀ {vs : List V} {ds : List PyData} {i : Nat}, IsAll M H vs ds → ds[i]? = some d → ∃ v, vs[i]? = some v ∧ Is M H v d
  | _, _, _, .nil, e => by simp at e
  | _, _, 0, .cons h _, e => by simp at e; subst e; exact ⟨_, rfl, h⟩
  | _, _, i + 1, .cons _ r, e => by
    obtain ⟨u, h1, h2⟩ := IsAll.get (i := i) r (by simpa using e)
    exact ⟨u, by simpa using h1, h2⟩
theorem IsAll.got : ∀ {vs : List V} {ds : List PyData} {i : Nat}, IsAll M H vs ds → vs[i]? = some v → ∃ d, ds[i]? = some d ∧ Is M H v d
  | _, _, _, .nil, e => by simp at e
  | _, _, 0, .cons h _, e => by simp at e; subst e; exact ⟨_, rfl, h⟩
  | _, _, i + 1, .cons _ r, e => by
    obtain ⟨u, h1, h2⟩ := IsAll.got (i := i) r (by simpa using e)
    exact ⟨u, by simpa using h1, h2⟩
theorem IsAll.append : ∀ {vs ws : List V} {ds es : List PyData}, IsAll M H vs ds → IsAll M H ws es → IsAll M H (vs ++ ws) (ds ++ es)
  | _, _, _, _, .nil, s => s
  | _, _, _, _, .cons r t, s => .cons r (IsAll.append t s)
theorem IsAll.one (h : Is M H v d) : IsAll M H [v] [d] := .cons h .nil
theorem IsAll.take : ∀ {vs : List V} {ds : List PyData} (n : Nat), IsAll M H vs ds → IsAll M H (vs.take n) (ds.take n)
  | _, _, 0, _ => by simp only [List.take_zero]; exact .nil
  | _, _, _ + 1, .nil => .nil
  | _, _, n + 1, .cons r t => .cons r (IsAll.take n t)
theorem IsAll.drop : ∀ {vs : List V} {ds : List PyData} (n : Nat), IsAll M H vs ds → IsAll M H (vs.drop n) (ds.drop n)
  | _, _, 0, r => r
  | _, _, _ + 1, .nil => .nil
  | _, _, n + 1, .cons _ t => IsAll.drop n t
theorem IsAll.rev : ∀ {vs : List V} {ds : List PyData}, IsAll M H vs ds → IsAll M H vs.reverse ds.reverse
  | _, _, .nil => .nil
  | _, _, .cons r t => by
    rw [List.reverse_cons, List.reverse_cons]
    exact (IsAll.rev t).append (.one r)
theorem IsAll.set : ∀ {vs : List V} {ds : List PyData} (i : Nat), IsAll M H vs ds → Is M H v d → IsAll M H (vs.set i v) (ds.set i d)
  | _, _, _, .nil, _ => .nil
  | _, _, 0, .cons _ t, h => .cons h t
  | _, _, i + 1, .cons r t, h => .cons r (IsAll.set i t h)
theorem IsAll.ints : ∀ ns : List Int, IsAll M H (ns.map V.int) (ns.map PyData.int)
  | [] => .nil
  | n :: ns => .cons (.int n) (IsAll.ints ns)
theorem IsAll.ofInts : ∀ {vs : List V} {ns : List Int}, IsAll M H vs (ns.map PyData.int) → vs = ns.map V.int
  | _, [], h => by cases h; rfl
  | _, n :: ns, h => by
    cases h with
    | cons h r => cases h; rw [IsAll.ofInts r]; rfl
/-! readings -/
theorem Is.list (i : Is M H (.ref a) (.list ds)) : ∃ xs, a ∉ M ∧ H a = some (.lst xs) ∧ IsAll M H xs ds := by
  cases i with
  | lst n h r => exact ⟨_, n, h, r⟩
theorem Is.tuple (i : Is M H (.ref a) (.tuple ds)) : ∃ xs, a ∉ M ∧ H a = some (.tup xs) ∧ IsAll M H xs ds := by
  cases i with
  | tup n h r => exact ⟨_, n, h, r⟩
theorem Is.listV (i : Is M H v (.list ds)) : ∃ a xs, v = .ref a ∧ a ∉ M ∧ H a = some (.lst xs) ∧ IsAll M H xs ds := by
  cases i with
  | lst n h r => exact ⟨_, _, rfl, n, h, r⟩
theorem Is.tupleV (i : Is M H v (.tuple ds)) : ∃ a xs, v = .ref a ∧ a ∉ M ∧ H a = some (.tup xs) ∧ IsAll M H xs ds := by
  cases i with
  | tup n h r => exact ⟨_, _, rfl, n, h, r⟩
variable {Q : VK} {e : PyData}
theorem rd_dix {i : Int} {j : Nat} (h : Is M H (.ref a) (.list ds)) (hj : i = (j : Int)) (hd : ds[j]? = some d) (q : ∀ v, Is M H v d → Q v H) : rIxL K (.ref a) (.int i) H Q := by
  obtain ⟨xs, _, hx, r⟩ := h.list
  obtain ⟨v, hv, iv⟩ := r.get hd
  exact ⟨a, xs, i, v, rfl, rfl, SqL.of hx, by rw [hj]; exact atI_nat hv, q v iv⟩
theorem rd_dixT {i : Int} {j : Nat} (h : Is M H (.ref a) (.tuple ds)) (hj : i = (j : Int)) (hd : ds[j]? = some d) (q : ∀ v, Is M H v d → Q v H) : rIxT K (.ref a) (.int i) H Q := by
  obtain ⟨xs, _, hx, r⟩ := h.tuple
  obtain ⟨v, hv, iv⟩ := r.get hd
  exact ⟨a, xs, i, v, rfl, rfl, SqT.of hx, by rw [hj]; exact atI_nat hv, q v iv⟩
theorem rd_dlen (h : Is M H (.ref a) (.list ds)) (q : ds.length ≤ 1152921504606846976 → Q (.int ds.length) H) : qLen K [.ref a] H Q := by
  obtain ⟨xs, _, hx, r⟩ := h.list
  exact rd_lenL (SqL.of hx) (by rw [r.length]; exact q)
theorem rd_dlenT (h : Is M H (.ref a) (.tuple ds)) (q : ds.length ≤ 1152921504606846976 → Q (.int ds.length) H) : qLen K [.ref a] H Q := by
  obtain ⟨xs, _, hx, r⟩ := h.tuple
  exact rd_lenT (SqT.of hx) (by rw [r.length]; exact q)
theorem rd_eqD (h : Is M H x d) (k : Is M' H v e) (s1 : SeqAt.shaped d = true) (s2 : SeqAt.shaped e = true) (q : Q (.bl (PyData.eqv d e)) H) : rEqD K x v H Q := ⟨d, e, h.dp, k.dp, s1, s2, q⟩
theorem rd_neD (h : Is M H x d) (k : Is M' H v e) (s1 : SeqAt.shaped d = true) (s2 : SeqAt.shaped e = true) (q : Q (.bl (!PyData.eqv d e)) H) : rNeD K x v H Q := ⟨d, e, h.dp, k.dp, s1, s2, q⟩
/-- a new list, a new tuple -/
theorem new_lst (s : Al M H) (h : IsAll M H xs ds) (hp : H p = none) : Is M (upd H p (.lst xs)) (.ref p) (.list ds) := .lst (s.fresh hp) upd_same (h.mono (.new hp))
theorem new_tup (s : Al M H) (h : IsAll M H xs ds) (hp : H p = none) : Is M (upd H p (.tup xs)) (.ref p) (.tuple ds) := .tup (s.fresh hp) upd_same (h.mono (.new hp))
theorem szl {n : Nat} (h : n ≤ 1000) : n ≤ sizeLine := Nat.le_of_lt (small1000 h)
theorem szL {n : Nat} (h : n ≤ 100000) : n ≤ sizeLine := Nat.le_trans h (by decide)
theorem szl' {n : Nat} (h : n ≤ 100000) : n < sizeLine := Nat.lt_of_le_of_lt h (by decide)
theorem rd_dtup {K : PySem.W.Frag} {σ : L2.St} {ts : TA} (q : ts σ H fun xs H1 => xs.length ≤ sizeLine ∧ ∀ p, H1 p = none → Q (.ref p) (upd H1 p (.tup xs))) : tTup ts σ H Q := q
/-- slices by places that are not negative -/
theorem cut_nn (xs : List V) (lo hi : Nat) : cutV xs (some (lo : Int)) (some (hi : Int)) = (xs.take hi).drop lo := by
  unfold cutV
  rw [HT.sIx_nat, HT.sIx_nat, List.drop_take]
  apply List.ext_getElem?
  intro i
  simp only [List.getElem?_take, List.getElem?_drop]
  by_cases h1 : lo ≤ xs.length
  · rw [Nat.min_eq_left h1]
    by_cases h2 : hi ≤ xs.length
    · rw [Nat.min_eq_left h2]
    · rw [Nat.min_eq_right (by omega)]
      by_cases h3 : i < hi - lo
      · rw [if_pos h3]
        by_cases h4 : i < xs.length - lo
        · rw [if_pos h4]
        · rw [if_neg h4, List.getElem?_eq_none (by omega)]
      · rw [if_neg h3, if_neg (by omega)]
  · rw [Nat.min_eq_right (by omega : xs.length ≤ lo), if_neg (by omega)]
    split
    · rw [List.getElem?_eq_none (by omega)]
    · rfl
theorem cut_0n (xs : List V) (hi : Nat) : cutV xs none (some (hi : Int)) = xs.take hi := by
  have e := cut_nn xs 0 hi
  rw [List.drop_zero] at e
  rw [← e]
  unfold cutV
  rw [HT.sIx_nat, HT.sIx_nat, HT.sIx_none, Nat.zero_min]
theorem cut_n0 (xs : List V) (lo : Nat) : cutV xs (some (lo : Int)) none = xs.drop lo := by
  have e := cut_nn xs lo xs.length
  rw [List.take_length] at e
  rw [← e]
  unfold cutV
  rw [HT.sIx_nat, HT.sIx_nat, HT.sIx_none, Nat.min_self]
theorem cut_00 (xs : List V) : cutV xs none none = xs := by
  unfold cutV
  rw [HT.sIx_none, HT.sIx_none, List.drop_zero, Nat.sub_zero, List.take_length]
theorem IsAll.cut {lo hi : Nat} (h : IsAll M H xs ds) : IsAll M H (cutV xs (some (lo : Int)) (some (hi : Int))) ((ds.take hi).drop lo) := by
  rw [cut_nn]
  exact (h.take hi).drop lo
theorem IsAll.cut0 {hi : Nat} (h : IsAll M H xs ds) : IsAll M H (cutV xs none (some (hi : Int))) (ds.take hi) := by
  rw [cut_0n]
  exact h.take hi
theorem IsAll.cutN {lo : Nat} (h : IsAll M H xs ds) : IsAll M H (cutV xs (some (lo : Int)) none) (ds.drop lo) := by
  rw [cut_n0]
  exact h.drop lo
end
section
variable {M : List Addr} {H0 H H1 : Hp} {a D : Addr} {ds : List PyData} {K : PySem.W.Frag} {j : Nat} {vs : List Nat} {te : TE} {tt : TT} {σ : L2.St} {Qd : Hp → Prop} {g : TG} {tb : TS} {E : Ends}
/-- a walk over data, the list stands still -/
theorem for_data (h : Is M H0 (.ref a) (.list ds)) (Pv : Nat → L2.St → Hp → Prop) (h0 : Pv 0 σ H) (hE : ∀ i σ H, Pv i σ H → Ext M H0 H)
    (hs : ∀ i d x σ H, ds[i]? = some d → Is M H x d → Pv i σ H → g x σ H fun σ2 H2 => tb { E with nx := Pv (i + 1), ct := Pv (i + 1), bk := E.nx } σ2 H2) (hd : ∀ σ H, Pv ds.length σ H → E.nx σ H) :
    ∃ W : Nat → Nat → L2.St → Hp → Prop, (∃ m, W 0 m σ H) ∧ ∀ i m σ H, W i m σ H →
      ((Itl K a).stop i H ∧ E.nx σ H) ∨ ((Itl K a).go i H ∧ ∃ N : L2.St → Hp → Prop, (∀ σ' H', N σ' H' → ∃ m', m' < m ∧ W (i + 1) m' σ' H') ∧ ∀ x H', (Itl K a).yld i H x H' → g x σ H' fun σ2 H2 => tb { E with nx := N, ct := N, bk := E.nx } σ2 H2) := by
  obtain ⟨xs, na, hx, r⟩ := h.list
  refine for_list (xs := xs) Pv h0 (fun i σ H _ p => SqL.of ((hE i σ H p).keep _ _ na hx)) (fun i x σ H hi p => ?_) (fun σ H p => hd σ H (by rw [← r.length]; exact p))
  obtain ⟨d, hd', iv⟩ := r.got hi
  exact hs i d x σ H hd' (iv.mono (hE i σ H p)) p
theorem for_dataT (h : Is M H0 (.ref a) (.tuple ds)) (Pv : Nat → L2.St → Hp → Prop) (h0 : Pv 0 σ H) (hE : ∀ i σ H, Pv i σ H → Ext M H0 H)
    (hs : ∀ i d x σ H, ds[i]? = some d → Is M H x d → Pv i σ H → g x σ H fun σ2 H2 => tb { E with nx := Pv (i + 1), ct := Pv (i + 1), bk := E.nx } σ2 H2) (hd : ∀ σ H, Pv ds.length σ H → E.nx σ H) :
    ∃ W : Nat → Nat → L2.St → Hp → Prop, (∃ m, W 0 m σ H) ∧ ∀ i m σ H, W i m σ H →
      ((Itt K a).stop i H ∧ E.nx σ H) ∨ ((Itt K a).go i H ∧ ∃ N : L2.St → Hp → Prop, (∀ σ' H', N σ' H' → ∃ m', m' < m ∧ W (i + 1) m' σ' H') ∧ ∀ x H', (Itt K a).yld i H x H' → g x σ H' fun σ2 H2 => tb { E with nx := N, ct := N, bk := E.nx } σ2 H2) := by
  obtain ⟨xs, na, hx, r⟩ := h.tuple
  refine for_tup (xs := xs) Pv h0 (fun i σ H _ p => SqT.of ((hE i σ H p).keep _ _ na hx)) (fun i x σ H hi p => ?_) (fun σ H p => hd σ H (by rw [← r.length]; exact p))
  obtain ⟨d, hd', iv⟩ := r.got hi
  exact hs i d x σ H hd' (iv.mono (hE i σ H p)) p
/-- what a comprehension has made so far -/
structure Made (M : List Addr) (H0 : Hp) (D : Addr) (es : List PyData) (H : Hp) : Prop where
  free : H0 D = none
  ext : Ext [] H0 H
  off : D ∉ M
  ls : ∃ ys, H D = some (.lst ys) ∧ IsAll (D :: M) H ys es
theorem Made.start (s : Al M H0) (hD : H0 D = none) : Made M H0 D [] (upd H0 D (.lst [])) := ⟨hD, .new hD, s.fresh hD, [], upd_same, .nil⟩
theorem Made.al {es : List PyData} (m : Made M H0 D es H) (s : Al M H0) : Al (D :: M) H := by
  obtain ⟨ys, h1, h2⟩ := m.ls
  exact .cons (some_ne h1) (s.ext m.ext)
theorem Made.is {es : List PyData} (m : Made M H0 D es H) : Is M H (.ref D) (.list es) := by
  obtain ⟨ys, h1, h2⟩ := m.ls
  exact .lst m.off h1 h2.on
theorem Made.step {es : List PyData} {d : PyData} {y : V} {H' : Hp} (m : Made M H0 D es H) (e : Ext [] H H') (h : Is (D :: M) H' y d) (hl : es.length < 100000) :
    ∃ acc, H' D = some (.lst acc) ∧ acc.length < sizeLine ∧ Made M H0 D (es ++ [d]) (upd H' D (.lst (acc ++ [y]))) := by
  obtain ⟨ys, h1, h2⟩ := m.ls
  refine ⟨ys, e.keep _ _ (fun q => nomatch q) h1, szl' (by rw [h2.length]; omega), m.free, (m.ext.trans e).mut m.free, m.off, _, upd_same, ?_⟩
  exact ((h2.mono e.any).append (.one h)).mono (.set (List.mem_cons_self ..))
theorem Made.ext' {es : List PyData} {H' : Hp} (m : Made M H0 D es H) (e : Ext [] H H') : Made M H0 D es H' := by
  obtain ⟨ys, h1, h2⟩ := m.ls
  exact ⟨m.free, m.ext.trans e, m.off, ys, e.keep _ _ (fun q => nomatch q) h1, h2.mono e.any⟩
theorem rd_yes {H : Hp} {Q : Bool → Hp → Prop} (q : Q true H) : tYes σ H Q := q
/-- [e for x in range(..)] -/
theorem lc_rng {lo : Int} {n : Nat} (f : Nat → PyData) (s : Al M H0) (hD : H0 D = none) (hn : n ≤ 100000) (hw : ∀ x, wipe ((wipe σ vs).set j (some x)) vs = wipe σ vs)
    (he : ∀ (i : Nat) H', i < n → Al (D :: M) H' → Ext [] H0 H' → ∀ R : VK, (∀ y H'', Ext [] H' H'' → Is (D :: M) H'' y (f i) → R y H'') → te ((wipe σ vs).set j (some (.int (lo + i)))) H' R)
    (hd : ∀ H', Ext [] H0 H' → Is M H' (.ref D) (.list ((List.range n).map f)) → Qd H') :
    ∃ W : Nat → Nat → Hp → Prop, (∃ m, W 0 m (upd H0 D (.lst []))) ∧ ∀ i m H, W i m H →
      ((Itr lo n).stop i H ∧ Qd H) ∨ ((Itr lo n).go i H ∧ ∃ Nx : Hp → Prop, (∀ H', Nx H' → ∃ m', m' < m ∧ W (i + 1) m' H') ∧ ∀ x H', (Itr lo n).yld i H x H' → gName j x (wipe σ vs) H' fun σ2 H2 => wipe σ2 vs = wipe σ vs ∧ tYes σ2 H2 fun b H3 =>
        if b = true then te σ2 H3 fun y H4 => ∃ acc, H4 D = some (.lst acc) ∧ acc.length < sizeLine ∧ Nx (upd H4 D (.lst (acc ++ [y]))) else Nx H3) := by
  refine lc_range (fun i H' => Made M H0 D ((List.range i).map f) H') (Made.start s hD) (fun i H' hi m => ?_) fun H' m => hd H' m.ext m.is
  refine ⟨hw _, rd_yes ?_⟩
  refine iteT ?_
  refine he i H' hi (m.al s) m.ext _ fun y H'' e r => ?_
  rw [List.range_succ, List.map_append]
  exact m.step e r (by rw [List.length_map, List.length_range]; omega)
/-- [e for x in a list] -/
theorem lc_map (f : PyData → PyData) (s : Al M H0) (hD : H0 D = none) (h : Is M H0 (.ref a) (.list ds)) (hn : ds.length ≤ 100000) (hw : ∀ x, wipe ((wipe σ vs).set j (some x)) vs = wipe σ vs)
    (he : ∀ (x : V) (d : PyData) H', d ∈ ds → Al (D :: M) H' → Ext [] H0 H' → Is (D :: M) H' x d → ∀ R : VK, (∀ y H'', Ext [] H' H'' → Is (D :: M) H'' y (f d) → R y H'') → te ((wipe σ vs).set j (some x)) H' R)
    (hd : ∀ H', Ext [] H0 H' → Is M H' (.ref D) (.list (ds.map f)) → Qd H') :
    ∃ W : Nat → Nat → Hp → Prop, (∃ m, W 0 m (upd H0 D (.lst []))) ∧ ∀ i m H, W i m H →
      ((Itl K a).stop i H ∧ Qd H) ∨ ((Itl K a).go i H ∧ ∃ Nx : Hp → Prop, (∀ H', Nx H' → ∃ m', m' < m ∧ W (i + 1) m' H') ∧ ∀ x H', (Itl K a).yld i H x H' → gName j x (wipe σ vs) H' fun σ2 H2 => wipe σ2 vs = wipe σ vs ∧ tYes σ2 H2 fun b H3 =>
        if b = true then te σ2 H3 fun y H4 => ∃ acc, H4 D = some (.lst acc) ∧ acc.length < sizeLine ∧ Nx (upd H4 D (.lst (acc ++ [y]))) else Nx H3) := by
  obtain ⟨xs, na, hx, r⟩ := h.list
  refine lc_list (xs := xs) (fun i H' => Made M H0 D ((ds.take i).map f) H') (Made.start s hD) (fun i H' _ m => SqL.of (m.ext.keep _ _ (fun q => nomatch q) hx)) (fun i x H' hi m => ?_) fun H' m => hd H' m.ext (by have z := m.is; rw [r.length, List.take_length] at z; exact z)
  obtain ⟨d, hd', iv⟩ := r.got hi
  have hlt : i < ds.length := (List.getElem?_eq_some_iff.mp hd').1
  refine ⟨hw _, rd_yes ?_⟩
  refine iteT ?_
  refine he x d H' (List.mem_of_getElem? hd') (m.al s) m.ext ((iv.off hD).mono m.ext.any) _ fun y H'' e r => ?_
  have et : ds.take (i + 1) = ds.take i ++ [d] := by rw [List.take_add_one, hd']; rfl
  rw [et, List.map_append]
  exact m.step e r (by rw [List.length_map, List.length_take]; omega)
/-- [e for x in a list if test] -/
theorem lc_filter (f : PyData → PyData) (p : PyData → Bool) (s : Al M H0) (hD : H0 D = none) (h : Is M H0 (.ref a) (.list ds)) (hn : ds.length ≤ 100000) (hw : ∀ x, wipe ((wipe σ vs).set j (some x)) vs = wipe σ vs)
    (ht : ∀ (x : V) (d : PyData) H', d ∈ ds → Al (D :: M) H' → Ext [] H0 H' → Is (D :: M) H' x d → ∀ R : Bool → Hp → Prop, (∀ H'', Ext [] H' H'' → R (p d) H'') → tt ((wipe σ vs).set j (some x)) H' R)
    (he : ∀ (x : V) (d : PyData) H', d ∈ ds → p d = true → Al (D :: M) H' → Ext [] H0 H' → Is (D :: M) H' x d → ∀ R : VK, (∀ y H'', Ext [] H' H'' → Is (D :: M) H'' y (f d) → R y H'') → te ((wipe σ vs).set j (some x)) H' R)
    (hd : ∀ H', Ext [] H0 H' → Is M H' (.ref D) (.list ((ds.filter p).map f)) → Qd H') :
    ∃ W : Nat → Nat → Hp → Prop, (∃ m, W 0 m (upd H0 D (.lst []))) ∧ ∀ i m H, W i m H →
      ((Itl K a).stop i H ∧ Qd H) ∨ ((Itl K a).go i H ∧ ∃ Nx : Hp → Prop, (∀ H', Nx H' → ∃ m', m' < m ∧ W (i + 1) m' H') ∧ ∀ x H', (Itl K a).yld i H x H' → gName j x (wipe σ vs) H' fun σ2 H2 => wipe σ2 vs = wipe σ vs ∧ tt σ2 H2 fun b H3 =>
        if b = true then te σ2 H3 fun y H4 => ∃ acc, H4 D = some (.lst acc) ∧ acc.length < sizeLine ∧ Nx (upd H4 D (.lst (acc ++ [y]))) else Nx H3) := by
  obtain ⟨xs, na, hx, r⟩ := h.list
  refine lc_list (xs := xs) (fun i H' => Made M H0 D (((ds.take i).filter p).map f) H') (Made.start s hD) (fun i H' _ m => SqL.of (m.ext.keep _ _ (fun q => nomatch q) hx)) (fun i x H' hi m => ?_) fun H' m => hd H' m.ext (by have z := m.is; rw [r.length, List.take_length] at z; exact z)
  obtain ⟨d, hd', iv⟩ := r.got hi
  have hlt : i < ds.length := (List.getElem?_eq_some_iff.mp hd').1
  have et : ds.take (i + 1) = ds.take i ++ [d] := by rw [List.take_add_one, hd']; rfl
  refine ⟨hw _, ?_⟩
  refine ht x d H' (List.mem_of_getElem? hd') (m.al s) m.ext ((iv.off hD).mono m.ext.any) _ fun H2 e2 => ?_
  rw [et, List.filter_append, List.map_append]
  cases hp : p d with
  | true =>
    refine iteT (he x d H2 (List.mem_of_getElem? hd') hp ((m.al s).ext e2) (m.ext.trans e2) ((iv.off hD).mono (m.ext.trans e2).any) _ fun y H'' e r => ?_)
    rw [List.filter_cons, if_pos hp]
    refine m.step (e2.trans e) r ?_
    rw [List.length_map]
    have z := List.length_filter_le p (ds.take i)
    rw [List.length_take] at z
    omega
  | false =>
    refine iteF ?_
    rw [List.filter_cons, if_neg (by rw [hp]; exact Bool.false_ne_true)]
    show Made M H0 D (_ ++ []) H2
    rw [List.append_nil]
    exact m.ext' e2
end
section
variable {K : PySem.W.Frag} {σ : L2.St} {H : Hp} {Q : VK} {te : TE} {l : Addr} {xs : List V}
/-- l.append(e) -/
theorem rd_app (h : H l = some (.lst xs)) (q : te σ H fun y H2 => ∃ ys, H2 l = some (.lst ys) ∧ ys.length < sizeLine ∧ Q .non (upd H2 l (.lst (ys ++ [y])))) :
    tyV K "list" (.ref l) H ∧ tCons te tNil σ H fun vs H2 => rAppend (.ref l) vs H2 Q := by
  refine ⟨.inl ⟨rfl, _, SqL.of h⟩, ?_⟩
  refine rd_cons ?_
  have : (fun y H2 => ∃ ys, H2 l = some (.lst ys) ∧ ys.length < sizeLine ∧ Q .non (upd H2 l (.lst (ys ++ [y])))) = fun y H2 => tNil σ H2 fun vs H3 => rAppend (.ref l) (y :: vs) H3 Q := by
    funext y H2
    refine propext ⟨?_, ?_⟩
    · rintro ⟨ys, a, b, c⟩
      exact ⟨l, ys, y, rfl, rfl, a, b, c⟩
    · rintro ⟨l', ys, y', e1, e2, a, b, c⟩
      cases e1; cases e2
      exact ⟨ys, a, b, c⟩
  rw [← this]
  exact q
end
/-! shapes -/
theorem clAll_mem : ∀ {ds : List PyData}, (∀ d ∈ ds, PyData.canLay0 d = true) → PyData.canLayAll0 ds = true
  | [], _ => by simp [PyData.canLayAll0]
  | d :: ds, h => by
    simp only [PyData.canLayAll0, Bool.and_eq_true]
    exact ⟨h d (List.mem_cons_self ..), clAll_mem fun e he => h e (List.mem_cons_of_mem _ he)⟩
theorem depthAll_mem {n : Nat} : ∀ {ds : List PyData}, (∀ d ∈ ds, PyData.depth d ≤ n) → PyData.depthAll ds ≤ n
  | [], _ => by simp [PyData.depthAll]
  | d :: ds, h => by
    simp only [PyData.depthAll]
    exact Nat.max_le.mpr ⟨h d (List.mem_cons_self ..), depthAll_mem fun e he => h e (List.mem_cons_of_mem _ he)⟩
/-- shaped, at most n deep -/
def Sh (n : Nat) (d : PyData) : Prop := PyData.canLay0 d = true ∧ PyData.depth d ≤ n
theorem Sh.ok {n : Nat} {d : PyData} (h : Sh n d) (hn : n ≤ 64 := by decide) : SeqAt.shaped d = true := by
  unfold SeqAt.shaped
  rw [h.1, Bool.true_and]
  exact decide_eq_true (Nat.le_trans h.2 hn)
theorem Sh.int {n : Nat} (i : Int) : Sh n (.int i) := ⟨by simp [PyData.canLay0], by simp [PyData.depth]⟩
theorem Sh.non {n : Nat} : Sh n .none := ⟨by simp [PyData.canLay0], by simp [PyData.depth]⟩
theorem Sh.bl {n : Nat} (b : Bool) : Sh n (.bool b) := ⟨by simp [PyData.canLay0], by simp [PyData.depth]⟩
theorem Sh.list {n : Nat} {ds : List PyData} (h : ∀ d ∈ ds, Sh n d) : Sh (n + 1) (.list ds) :=
  ⟨by simp only [PyData.canLay0]; exact clAll_mem fun d hd => (h d hd).1, by simp only [PyData.depth]; exact Nat.succ_le_succ (depthAll_mem fun d hd => (h d hd).2)⟩
theorem Sh.tuple {n : Nat} {ds : List PyData} (h : ∀ d ∈ ds, Sh n d) : Sh (n + 1) (.tuple ds) :=
  ⟨by simp only [PyData.canLay0]; exact clAll_mem fun d hd => (h d hd).1, by simp only [PyData.depth]; exact Nat.succ_le_succ (depthAll_mem fun d hd => (h d hd).2)⟩
theorem Sh.refl {n : Nat} {d : PyData} (h : Sh n d) : PyData.eqv d d = true := SeqAt.eqv_refl d h.1
/-- lists of numbers -/
abbrev nats (ns : List Nat) : PyData := .list (ns.map fun n : Nat => .int n)
theorem sh_nats {n : Nat} (ns : List Nat) : Sh (n + 1) (nats ns) := Sh.list fun d hd => by
  obtain ⟨k, _, rfl⟩ := List.mem_map.mp hd
  exact .int _
theorem eqvAll_ints : ∀ xs ys : List Nat, PyData.eqvAll (xs.map fun n : Nat => .int n) (ys.map fun n : Nat => .int n) = decide (xs = ys)
  | [], [] => by simp [PyData.eqvAll]
  | [], _ :: _ => by simp [PyData.eqvAll]
  | _ :: _, [] => by simp [PyData.eqvAll]
  | x :: xs, y :: ys => by
    have ih := eqvAll_ints xs ys
    simp only [List.map_cons, PyData.eqvAll, PyData.eqv, ih]
    by_cases h : x = y
    · subst h; simp
    · have : ¬ (x : Int) = (y : Int) := by omega
      simp [h, this]
theorem eqv_nats (xs ys : List Nat) : PyData.eqv (nats xs) (nats ys) = decide (xs = ys) := by
  simp only [PyData.eqv]
  exact eqvAll_ints xs ys
theorem nats_V {M : List Addr} {H : Hp} (ns : List Nat) : IsAll M H (ns.map fun n : Nat => V.int n) (ns.map fun n : Nat => PyData.int n) := by
  induction ns with
  | nil => exact .nil
  | cons n ns ih => exact .cons (.int _) ih
/-! ### loops, comprehensions, slices: the rest of their readings under names -/
def qFor (J : It) (g : TG) (tb : TS) (D : Ends) (σ : L2.St) (H1 : Hp) : Prop := ∃ W : Nat → Nat → L2.St → Hp → Prop, (∃ m, W 0 m σ H1) ∧ ∀ i m σ H, W i m σ H → (J.stop i H ∧ D.nx σ H) ∨
  (J.go i H ∧ ∃ N : L2.St → Hp → Prop, (∀ σ' H', N σ' H' → ∃ m', m' < m ∧ W (i + 1) m' σ' H') ∧ ∀ x H', J.yld i H x H' → g x σ H' fun σ2 H2 => tb { D with nx := N, ct := N, bk := D.nx } σ2 H2)
def qLc (J : It) (g : TG) (tt : TT) (te : TE) (vs : List Nat) (σ : L2.St) (D : Addr) (H1 : Hp) (Q : VK) : Prop := ∃ W : Nat → Nat → Hp → Prop, (∃ m, W 0 m (upd H1 D (.lst []))) ∧ ∀ i m H, W i m H → (J.stop i H ∧ Q (.ref D) H) ∨
  (J.go i H ∧ ∃ Nx : Hp → Prop, (∀ H', Nx H' → ∃ m', m' < m ∧ W (i + 1) m' H') ∧ ∀ x H', J.yld i H x H' → g x (wipe σ vs) H' fun σ2 H2 => wipe σ2 vs = wipe σ vs ∧ tt σ2 H2 fun b H3 => if b = true then te σ2 H3 fun y H4 => ∃ acc, H4 D = some (.lst acc) ∧ acc.length < sizeLine ∧ Nx (upd H4 D (.lst (acc ++ [y]))) else Nx H3)
section
variable {K : PySem.W.Frag} {σ : L2.St} {H : Hp} {Q : VK} {wi : TI} {g : TG} {tb : TS} {D : Ends} {tt : TT} {te : TE} {vs : List Nat} {ta : TA} {R : It → Hp → Prop} {r : V → Option Int → Option Int → Hp → VK → Prop} {tl th : TO}
theorem rd_for (q : wi σ H fun J H1 => qFor J g tb D σ H1) : tFor wi g tb D σ H := q
theorem rd_lc (q : wi σ H fun J H1 => ∀ D, H1 D = none → qLc J g tt te vs σ D H1 Q) : tLc wi g tt te vs σ H Q := q
theorem rd_rng1 (q : ta σ H fun vs H1 => ∃ j : Int, vs = [.int j] ∧ -(2 ^ 62) ≤ j ∧ j < 2 ^ 62 ∧ R (Itr 0 j.toNat) H1) : iRng1 ta σ H R := q
theorem rd_rng2 (q : ta σ H fun vs H1 => ∃ i j : Int, vs = [.int i, .int j] ∧ (-(2 ^ 62) ≤ i ∧ i < 2 ^ 62 ∧ -(2 ^ 62) ≤ j ∧ j < 2 ^ 62) ∧ R (Itr i (j - i).toNat) H1) : iRng2 ta σ H R := q
theorem rd_rng {j : Int} {P : Int → Prop} (h0 : -(2 ^ 62) ≤ j) (h1 : j < 2 ^ 62) (q : P j) : ∃ i : Int, [V.int j] = [.int i] ∧ -(2 ^ 62) ≤ i ∧ i < 2 ^ 62 ∧ P i := ⟨j, rfl, h0, h1, q⟩
theorem rd_rngB {i j : Int} (h : -(2 ^ 62) ≤ i ∧ i < 2 ^ 62 ∧ -(2 ^ 62) ≤ j ∧ j < 2 ^ 62) {P : Int → Int → Prop} (q : P i j) : ∃ i' j' : Int, [V.int i, V.int j] = [.int i', .int j'] ∧ (-(2 ^ 62) ≤ i' ∧ i' < 2 ^ 62 ∧ -(2 ^ 62) ≤ j' ∧ j' < 2 ^ 62) ∧ P i' j' := ⟨i, j, rfl, h, q⟩
theorem rd_il (q : te σ H fun x H1 => ∃ a, x = .ref a ∧ (∃ xs, SqL K H1 a xs) ∧ R (Itl K a) H1) : iList K te σ H R := q
theorem rd_it (q : te σ H fun x H1 => ∃ a, x = .ref a ∧ (∃ xs, SqT K H1 a xs) ∧ R (Itt K a) H1) : iTup K te σ H R := q
theorem rd_itl {a : Addr} {P : Addr → Prop} (h : ∃ xs, SqL K H a xs) (q : P a) : ∃ a', V.ref a = .ref a' ∧ (∃ xs, SqL K H a' xs) ∧ P a' := ⟨a, rfl, h, q⟩
theorem rd_itt {a : Addr} {P : Addr → Prop} (h : ∃ xs, SqT K H a xs) (q : P a) : ∃ a', V.ref a = .ref a' ∧ (∃ xs, SqT K H a' xs) ∧ P a' := ⟨a, rfl, h, q⟩
theorem Is.sql {M : List Addr} {a : Addr} {ds : List PyData} (i : Is M H (.ref a) (.list ds)) : ∃ xs, SqL K H a xs := by
  obtain ⟨xs, _, h, _⟩ := i.list
  exact ⟨xs, SqL.of h⟩
theorem Is.sqt {M : List Addr} {a : Addr} {ds : List PyData} (i : Is M H (.ref a) (.tuple ds)) : ∃ xs, SqT K H a xs := by
  obtain ⟨xs, _, h, _⟩ := i.tuple
  exact ⟨xs, SqT.of h⟩
theorem sql_of {a : Addr} {xs : List V} (h : H a = some (.lst xs)) : ∃ xs, SqL K H a xs := ⟨xs, SqL.of h⟩
theorem rd_sl (q : te σ H fun x H1 => tl σ H1 fun l H2 => th σ H2 fun u H3 => r x l u H3 Q) : tSl r te tl th σ H Q := q
theorem rd_part {QO : Option Int → Hp → Prop} (q : te σ H fun x H1 => ∃ i, x = .int i ∧ QO (some i) H1) : tPart te σ H QO := q
theorem rd_pi {i : Int} {P : Int → Prop} (q : P i) : ∃ i', V.int i = .int i' ∧ P i' := ⟨i, rfl, q⟩
theorem rd_pn {QO : Option Int → Hp → Prop} (q : QO none H) : tNoPart σ H QO := q
theorem rd_slL {M : List Addr} {a : Addr} {lo hi : Option Int} {ds : List PyData} (h : Is M H (.ref a) (.list ds)) (q : ∀ xs, H a = some (.lst xs) → IsAll M H xs ds → ∀ p, H p = none → Q (.ref p) (upd H p (.lst (cutV xs lo hi)))) : rSlL K (.ref a) lo hi H Q := by
  obtain ⟨xs, _, hx, r⟩ := h.list
  exact ⟨a, xs, rfl, SqL.of hx, q xs hx r⟩
/-- a range, by its turns -/
theorem q_range {lo : Int} {n : Nat} (Pv : Nat → L2.St → Hp → Prop) (h0 : Pv 0 σ H) (hs : ∀ i σ H, i < n → Pv i σ H → g (.int (lo + i)) σ H fun σ2 H2 => tb { D with nx := Pv (i + 1), ct := Pv (i + 1), bk := D.nx } σ2 H2)
    (hd : ∀ σ H, Pv n σ H → D.nx σ H) : qFor (Itr lo n) g tb D σ H := for_range Pv h0 hs hd
theorem q_data {M : List Addr} {H0 : Hp} {a : Addr} {ds : List PyData} (h : Is M H0 (.ref a) (.list ds)) (Pv : Nat → L2.St → Hp → Prop) (h0 : Pv 0 σ H) (hE : ∀ i σ H, Pv i σ H → Ext M H0 H)
    (hs : ∀ i d x σ H, ds[i]? = some d → Is M H x d → Pv i σ H → g x σ H fun σ2 H2 => tb { D with nx := Pv (i + 1), ct := Pv (i + 1), bk := D.nx } σ2 H2) (hd : ∀ σ H, Pv ds.length σ H → D.nx σ H) : qFor (Itl K a) g tb D σ H := for_data h Pv h0 hE hs hd
theorem q_dataT {M : List Addr} {H0 : Hp} {a : Addr} {ds : List PyData} (h : Is M H0 (.ref a) (.tuple ds)) (Pv : Nat → L2.St → Hp → Prop) (h0 : Pv 0 σ H) (hE : ∀ i σ H, Pv i σ H → Ext M H0 H)
    (hs : ∀ i d x σ H, ds[i]? = some d → Is M H x d → Pv i σ H → g x σ H fun σ2 H2 => tb { D with nx := Pv (i + 1), ct := Pv (i + 1), bk := D.nx } σ2 H2) (hd : ∀ σ H, Pv ds.length σ H → D.nx σ H) : qFor (Itt K a) g tb D σ H := for_dataT h Pv h0 hE hs hd
end
section
variable {K : PySem.W.Frag} {σ : L2.St} {H : Hp} {Q : VK} {te : TE} {a : Addr} {xs : List V}
theorem rd_rev (q : te σ H fun x H1 => ∃ a xs, x = .ref a ∧ SqL K H1 a xs ∧ ∀ p, H1 p = none → Q (.ref p) (upd H1 p (.lst xs.reverse))) : tRevL K te σ H Q := q
theorem rd_revd (h : SqL K H a xs) (q : ∀ p, H p = none → Q (.ref p) (upd H p (.lst xs.reverse))) : ∃ a' xs', V.ref a = .ref a' ∧ SqL K H a' xs' ∧ ∀ p, H p = none → Q (.ref p) (upd H p (.lst xs'.reverse)) := ⟨a, xs, rfl, h, q⟩
theorem rd_listT {p : Addr} (h : SqT K H p xs) (q : ∀ l, H l = none → Q (.ref l) (upd H l (.lst xs))) : qListOf K [.ref p] H Q := ⟨p, xs, rfl, .inr h, q⟩
theorem rd_cat {l b : Addr} {xs zs : List V} (h : H l = some (.lst xs)) (k : H b = some (.lst zs)) (hz : xs.length + zs.length ≤ sizeLine) (q : ∀ p, H p = none → Q (.ref p) (upd H p (.lst (xs ++ zs)))) : rCat (.ref l) (.ref b) H Q := ⟨l, b, xs, zs, rfl, rfl, h, k, hz, q⟩
theorem rd_dcat {M : List Addr} {l b : Addr} {ds es : List PyData} (s : Al M H) (h : Is M H (.ref l) (.list ds)) (k : Is M H (.ref b) (.list es)) (hz : ds.length + es.length ≤ 100000)
    (q : ∀ p H', H p = none → Ext [] H H' → (∃ xs, H' p = some (.lst xs) ∧ IsAll (p :: M) H' xs (ds ++ es)) → Is M H' (.ref p) (.list (ds ++ es)) → Q (.ref p) H') : rCat (.ref l) (.ref b) H Q := by
  obtain ⟨xs, _, hx, r⟩ := h.list
  obtain ⟨zs, _, hz', r'⟩ := k.list
  refine rd_cat hx hz' (szL (by rw [r.length, r'.length]; exact hz)) fun p hp => ?_
  exact q p _ hp (.new hp) ⟨_, upd_same, (r.append r').beside hp⟩ (new_lst s (r.append r') hp)
theorem rd_dlist {M : List Addr} {l : Addr} {ds : List PyData} (s : Al M H) (h : Is M H (.ref l) (.list ds))
    (q : ∀ p H', H p = none → Ext [] H H' → (∃ xs, H' p = some (.lst xs) ∧ IsAll (p :: M) H' xs ds) → Is M H' (.ref p) (.list ds) → Q (.ref p) H') : qListOf K [.ref l] H Q := by
  obtain ⟨xs, _, hx, r⟩ := h.list
  refine rd_listL (SqL.of hx) fun p hp => ?_
  exact q p _ hp (.new hp) ⟨_, upd_same, r.beside hp⟩ (new_lst s r hp)
end
/-! ### rules with the written part by its name (so that they stand within comprehensions too) -/
section
variable {X : Cx} (K : PySem.W.Frag) (hK : X.K = K := by rfl)
include hK
theorem sl_listK : SlR X (rSlL K) := hK ▸ sl_list
theorem sl_tupK : SlR X (rSlT K) := hK ▸ sl_tup
theorem ix_listK : IxR X (rIxL K) := hK ▸ ix_list
theorem ix_tupK : IxR X (rIxT K) := hK ▸ ix_tup
theorem ix_seqK : IxR X (rIx K) := hK ▸ ix_seq
theorem get_listK : PGet X (rIxL K) := hK ▸ get_list
theorem call_lenK : CallR X (.builtin "len") (qLen K) := hK ▸ call_lenq
theorem call_listK : CallR X (.type "list") (qListOf K) := hK ▸ call_listq
theorem call_isK : CallR X (.builtin "isinstance") (rIsi K) := hK ▸ call_isi
theorem op_in_seqK : OpR X (compareOp .In) (rIn K false) := hK ▸ op_in_seq
theorem op_notIn_seqK : OpR X (compareOp .NotIn) (rIn K true) := hK ▸ op_notIn_seq
theorem op_catTK : OpR X (binaryOp .Add) (rCatT K) := hK ▸ op_catT
omit hK
theorem op_eqDK (hu : X.A.units + 64 < cLine) (hK : X.K = K := by rfl) : OpR X (compareOp .Eq) (rEqD K) := hK ▸ op_eqD hu
theorem op_neDK (hu : X.A.units + 64 < cLine) (hK : X.K = K := by rfl) : OpR X (compareOp .NotEq) (rNeD K) := hK ▸ op_neD hu
end
section
variable {X : Cx} {e o : Expr} {ta to te : TE} {t : TA} {tg : Expr} {pos : Pos} {f : Str}
theorem pe_fldK (K : PySem.W.Frag) (he : PE X e ta) (hb : attributeBase e f X.env (eval e X.env) = eval e X.env) (hK : X.K = K := by rfl) : PE X (.Attribute e f pos) (tFld K ta f) := hK ▸ pe_fld he hb
def qTru (K : PySem.W.Frag) (ta : TE) : TT := fun σ H Q => ta σ H fun x H' => ∃ k, TruV K x H' k ∧ Q k H'
theorem pt_truthK (K : PySem.W.Frag) (ha : PE X e ta) (he : ∀ whole, isTrue e X.env whole = (do let v ← whole; standAt e.pos; holding [v] (truthy v))) (hK : X.K = K := by rfl) : PT X e (qTru K ta) := by
  subst hK
  exact pt_truth ha he
theorem pi_listK (K : PySem.W.Frag) (hl : PE X e te) (hK : X.K = K := by rfl) : PI X tg e (iList K te) := hK ▸ pi_list hl
theorem pi_tupK (K : PySem.W.Frag) (hl : PE X e te) (hK : X.K = K := by rfl) : PI X tg e (iTup K te) := hK ▸ pi_tup hl
theorem pg_tupK (K : PySem.W.Frag) {es : List Expr} {k : Nat} {t : TGs} {n : Nat} (hc : X.calm = true) (h : PGs X es t) (hn : (assignEach es X.env).length = n := by rfl) (hst : (assignEach es X.env).findIdx? (·.1) = none := by rfl) (hK : X.K = K := by rfl) : PG X (.Tuple es k pos) (gTup K n t) := hK ▸ pg_tup hc h hn hst
theorem pe_revLK (K : PySem.W.Frag) {k : Nat} {p1 p2 p3 : Pos} (he : PE X e te) (hK : X.K = K := by rfl) : PE X (.Subscript e (.Slice none none (some (.UnaryOp .USub (.Constant (.int 1) k p1) p2)) p3) pos) (tRevL K te) := hK ▸ pe_revL he
theorem rd_tru {K : PySem.W.Frag} {σ : L2.St} {H : Hp} {Q : Bool → Hp → Prop} (q : ta σ H fun x H' => ∃ k, TruV K x H' k ∧ Q k H') : qTru K ta σ H Q := q
end
section
variable {M : List Addr} {H0 H H1 : Hp} {a D : Addr} {ds : List PyData} {K : PySem.W.Frag} {j : Nat} {vs : List Nat} {te : TE} {tt : TT} {σ : L2.St} {Q : VK} {ta : TA} {R : It → Hp → Prop}
theorem rd_u {g : Int → V} {i : Int} (q : Q (g i) H) : rU g (.int i) H Q := ⟨i, rfl, q⟩
theorem rd_rng3 (q : ta σ H fun vs H1 => ∃ (i j c : Int) (n : Nat), vs = [.int i, .int j, .int c] ∧ RgC i j c n ∧ R (Itc i c n) H1) : iRng3 ta σ H R := q
theorem rgC_up {i j c : Int} (hc : 0 < c) (hc' : c < 1073741824) (ha : 0 ≤ i) (ha' : i < 2 ^ 62) (hb : 0 ≤ j) (hb' : j < 2 ^ 62) : RgC i j c (if i < j then (j - i - 1) / c + 1 else 0).toNat := by
  refine ⟨by omega, by omega, ?_, ?_⟩
  · have h1 : 0 ≤ (j - i - 1) / c ∨ ¬ i < j := by
      by_cases h : i < j
      · exact .inl (Int.ediv_nonneg (by omega) (by omega))
      · exact .inr h
    have h2 : i < j → (j - i - 1) / c ≤ j - i - 1 := fun h => Int.ediv_le_self _ (by omega)
    unfold Builtin.Range.small Builtin.Range.rangeSize
    simp only [Builtin.Range.rangeFitsLong, Bool.and_eq_true, Bool.or_eq_true, decide_eq_true_eq, beq_iff_eq, hc, gt_iff_lt, if_true]
    by_cases h : i < j
    · have := h2 h
      have := h1.resolve_right (fun q => q h)
      simp only [h, if_true]
      omega
    · simp only [h, if_false]
      omega
  · unfold Builtin.Range.rangeSize
    simp only [hc, gt_iff_lt, if_true]
    by_cases h : i < j
    · simp only [h, if_true]
      have := Int.ediv_nonneg (a := j - i - 1) (b := c) (by omega) (by omega)
      omega
    · simp only [h, if_false]
      rfl
/-- [e for x in range(i, j, c)] -/
theorem q_lcC {lo c : Int} {n : Nat} (f : Nat → PyData) (s : Al M H0) (hD : H0 D = none) (hn : n ≤ 100000) (hw : ∀ x, wipe ((wipe σ vs).set j (some x)) vs = wipe σ vs)
    (he : ∀ (i : Nat) H', i < n → Al (D :: M) H' → Ext [] H0 H' → ∀ R : VK, (∀ y H'', Ext [] H' H'' → Is (D :: M) H'' y (f i) → R y H'') → te ((wipe σ vs).set j (some (.int (lo + (i : Nat) * c)))) H' R)
    (hd : ∀ H', Ext [] H0 H' → Is M H' (.ref D) (.list ((List.range n).map f)) → Q (.ref D) H') : qLc (Itc lo c n) (gName j) tYes te vs σ D H0 Q := by
  refine ⟨fun i m H => m = n - i ∧ i ≤ n ∧ Made M H0 D ((List.range i).map f) H, ⟨n, by simp, Nat.zero_le _, Made.start s hD⟩, ?_⟩
  rintro i m H ⟨rfl, hi, p⟩
  by_cases hlt : i < n
  · refine .inr ⟨hlt, fun H' => Made M H0 D ((List.range (i + 1)).map f) H', fun H' p' => ⟨n - (i + 1), by omega, rfl, hlt, p'⟩, fun x H' y => ?_⟩
    obtain ⟨e, y⟩ := y
    subst e y
    refine ⟨hw _, rd_yes ?_⟩
    refine iteT ?_
    refine he i _ hlt (p.al s) p.ext _ fun y H'' e r => ?_
    rw [List.range_succ, List.map_append]
    exact p.step e r (by rw [List.length_map, List.length_range]; omega)
  · have e : i = n := by omega
    subst e
    exact .inl ⟨Nat.le_refl _, hd H p.ext p.is⟩
theorem q_lcR {lo : Int} {n : Nat} (f : Nat → PyData) (s : Al M H0) (hD : H0 D = none) (hn : n ≤ 100000) (hw : ∀ x, wipe ((wipe σ vs).set j (some x)) vs = wipe σ vs)
    (he : ∀ (i : Nat) H', i < n → Al (D :: M) H' → Ext [] H0 H' → ∀ R : VK, (∀ y H'', Ext [] H' H'' → Is (D :: M) H'' y (f i) → R y H'') → te ((wipe σ vs).set j (some (.int (lo + i)))) H' R)
    (hd : ∀ H', Ext [] H0 H' → Is M H' (.ref D) (.list ((List.range n).map f)) → Q (.ref D) H') : qLc (Itr lo n) (gName j) tYes te vs σ D H0 Q := lc_rng f s hD hn hw he hd
theorem q_lcL (f : PyData → PyData) (s : Al M H0) (hD : H0 D = none) (h : Is M H0 (.ref a) (.list ds)) (hn : ds.length ≤ 100000) (hw : ∀ x, wipe ((wipe σ vs).set j (some x)) vs = wipe σ vs)
    (he : ∀ (x : V) (d : PyData) H', d ∈ ds → Al (D :: M) H' → Ext [] H0 H' → Is (D :: M) H' x d → ∀ R : VK, (∀ y H'', Ext [] H' H'' → Is (D :: M) H'' y (f d) → R y H'') → te ((wipe σ vs).set j (some x)) H' R)
    (hd : ∀ H', Ext [] H0 H' → Is M H' (.ref D) (.list (ds.map f)) → Q (.ref D) H') : qLc (Itl K a) (gName j) tYes te vs σ D H0 Q := lc_map f s hD h hn hw he hd
theorem q_lcF (f : PyData → PyData) (p : PyData → Bool) (s : Al M H0) (hD : H0 D = none) (h : Is M H0 (.ref a) (.list ds)) (hn : ds.length ≤ 100000) (hw : ∀ x, wipe ((wipe σ vs).set j (some x)) vs = wipe σ vs)
    (ht : ∀ (x : V) (d : PyData) H', d ∈ ds → Al (D :: M) H' → Ext [] H0 H' → Is (D :: M) H' x d → ∀ R : Bool → Hp → Prop, (∀ H'', Ext [] H' H'' → R (p d) H'') → tt ((wipe σ vs).set j (some x)) H' R)
    (he : ∀ (x : V) (d : PyData) H', d ∈ ds → p d = true → Al (D :: M) H' → Ext [] H0 H' → Is (D :: M) H' x d → ∀ R : VK, (∀ y H'', Ext [] H' H'' → Is (D :: M) H'' y (f d) → R y H'') → te ((wipe σ vs).set j (some x)) H' R)
    (hd : ∀ H', Ext [] H0 H' → Is M H' (.ref D) (.list ((ds.filter p).map f)) → Q (.ref D) H') : qLc (Itl K a) (gName j) tt te vs σ D H0 Q := lc_filter f p s hD h hn hw ht he hd
end
section
variable {M : List Addr} {H : Hp} {xs : List V} {ds : List PyData} {a : Addr} {K : PySem.W.Frag} {Q : VK}
theorem IsAll.cutI {lo hi : Int} {l h : Nat} (r : IsAll M H xs ds) (hl : lo = (l : Int)) (hh : hi = (h : Int)) : IsAll M H (cutV xs (some lo) (some hi)) ((ds.take h).drop l) := by
  subst hl hh
  exact r.cut
theorem IsAll.cutI0 {hi : Int} {h : Nat} (r : IsAll M H xs ds) (hh : hi = (h : Int)) : IsAll M H (cutV xs none (some hi)) (ds.take h) := by
  subst hh
  exact r.cut0
theorem IsAll.cutIN {lo : Int} {l : Nat} (r : IsAll M H xs ds) (hl : lo = (l : Int)) : IsAll M H (cutV xs (some lo) none) (ds.drop l) := by
  subst hl
  exact r.cutN
/-- slices of data -/
theorem rd_cut {lo hi : Int} {l h : Nat} (s : Al M H) (i : Is M H (.ref a) (.list ds)) (hl : lo = (l : Int)) (hh : hi = (h : Int)) (q : ∀ p H', H p = none → Ext [] H H' → (∃ xs, H' p = some (.lst xs) ∧ IsAll (p :: M) H' xs ((ds.take h).drop l)) → Is M H' (.ref p) (.list ((ds.take h).drop l)) → Q (.ref p) H') :
    rSlL K (.ref a) (some lo) (some hi) H Q := rd_slL i fun _ _ r p hp => q p _ hp (.new hp) ⟨_, upd_same, (r.cutI hl hh).beside hp⟩ (new_lst s (r.cutI hl hh) hp)
theorem rd_cut0 {hi : Int} {h : Nat} (s : Al M H) (i : Is M H (.ref a) (.list ds)) (hh : hi = (h : Int)) (q : ∀ p H', H p = none → Ext [] H H' → (∃ xs, H' p = some (.lst xs) ∧ IsAll (p :: M) H' xs (ds.take h)) → Is M H' (.ref p) (.list (ds.take h)) → Q (.ref p) H') :
    rSlL K (.ref a) none (some hi) H Q := rd_slL i fun _ _ r p hp => q p _ hp (.new hp) ⟨_, upd_same, (r.cutI0 hh).beside hp⟩ (new_lst s (r.cutI0 hh) hp)
theorem rd_cutN {lo : Int} {l : Nat} (s : Al M H) (i : Is M H (.ref a) (.list ds)) (hl : lo = (l : Int)) (q : ∀ p H', H p = none → Ext [] H H' → (∃ xs, H' p = some (.lst xs) ∧ IsAll (p :: M) H' xs (ds.drop l)) → Is M H' (.ref p) (.list (ds.drop l)) → Q (.ref p) H') :
    rSlL K (.ref a) (some lo) none H Q := rd_slL i fun _ _ r p hp => q p _ hp (.new hp) ⟨_, upd_same, (r.cutIN hl).beside hp⟩ (new_lst s (r.cutIN hl) hp)
/-- l.extend(b) -/
theorem rd_ext {l b : Addr} {xs zs : List V} (h : H l = some (.lst xs)) (k : H b = some (.lst zs)) (hz : xs.length + zs.length ≤ 100000) (q : Q .non (upd H l (.lst (xs ++ zs)))) : rExtend (.ref l) [.ref b] H Q := ⟨l, b, xs, zs, rfl, rfl, h, k, szL hz, q⟩
theorem map_cut (ns : List Nat) (l h : Nat) : ((ns.map fun n : Nat => PyData.int n).take h).drop l = ((ns.take h).drop l).map fun n : Nat => PyData.int n := by rw [List.map_drop, List.map_take]
end
/-! ### facts found by themselves: steps from heap to heap -/
section
variable {M M' : List Addr} {A B C H H' : Hp} {p : Addr} {o : HO} {v : V} {d : PyData}
theorem at_is (e : Ext M H H') (i : Is M H v d) : Is M H' v d := i.mono e
theorem at_is0 (e : Ext [] H H') (i : Is M H v d) : Is M H' v d := i.mono e.any
theorem at_is1 {N : List Addr} {D : Addr} (e : Ext N H H') (i : Is (D :: N) H v d) : Is (D :: N) H' v d := i.mono (e.more fun b hb => List.mem_cons_of_mem _ hb)
theorem at_isN (h : H p = none) (i : Is M H v d) : Is M (upd H p o) v d := i.mono (.new h)
theorem at_al (e : Ext M' H H') (s : Al M H) : Al M H' := s.ext e
theorem at_alN (s : Al M H) : Al M (upd H p o) := fun b hb => there_upd b (s b hb)
theorem at_ext (e : Ext M B C) (f : Ext M A B) : Ext M A C := f.trans e
theorem at_ext0 (e : Ext [] B C) (f : Ext M A B) : Ext M A C := f.trans e.any
theorem at_extN (h : B p = none) (f : Ext M A B) : Ext M A (upd B p o) := f.trans (.new h)
end
/-- lists of lists of numbers -/
abbrev natss (S : List (List Nat)) : PyData := .list (S.map nats)
/-- what is new in the heap H -/
def New (H H' : Hp) (v : V) (d : PyData) : Prop := ∀ M, Al M H → Is M H' v d
theorem New.of {M : List Addr} {A B H H' : Hp} {v : V} {d : PyData} (h : New H H' v d) (e : Ext M A H) : New A H' v d := fun _ s => h _ (s.ext e)
section
variable {M : List Addr} {H : Hp} {Q : VK} {K : PySem.W.Frag} {a b : Addr} {xs ys : List Nat} {ds es : List PyData} {vs : List V}
theorem rd_newL (s : Al M H) (h : IsAll M H vs ds) (hz : vs.length ≤ 1000) (q : ∀ p H', H p = none → Ext [] H H' → H' p = some (.lst vs) → Is M H' (.ref p) (.list ds) → Q (.ref p) H') : qNewL vs H Q :=
  ⟨szl hz, fun p hp => q p _ hp (.new hp) upd_same (new_lst s h hp)⟩
theorem rd_newT (s : Al M H) (h : IsAll M H vs ds) (hz : vs.length ≤ 1000) (q : ∀ p H', H p = none → Ext [] H H' → H' p = some (.tup vs) → Is M H' (.ref p) (.tuple ds) → Q (.ref p) H') : qNewT vs H Q :=
  ⟨szl hz, fun p hp => q p _ hp (.new hp) upd_same (new_tup s h hp)⟩
theorem rd_ncat (s : Al M H) (h : Is M H (.ref a) (nats xs)) (k : Is M H (.ref b) (nats ys)) (hz : xs.length + ys.length ≤ 100000) (q : ∀ p H', H p = none → Ext [] H H' → Is M H' (.ref p) (nats (xs ++ ys)) → Q (.ref p) H') : rCat (.ref a) (.ref b) H Q :=
  rd_dcat s h k (by rw [List.length_map, List.length_map]; exact hz) fun p H' hp e _ i => q p H' hp e (by rw [nats, List.map_append]; exact i)
theorem rd_ncut {lo hi : Int} {l h : Nat} (s : Al M H) (i : Is M H (.ref a) (nats xs)) (hl : lo = (l : Int)) (hh : hi = (h : Int)) (q : ∀ p H', H p = none → Ext [] H H' → Is M H' (.ref p) (nats ((xs.take h).drop l)) → Q (.ref p) H') : rSlL K (.ref a) (some lo) (some hi) H Q :=
  rd_cut s i hl hh fun p H' hp e _ j => q p H' hp e (by rw [nats, List.map_drop, List.map_take]; exact j)
theorem rd_ncut0 {hi : Int} {h : Nat} (s : Al M H) (i : Is M H (.ref a) (nats xs)) (hh : hi = (h : Int)) (q : ∀ p H', H p = none → Ext [] H H' → Is M H' (.ref p) (nats (xs.take h)) → Q (.ref p) H') : rSlL K (.ref a) none (some hi) H Q :=
  rd_cut0 s i hh fun p H' hp e _ j => q p H' hp e (by rw [nats, List.map_take]; exact j)
theorem rd_ncutN {lo : Int} {l : Nat} (s : Al M H) (i : Is M H (.ref a) (nats xs)) (hl : lo = (l : Int)) (q : ∀ p H', H p = none → Ext [] H H' → Is M H' (.ref p) (nats (xs.drop l)) → Q (.ref p) H') : rSlL K (.ref a) (some lo) none H Q :=
  rd_cutN s i hl fun p H' hp e _ j => q p H' hp e (by rw [nats, List.map_drop]; exact j)
theorem rd_ndlist (s : Al M H) (h : Is M H (.ref a) (nats xs)) (q : ∀ p H', H p = none → Ext [] H H' → Is M H' (.ref p) (nats xs) → Q (.ref p) H') : qListOf K [.ref a] H Q := rd_dlist s h fun p H' hp e _ i => q p H' hp e i
theorem rd_nix {i : Int} {j : Nat} (h : Is M H (.ref a) (nats xs)) (hj : i = (j : Int)) (hd : j < xs.length) (q : Q (.int ((xs.getD j 0 : Nat) : Int)) H) : rIxL K (.ref a) (.int i) H Q := by
  refine rd_dix h hj (by rw [List.getElem?_map, List.getElem?_eq_getElem hd]; rfl) fun v iv => ?_
  rw [List.getD_eq_getElem?_getD, List.getElem?_eq_getElem hd] at q
  cases iv
  exact q
theorem rd_nlen (h : Is M H (.ref a) (nats xs)) (q : Q (.int xs.length) H) : qLen K [.ref a] H Q := rd_dlen h fun _ => by rw [List.length_map]; exact q
theorem rd_rep {k : Int} {ws : List V} (h : H a = some (.lst ws)) (h0 : -(2 ^ 63) ≤ k) (h1 : k < 2 ^ 63) (hz : ws.length * k.toNat ≤ 100000) (q : ∀ p, H p = none → Q (.ref p) (upd H p (.lst (List.replicate k.toNat ws).flatten))) : rRep (.ref a) (.int k) H Q := ⟨a, k, ws, rfl, rfl, h, h0, h1, szL hz, q⟩
theorem IsAll.reps (h : IsAll M H vs ds) : ∀ k, IsAll M H (List.replicate k vs).flatten (List.replicate k ds).flatten
  | 0 => .nil
  | k + 1 => by
    rw [List.replicate_succ, List.replicate_succ, List.flatten_cons, List.flatten_cons]
    exact h.append (IsAll.reps h k)
theorem rd_drep {k : Int} (s : Al M H) (h : Is M H (.ref a) (.list ds)) (h0 : -(2 ^ 63) ≤ k) (h1 : k < 2 ^ 63) (hz : ds.length * k.toNat ≤ 100000) (q : ∀ p H', H p = none → Ext [] H H' → Is M H' (.ref p) (.list (List.replicate k.toNat ds).flatten) → Q (.ref p) H') : rRep (.ref a) (.int k) H Q := by
  obtain ⟨ws, _, hx, r⟩ := h.list
  exact rd_rep hx h0 h1 (by rw [r.length]; exact hz) fun p hp => q p _ hp (.new hp) (new_lst s (r.reps _) hp)
theorem rd_nrep1 {k : Int} {n j : Nat} (s : Al M H) (h : H a = some (.lst [.int n])) (hk : k.toNat = j) (h0 : -(2 ^ 62) ≤ k) (h1 : k ≤ 100000) (q : ∀ p H', H p = none → Ext [] H H' → Is M H' (.ref p) (nats (List.replicate j n)) → Q (.ref p) H') : rRep (.ref a) (.int k) H Q := by
  refine rd_rep h (by omega) (by omega) (by rw [List.length_singleton]; omega) fun p hp => q p _ hp (.new hp) (new_lst s ?_ hp)
  rw [hk]
  have e : (List.replicate j [V.int n]).flatten = (List.replicate j n).map fun n : Nat => V.int n := by rw [List.map_replicate]; induction j with
    | zero => rfl
    | succ j ih => rw [List.replicate_succ, List.replicate_succ, List.flatten_cons] ; exact congrArg (V.int n :: ·) (by clear hk; exact List.flatten_replicate_singleton)
  rw [e]
  exact nats_V _
end
section
variable {K : PySem.W.Frag} {H : Hp} {Q : VK} {p : Addr}
theorem rd_pick {P : Int → Prop} {ns : List Int} {v : Nat} (h : H p = some (.lst (ns.map V.int))) (hv : v < ns.length) (hP : ∀ n ∈ ns, P n) (q : ∀ n, P n → Q (.int n) H) : rIxL K (.ref p) (.int v) H Q :=
  rd_ixL (SqL.of h) (atI_nat (by rw [List.getElem?_map, List.getElem?_eq_getElem hv]; rfl)) (q _ (hP _ (List.getElem_mem hv)))
end
/-! ### lists of the module in sums -/
structure PlK (K : PySem.W.Frag) (a : Addr) (xs : List V) : Prop where
  ex : ∃ (its : Array Value) (n : Nat), K.lookup a = some { cls := .type "list", data := .seq its n } ∧ its.size ≤ sizeLine ∧ Vals xs its.toList
theorem PlK.sq {K : PySem.W.Frag} {a : Addr} {xs : List V} (h : PlK K a xs) (H : Hp) : SqL K H a xs := by
  obtain ⟨its, n, e, hz, r⟩ := h.ex
  exact .inr ⟨_, its, n, e, rfl, rfl, rfl, hz, r⟩
def plB (K : PySem.W.Frag) (x : Str) (vs : List He.Dv) : Bool := match K.lookup (He.ga K x) with
  | some ⟨.type c, none, .seq its _, sl⟩ => decide (c = "list") && (sl.toList.isEmpty && (decide (its.size ≤ sizeLine) && He.relAll (vs.map (He.Dv.v K)) its.toList))
  | _ => false
theorem plB_ok {K : PySem.W.Frag} {x : Str} {vs : List He.Dv} (h : plB K x vs = true) : PlK K (He.ga K x) (vs.map (He.Dv.v K)) := by
  unfold plB at h
  cases q : K.lookup (He.ga K x) with
  | none => rw [q] at h; cases h
  | some o =>
    obtain ⟨oc, od, dt, osl⟩ := o
    rw [q] at h
    cases oc with
    | type c =>
      cases od with
      | none =>
        cases dt with
        | seq its n =>
          simp only [Bool.and_eq_true, decide_eq_true_eq] at h
          obtain ⟨rfl, hs, hz, hr⟩ := h
          have e : osl = #[] := by
            obtain ⟨l⟩ := osl
            cases l with
            | nil => rfl
            | cons _ _ => cases hs
          subst e
          exact ⟨its, n, q, hz, He.relAll_ok hr⟩
        | _ => cases h
      | some _ => cases h
    | _ => cases h
def rCatK (K : PySem.W.Frag) : R2 := fun x y H Q => ∃ l b xs zs, x = .ref l ∧ y = .ref b ∧ (H l = some (.lst xs) ∨ PlK K l xs) ∧ (H b = some (.lst zs) ∨ PlK K b zs) ∧ xs.length + zs.length ≤ sizeLine ∧ ∀ p, H p = none → Q (.ref p) (upd H p (.lst (xs ++ zs)))
theorem lstK {X : Cx} {pins : List (Addr × Obj)} {σ : L2.St} {H : Hp} {s : Shared} {l : Addr} {xs : List V} (I : Inv X pins σ H s) (h : H l = some (.lst xs) ∨ PlK X.K l xs) : ∃ (its : List Value) (n : Nat), Vals xs its ∧ xs.length = its.length ∧ s.heap.get? l = some { cls := .type "list", data := .seq its.toArray n } := by
  rcases h with h | h
  · obtain ⟨z, its, n, r, hl, e⟩ := I.lstM h
    exact ⟨its, n, r, hl, e⟩
  · obtain ⟨its, n, e, hz, r⟩ := h.ex
    exact ⟨its.toList, n, r, r.length, by simpa using I.kIn l _ e⟩
theorem op_catK {X : Cx} (K : PySem.W.Frag) (hK : X.K = K := by rfl) : OpR X (binaryOp .Add) (rCatK K) := by
  subst hK
  intro pins s σ H x y v u Q I rx ry h
  obtain ⟨l, b, xs, zs, rfl, rfl, hH, hB, hz, q⟩ := h
  cases rx
  cases ry
  obtain ⟨its, n, r, hl, e⟩ := lstK I hH
  obtain ⟨its2, n2, r2, hl2, e2⟩ := lstK I hB
  refine PySem.P.add_list e e2 ?_ (by rw [List.size_toArray, List.size_toArray]; omega)
  rw [show its.toArray ++ its2.toArray = (its ++ its2).toArray by simp]
  exact ⟨.ref _, _, I.lnew (t' := s.toks) (r.append r2) (by rw [List.length_append]; omega), rfl, q _ I.fresh⟩
theorem rd_catK {K : PySem.W.Frag} {H : Hp} {Q : VK} {M : List Addr} {a b : Addr} {ms xs : List Nat} (s : Al M H) (h : PlK K a (ms.map fun n : Nat => V.int n)) (k : Is M H (.ref b) (nats xs)) (hz : ms.length + xs.length ≤ 100000)
    (q : ∀ p H', H p = none → Ext [] H H' → Is M H' (.ref p) (nats (ms ++ xs)) → Q (.ref p) H') : rCatK K (.ref a) (.ref b) H Q := by
  obtain ⟨ws, _, hx, r⟩ := k.list
  refine ⟨a, b, _, ws, rfl, rfl, .inr h, .inl hx, szL (by rw [r.length, List.length_map, List.length_map]; exact hz), fun p hp => q p _ hp (.new hp) (new_lst s ?_ hp)⟩
  rw [List.map_append]
  exact (nats_V ms).append r
/-! ### comprehensions and loops over lists of something, with a state beside -/
inductive All2 {α β : Type} (R : α → β → Prop) : List α → List β → Prop
  | nil : All2 R [] []
  | cons {a : α} {b : β} {as : List α} {bs : List β} : R a b → All2 R as bs → All2 R (a :: as) (b :: bs)
theorem All2.snoc {α β : Type} {R : α → β → Prop} {a : α} {b : β} : ∀ {as : List α} {bs : List β}, All2 R as bs → R a b → All2 R (as ++ [a]) (bs ++ [b])
  | _, _, .nil, h => .cons h .nil
  | _, _, .cons r t, h => .cons r (All2.snoc t h)
theorem All2.length {α β : Type} {R : α → β → Prop} : ∀ {as : List α} {bs : List β}, All2 R as bs → as.length = bs.length
  | _, _, .nil => rfl
  | _, _, .cons _ t => congrArg Nat.succ t.length
theorem All2.fn {α β : Type} {f : α → β} : ∀ {as : List α} {bs : List β}, All2 (fun a b => b = f a) as bs → bs = as.map f
  | _, _, .nil => rfl
  | _, _, .cons r t => by rw [r, t.fn]; rfl
theorem All2.mem {α β : Type} {R : α → β → Prop} {b : β} : ∀ {as : List α} {bs : List β}, All2 R as bs → b ∈ bs → ∃ a ∈ as, R a b
  | _, _, .nil, h => nomatch h
  | _, _, .cons r t, h => by
    rcases List.mem_cons.mp h with rfl | h
    · exact ⟨_, List.mem_cons_self .., r⟩
    · obtain ⟨a, ha, q⟩ := All2.mem t h
      exact ⟨a, List.mem_cons_of_mem _ ha, q⟩
/-- each of the second is a choice made by the first -/
theorem All2.pick {α β γ : Type} {R : α → γ → Prop} {g : γ → β} : ∀ {as : List α} {bs : List β}, All2 (fun a b => ∃ c, b = g c ∧ R a c) as bs → ∃ cs, bs = cs.map g ∧ All2 R as cs
  | _, _, .nil => ⟨[], rfl, .nil⟩
  | _, _, .cons ⟨c, e, r⟩ t => by
    obtain ⟨cs, e2, r2⟩ := All2.pick t
    exact ⟨c :: cs, by rw [e, e2]; rfl, .cons r r2⟩
structure MadeN (N M : List Addr) (H0 : Hp) (D : Addr) (es : List PyData) (H : Hp) : Prop where
  sub : ∀ b ∈ N, b ∈ M
  free : H0 D = none
  ext : Ext N H0 H
  off : D ∉ M
  ls : ∃ ys, H D = some (.lst ys) ∧ IsAll (D :: M) H ys es
section
variable {N M : List Addr} {H0 H H' : Hp} {a D : Addr} {es : List PyData} {K : PySem.W.Frag} {d : PyData} {y x v : V}
theorem MadeN.start (hN : ∀ b ∈ N, b ∈ M) (s : Al M H0) (hD : H0 D = none) : MadeN N M H0 D [] (upd H0 D (.lst [])) := ⟨hN, hD, .new hD, s.fresh hD, [], upd_same, .nil⟩
theorem MadeN.startE (hN : ∀ b ∈ N, b ∈ M) (s : Al M H0) (e : Ext N H0 H) (hD : H D = none) : MadeN N M H0 D [] (upd H D (.lst [])) := ⟨hN, e.free hD, e.trans (.new hD), (s.ext e).fresh hD, [], upd_same, .nil⟩
theorem MadeN.al (m : MadeN N M H0 D es H) (s : Al M H0) : Al (D :: M) H := by
  obtain ⟨ys, h1, h2⟩ := m.ls
  exact .cons (some_ne h1) (s.ext m.ext)
theorem MadeN.is (m : MadeN N M H0 D es H) : Is M H (.ref D) (.list es) := by
  obtain ⟨ys, h1, h2⟩ := m.ls
  exact .lst m.off h1 h2.on
theorem MadeN.ofs (m : MadeN N M H0 D es H) (i : Is M H0 v d) : Is (D :: M) H v d := (i.off m.free).mono (m.ext.more fun b hb => List.mem_cons_of_mem _ (m.sub b hb))
theorem MadeN.of0 (m : MadeN N M H0 D es H) (i : Is M H0 v d) : Is M H v d := (m.ofs i).on
theorem MadeN.nD (m : MadeN N M H0 D es H) : D ∉ N := fun q => m.off (m.sub _ q)
theorem MadeN.step (m : MadeN N M H0 D es H) (e : Ext N H H') (h : Is (D :: M) H' y d) (hl : es.length < 100000) :
    ∃ acc, H' D = some (.lst acc) ∧ acc.length < sizeLine ∧ MadeN N M H0 D (es ++ [d]) (upd H' D (.lst (acc ++ [y]))) := by
  obtain ⟨ys, h1, h2⟩ := m.ls
  refine ⟨ys, e.keep _ _ m.nD h1, szl' (by rw [h2.length]; omega), m.sub, m.free, (m.ext.trans e).mut m.free, m.off, _, upd_same, ?_⟩
  exact ((h2.mono (e.more fun b hb => List.mem_cons_of_mem _ (m.sub b hb))).append (.one h)).mono (.set (List.mem_cons_self ..))
theorem MadeN.go (m : MadeN N M H0 D es H) (e : Ext N H H') : MadeN N M H0 D es H' := by
  obtain ⟨ys, h1, h2⟩ := m.ls
  exact ⟨m.sub, m.free, m.ext.trans e, m.off, ys, e.keep _ _ m.nD h1, h2.mono (e.more fun b hb => List.mem_cons_of_mem _ (m.sub b hb))⟩
/-- D.append(e): rd_app first, then this -/
theorem MadeN.lst (m : MadeN N M H0 D es H) : ∃ ys, H D = some (.lst ys) := by
  obtain ⟨ys, h1, h2⟩ := m.ls
  exact ⟨ys, h1⟩
theorem rd_appE {G : List V → Prop} (m : MadeN N M H0 D es H) (e : Ext N H H') (i : Is (D :: M) H' y d) (hl : es.length < 100000) (k : ∀ acc, MadeN N M H0 D (es ++ [d]) (upd H' D (.lst (acc ++ [y]))) → G acc) :
    ∃ ys, H' D = some (.lst ys) ∧ ys.length < sizeLine ∧ G ys := by
  obtain ⟨acc, h3, h4, m'⟩ := m.step e i hl
  exact ⟨acc, h3, h4, k acc m'⟩
end
section
variable {N M : List Addr} {H0 H : Hp} {a D : Addr} {K : PySem.W.Frag} {j : Nat} {vs : List Nat} {te : TE} {σ : L2.St} {Q : VK} {α : Type} {L : List α} {g : α → PyData} {Rel : α → PyData → Prop} {RelI : Nat → PyData → Prop} {J : Hp → Prop}
/-- [e for x in a list], with what may change (N) and what goes along (J) -/
theorem q_lcA (J : Hp → Prop) (Rel : α → PyData → Prop) (hN : ∀ b ∈ N, b ∈ M) (s : Al M H0) (hD : H0 D = none) (h : Is M H0 (.ref a) (.list (L.map g))) (hn : L.length ≤ 100000) (hw : ∀ x, wipe ((wipe σ vs).set j (some x)) vs = wipe σ vs)
    (j0 : J H0) (hJ : ∀ A o, J A → J (upd A D o))
    (he : ∀ (i : Nat) (x : V) (y : α) H', L[i]? = some y → Al (D :: M) H' → Ext N H0 H' → J H' → Is (D :: M) H' x (g y) → ∀ R : VK, (∀ w H'' e, Ext N H' H'' → J H'' → Is (D :: M) H'' w e → Rel y e → R w H'') → te ((wipe σ vs).set j (some x)) H' R)
    (hd : ∀ H' es, Ext N H0 H' → J H' → All2 Rel L es → Is M H' (.ref D) (.list es) → Q (.ref D) H') : qLc (Itl K a) (gName j) tYes te vs σ D H0 Q := by
  obtain ⟨xs, na, hx, r⟩ := h.list
  have hlen : xs.length = L.length := by rw [r.length, List.length_map]
  refine lc_list (xs := xs) (fun i H' => J H' ∧ ∃ es, All2 Rel (L.take i) es ∧ MadeN N M H0 D es H') ⟨hJ _ _ j0, [], .nil, MadeN.start hN s hD⟩ (fun i H' _ m => ?_) (fun i x H' hi m => ?_) fun H' m => ?_
  · obtain ⟨_, es, _, m⟩ := m
    exact SqL.of (m.ext.keep _ _ (fun q => na (hN _ q)) hx)
  · obtain ⟨jh, es, r2, m⟩ := m
    obtain ⟨d, hd', iv⟩ := r.got hi
    rw [List.getElem?_map] at hd'
    cases hy : L[i]? with
    | none => rw [hy] at hd'; cases hd'
    | some y =>
      rw [hy] at hd'
      cases hd'
      refine ⟨hw _, rd_yes ?_⟩
      refine iteT ?_
      refine he i x y H' hy (m.al s) m.ext jh (m.ofs iv) _ fun w H'' e e1 j1 i1 r1 => ?_
      obtain ⟨acc, h1, h2, m'⟩ := m.step e1 i1 (by
        have z := r2.length
        rw [List.length_take] at z
        have : i < L.length := (List.getElem?_eq_some_iff.mp hy).1
        omega)
      refine ⟨acc, h1, h2, hJ _ _ j1, es ++ [e], ?_, m'⟩
      rw [List.take_add_one, hy]
      exact r2.snoc r1
  · obtain ⟨jh, es, r2, m⟩ := m
    rw [hlen, List.take_length] at r2
    exact hd H' es m.ext jh r2 m.is
/-- [e for i in range(n)] -/
theorem q_lcAR {lo : Int} {n : Nat} (J : Hp → Prop) (Rel : Nat → PyData → Prop) (hN : ∀ b ∈ N, b ∈ M) (s : Al M H0) (hD : H0 D = none) (hn : n ≤ 100000) (hw : ∀ x, wipe ((wipe σ vs).set j (some x)) vs = wipe σ vs)
    (j0 : J H0) (hJ : ∀ A o, J A → J (upd A D o))
    (he : ∀ (i : Nat) H', i < n → Al (D :: M) H' → Ext N H0 H' → J H' → (∀ v d, Is M H0 v d → Is (D :: M) H' v d) → ∀ R : VK, (∀ w H'' e, Ext N H' H'' → J H'' → Is (D :: M) H'' w e → Rel i e → R w H'') → te ((wipe σ vs).set j (some (.int (lo + i)))) H' R)
    (hd : ∀ H' es, Ext N H0 H' → J H' → All2 Rel (List.range n) es → Is M H' (.ref D) (.list es) → Q (.ref D) H') : qLc (Itr lo n) (gName j) tYes te vs σ D H0 Q := by
  refine lc_range (fun i H' => J H' ∧ ∃ es, All2 Rel (List.range i) es ∧ MadeN N M H0 D es H') ⟨hJ _ _ j0, [], .nil, MadeN.start hN s hD⟩ (fun i H' hi m => ?_) fun H' m => ?_
  · obtain ⟨jh, es, r2, m⟩ := m
    refine ⟨hw _, rd_yes ?_⟩
    refine iteT ?_
    refine he i H' hi (m.al s) m.ext jh (fun v d => m.ofs) _ fun w H'' e e1 j1 i1 r1 => ?_
    obtain ⟨acc, h1, h2, m'⟩ := m.step e1 i1 (by
      have z := r2.length
      rw [List.length_range] at z
      omega)
    refine ⟨acc, h1, h2, hJ _ _ j1, es ++ [e], ?_, m'⟩
    rw [List.range_succ]
    exact r2.snoc r1
  · obtain ⟨jh, es, r2, m⟩ := m
    exact hd H' es m.ext jh r2 m.is
/-- without a state: a function of the elements -/
theorem q_lcM (f : α → PyData) (s : Al M H0) (hD : H0 D = none) (h : Is M H0 (.ref a) (.list (L.map g))) (hn : L.length ≤ 100000) (hw : ∀ x, wipe ((wipe σ vs).set j (some x)) vs = wipe σ vs)
    (he : ∀ (x : V) (y : α) H', y ∈ L → Al (D :: M) H' → Ext [] H0 H' → Is (D :: M) H' x (g y) → ∀ R : VK, (∀ w H'', Ext [] H' H'' → Is (D :: M) H'' w (f y) → R w H'') → te ((wipe σ vs).set j (some x)) H' R)
    (hd : ∀ H', Ext [] H0 H' → Is M H' (.ref D) (.list (L.map f)) → Q (.ref D) H') : qLc (Itl K a) (gName j) tYes te vs σ D H0 Q :=
  q_lcA (N := []) (fun _ => True) (fun y e => e = f y) (fun b h => nomatch h) s hD h hn hw trivial (fun _ _ _ => trivial) (fun i x y H' hy s' e _ iv R k => he x y H' (List.mem_of_getElem? hy) s' e iv R fun w H'' e2 i2 => k w H'' _ e2 trivial i2 rfl)
    fun H' es e _ r i => hd H' e (by rw [r.fn] at i; exact i)
variable {tb : TS} {E : Ends} {gt : TG}
/-- a walk over a list of something -/
theorem q_dataM (h : Is M H0 (.ref a) (.list (L.map g))) (Pv : Nat → L2.St → Hp → Prop) (h0 : Pv 0 σ H) (hE : ∀ i σ H, Pv i σ H → Ext M H0 H)
    (hs : ∀ i y x σ H, L[i]? = some y → Is M H x (g y) → Pv i σ H → gt x σ H fun σ2 H2 => tb { E with nx := Pv (i + 1), ct := Pv (i + 1), bk := E.nx } σ2 H2) (hd : ∀ σ H, Pv L.length σ H → E.nx σ H) : qFor (Itl K a) gt tb E σ H := by
  refine q_data h Pv h0 hE (fun i d x σ H hi iv p => ?_) fun σ H p => hd σ H (by rw [List.length_map] at p; exact p)
  rw [List.getElem?_map] at hi
  cases hy : L[i]? with
  | none => rw [hy] at hi; cases hi
  | some y =>
    rw [hy] at hi
    cases hi
    exact hs i y x σ H hy iv p
end
theorem take_snoc {α : Type} {L : List α} {i : Nat} {y : α} (h : L[i]? = some y) : L.take (i + 1) = L.take i ++ [y] := by rw [List.take_add_one, h]; rfl
/-! ### lists of something: parts, sums, places -/
section
variable {M : List Addr} {H : Hp} {Q : VK} {K : PySem.W.Frag} {a b : Addr} {α : Type} {L L2 : List α} {g : α → PyData}
theorem rd_mcut {lo hi : Int} {l h : Nat} (s : Al M H) (i : Is M H (.ref a) (.list (L.map g))) (hl : lo = (l : Int)) (hh : hi = (h : Int)) (q : ∀ p H', H p = none → Ext [] H H' → Is M H' (.ref p) (.list (((L.take h).drop l).map g)) → Q (.ref p) H') : rSlL K (.ref a) (some lo) (some hi) H Q :=
  rd_cut s i hl hh fun p H' hp e _ j => q p H' hp e (by rw [List.map_drop, List.map_take]; exact j)
theorem rd_mcut0 {hi : Int} {h : Nat} (s : Al M H) (i : Is M H (.ref a) (.list (L.map g))) (hh : hi = (h : Int)) (q : ∀ p H', H p = none → Ext [] H H' → Is M H' (.ref p) (.list ((L.take h).map g)) → Q (.ref p) H') : rSlL K (.ref a) none (some hi) H Q :=
  rd_cut0 s i hh fun p H' hp e _ j => q p H' hp e (by rw [List.map_take]; exact j)
theorem rd_mcutN {lo : Int} {l : Nat} (s : Al M H) (i : Is M H (.ref a) (.list (L.map g))) (hl : lo = (l : Int)) (q : ∀ p H', H p = none → Ext [] H H' → Is M H' (.ref p) (.list ((L.drop l).map g)) → Q (.ref p) H') : rSlL K (.ref a) (some lo) none H Q :=
  rd_cutN s i hl fun p H' hp e _ j => q p H' hp e (by rw [List.map_drop]; exact j)
theorem rd_mcat (s : Al M H) (h : Is M H (.ref a) (.list (L.map g))) (k : Is M H (.ref b) (.list (L2.map g))) (hz : L.length + L2.length ≤ 100000) (q : ∀ p H', H p = none → Ext [] H H' → (∃ xs, H' p = some (.lst xs) ∧ IsAll (p :: M) H' xs ((L ++ L2).map g)) → Is M H' (.ref p) (.list ((L ++ L2).map g)) → Q (.ref p) H') : rCat (.ref a) (.ref b) H Q :=
  rd_dcat s h k (by rw [List.length_map, List.length_map]; exact hz) fun p H' hp e x i => q p H' hp e (by rw [List.map_append]; exact x) (by rw [List.map_append]; exact i)
theorem rd_mix {i : Int} {j : Nat} {y : α} (h : Is M H (.ref a) (.list (L.map g))) (hj : i = (j : Int)) (hd : L[j]? = some y) (q : ∀ v, Is M H v (g y) → Q v H) : rIxL K (.ref a) (.int i) H Q :=
  rd_dix h hj (by rw [List.getElem?_map, hd]; rfl) q
theorem rd_mrep {k : Int} {j : Nat} (s : Al M H) (h : Is M H (.ref a) (.list (L.map g))) (hk : k.toNat = j) (h0 : -(2 ^ 62) ≤ k) (h1 : k ≤ 100000) (hz : L.length * j ≤ 100000) (q : ∀ p H', H p = none → Ext [] H H' → Is M H' (.ref p) (.list ((List.replicate j L).flatten.map g)) → Q (.ref p) H') : rRep (.ref a) (.int k) H Q := by
  subst hk
  refine rd_drep s h (by omega) (by omega) (by rw [List.length_map]; exact hz) fun p H' hp e i => q p H' hp e ?_
  rw [List.map_flatten, List.map_replicate]
  exact i
theorem get_D {xs : List (List Nat)} {j : Nat} (h : j < xs.length) : xs[j]? = some (xs.getD j []) := by rw [List.getD_eq_getElem?_getD, List.getElem?_eq_getElem h]; rfl
end
/-! ### the state of the law's numbers: a list of the script's list and three numbers -/
structure StAt (H : Hp) (p l : Addr) : Prop where
  ex : ∃ (ns : List Int) (i m s : Int), H p = some (.lst [.ref l, .int i, .int m, .int s]) ∧ H l = some (.lst (ns.map V.int)) ∧ 0 ≤ i ∧ i ≤ ns.length ∧ 0 ≤ m
  ne : p ≠ l
theorem StAt.ext {M : List Addr} {H H' : Hp} {p l : Addr} (s : StAt H p l) (e : Ext M H H') (h1 : p ∉ M) (h2 : l ∉ M) : StAt H' p l := by
  obtain ⟨⟨ns, i, m, s0, a, b, c⟩, ne⟩ := s
  exact ⟨⟨ns, i, m, s0, e.keep _ _ h1 a, e.keep _ _ h2 b, c⟩, ne⟩
theorem StAt.ext0 {H H' : Hp} {p l : Addr} (s : StAt H p l) (e : Ext [] H H') : StAt H' p l := s.ext e (by simp) (by simp)
theorem at_st0 {H H' : Hp} {p l : Addr} (e : Ext [] H H') (s : StAt H p l) : StAt H' p l := s.ext0 e
theorem at_stN {H : Hp} {p l q : Addr} {o : HO} (h : H q = none) (s : StAt H p l) : StAt (upd H q o) p l := s.ext0 (.new h)
theorem StAt.al {H : Hp} {p l : Addr} (s : StAt H p l) : H p ≠ none := by
  obtain ⟨⟨ns, i, m, s0, a, b, c⟩, ne⟩ := s
  exact some_ne a
theorem StAt.ne_new {H : Hp} {p l r : Addr} (s : StAt H p l) (h : H r = none) : r ≠ p := fun e => s.al (by rw [← e]; exact h)
theorem StAt.als {H : Hp} {p l : Addr} (s : StAt H p l) : Al [p] H := .cons s.al .nil
theorem StAt.al2 {H : Hp} {p l : Addr} (s : StAt H p l) : H l ≠ none := by
  obtain ⟨⟨ns, i, m, s0, a, b, c⟩, ne⟩ := s
  exact some_ne b
/-! ### < and > of tuples of anything: the first pair that differs tells (own rule: nothing is asked of the pairs behind it) -/
inductive LexP (op : CmpOp) (A : Around) (s : Shared) (z : Bool) : List (Value × Value) → Bool → Prop
  | done : LexP op A s z [] z
  | same {x y : Value} {r : List (Value × Value)} {k : Bool} : SeqAt.EqAt A s x y true → LexP op A s z r k → LexP op A s z ((x, y) :: r) k
  | diff {x y : Value} {r : List (Value × Value)} {k : Bool} : SeqAt.EqAt A s x y false → Ob.RcOp op A s x y k → LexP op A s z ((x, y) :: r) k
section
open PySem.AutoSeq1 (wpAny_loadPart')
open PySem.SeqAt PySem.MeetsSeq PySem.MeetsSeq2 PySem.MeetsSeq3
theorem lexLt (p q : Addr) (us vs : Array Value) (n m : Nat) (d1 d2 : Option Addr) (l1 l2 : Array (Option Value)) (k : Bool) :
    Meets (Builtin.«tuple.__lt__» ⟨[.ref p, .ref q], []⟩) (fun A R s => s.heap.get? p = some ⟨.type "tuple", d1, .seq us n, l1⟩ ∧ s.heap.get? q = some ⟨.type "tuple", d2, .seq vs m, l2⟩ ∧
      LexP .Lt A.in1 s (decide (us.size < vs.size)) (us.toList.zip vs.toList) k ∧ R (.ok (.ret (.bool k))) s) :=
  .of_wp fun prog w A R s0 h => by
    obtain ⟨hh, gg, dd, tt, oo⟩ := s0
    obtain ⟨hp, hq, hx, fin⟩ := h
    have sub := AutoSeq1.sub_tuple_tuple
    wp_walk using wpAny_loadPart' hp, wpAny_loadPart' hq, wpAny_forIn_list _ (fun r b s1 => b.1 = none ∧ s1 = ⟨hh, gg, dd, tt, oo⟩ ∧ LexP .Lt A.in1 ⟨hh, gg, dd, tt, oo⟩ (decide (us.size < vs.size)) r k) _
    case turn =>
      rintro ⟨x, y⟩ r b s1 ⟨hb, rfl, c⟩
      cases c with
      | same e c =>
        refine wpAny_bind (e prog w _ _ ?_)
        wp_walk
        exact ⟨rfl, rfl, c⟩
      | diff e c =>
        refine wpAny_bind (e prog w _ _ ?_)
        have c' := c prog w
        wp_walk using c'
        exact ⟨_, rfl, fin⟩
    case fin =>
      rintro ⟨b1, b2⟩ s1 ⟨hb, rfl, c⟩
      simp only at hb
      subst hb
      cases c
      wp_walk
      exact ⟨_, rfl, fin⟩
    case h => exact ⟨rfl, rfl, hx⟩
end
section
open PySem.AutoSeq1 (wpAny_loadPart')
open PySem.SeqAt PySem.MeetsSeq PySem.MeetsSeq2 PySem.MeetsSeq3
theorem lexGt (p q : Addr) (us vs : Array Value) (n m : Nat) (d1 d2 : Option Addr) (l1 l2 : Array (Option Value)) (k : Bool) :
    Meets (Builtin.«tuple.__gt__» ⟨[.ref p, .ref q], []⟩) (fun A R s => s.heap.get? p = some ⟨.type "tuple", d1, .seq us n, l1⟩ ∧ s.heap.get? q = some ⟨.type "tuple", d2, .seq vs m, l2⟩ ∧
      LexP .Gt A.in1 s (decide (us.size > vs.size)) (us.toList.zip vs.toList) k ∧ R (.ok (.ret (.bool k))) s) :=
  .of_wp fun prog w A R s0 h => by
    obtain ⟨hh, gg, dd, tt, oo⟩ := s0
    obtain ⟨hp, hq, hx, fin⟩ := h
    have sub := AutoSeq1.sub_tuple_tuple
    wp_walk using wpAny_loadPart' hp, wpAny_loadPart' hq, wpAny_forIn_list _ (fun r b s1 => b.1 = none ∧ s1 = ⟨hh, gg, dd, tt, oo⟩ ∧ LexP .Gt A.in1 ⟨hh, gg, dd, tt, oo⟩ (decide (us.size > vs.size)) r k) _
    case turn =>
      rintro ⟨x, y⟩ r b s1 ⟨hb, rfl, c⟩
      cases c with
      | same e c =>
        refine wpAny_bind (e prog w _ _ ?_)
        wp_walk
        exact ⟨rfl, rfl, c⟩
      | diff e c =>
        refine wpAny_bind (e prog w _ _ ?_)
        have c' := c prog w
        wp_walk using c'
        exact ⟨_, rfl, fin⟩
    case fin =>
      rintro ⟨b1, b2⟩ s1 ⟨hb, rfl, c⟩
      simp only at hb
      subst hb
      cases c
      wp_walk
      exact ⟨_, rfl, fin⟩
    case h => exact ⟨rfl, rfl, hx⟩
end
theorem rc_ltT {A : Around} {s : Shared} {p q : Addr} {us vs : Array Value} {k : Bool} (hp : s.heap.IsTuple p us) (hq : s.heap.IsTuple q vs) (hu : A.units < cLine) (hx : LexP .Lt A.in1 s (decide (us.size < vs.size)) (us.toList.zip vs.toList) k) :
    Ob.RcOp .Lt A s (.ref p) (.ref q) k := fun prog w E Q h => by
  obtain ⟨⟨c1, d1, t1, l1⟩, o1, e1, n, f1⟩ := id hp
  obtain ⟨⟨c2, d2, t2, l2⟩, o2, e2, m, f2⟩ := id hq
  simp only at e1 f1 e2 f2
  subst e1 f1 e2 f2
  exact PySem.richCompare_meets_room (op := .Lt) ⟨_, o1, rfl⟩ ⟨_, o2, rfl⟩ F.slot_tuple_lt F.entry_tuple_lt (F.args_tuple_lt_2 _ _) (lexLt p q us vs n m d1 d2 l1 l2 k) ⟨o1, o2, hx, (fun z => nomatch z), h⟩ hu
theorem rc_gtT {A : Around} {s : Shared} {p q : Addr} {us vs : Array Value} {k : Bool} (hp : s.heap.IsTuple p us) (hq : s.heap.IsTuple q vs) (hu : A.units < cLine) (hx : LexP .Gt A.in1 s (decide (us.size > vs.size)) (us.toList.zip vs.toList) k) :
    Ob.RcOp .Gt A s (.ref p) (.ref q) k := fun prog w E Q h => by
  obtain ⟨⟨c1, d1, t1, l1⟩, o1, e1, n, f1⟩ := id hp
  obtain ⟨⟨c2, d2, t2, l2⟩, o2, e2, m, f2⟩ := id hq
  simp only at e1 f1 e2 f2
  subst e1 f1 e2 f2
  exact PySem.richCompare_meets_room (op := .Gt) ⟨_, o1, rfl⟩ ⟨_, o2, rfl⟩ F.slot_tuple_gt F.entry_tuple_gt (F.args_tuple_gt_2 _ _) (lexGt p q us vs n m d1 d2 l1 l2 k) ⟨o1, o2, hx, (fun z => nomatch z), h⟩ hu
/-! ### the order of data: numbers, texts, tuples of them -/
mutual
inductive Cm : PyData → PyData → Ordering → Prop
  | ilt {i j : Int} : i < j → Cm (.int i) (.int j) .lt
  | ieq {i : Int} : Cm (.int i) (.int i) .eq
  | igt {i j : Int} : j < i → Cm (.int i) (.int j) .gt
  | slt {x y : Str} : x.cps.toList < y.cps.toList → Cm (.str x) (.str y) .lt
  | seq {x : Str} : Cm (.str x) (.str x) .eq
  | sgt {x y : Str} : y.cps.toList < x.cps.toList → Cm (.str x) (.str y) .gt
  | tup {ds es : List PyData} {o : Ordering} : CmL ds es o → Cm (.tuple ds) (.tuple es) o
inductive CmL : List PyData → List PyData → Ordering → Prop
  | nn : CmL [] [] .eq
  | nc {e : PyData} {es : List PyData} : CmL [] (e :: es) .lt
  | cn {d : PyData} {ds : List PyData} : CmL (d :: ds) [] .gt
  | same {d e : PyData} {ds es : List PyData} {o : Ordering} : Cm d e .eq → CmL ds es o → CmL (d :: ds) (e :: es) o
  | diff {d e : PyData} {ds es : List PyData} {o : Ordering} : Cm d e o → o ≠ .eq → CmL (d :: ds) (e :: es) o
end
theorem cps_ne {x y : Str} (h : x.cps.toList < y.cps.toList) : x ≠ y := fun e => by
  subst e
  exact List.lt_irrefl _ h
theorem lt_not {x y : Str} (h : x.cps.toList < y.cps.toList) : ¬ y.cps.toList < x.cps.toList := List.lt_asymm h
mutual
theorem Cm.eqv : ∀ {d e : PyData} {o : Ordering}, Cm d e o → PyData.eqv d e = (o == .eq)
  | _, _, _, .ilt h => by simp only [PyData.eqv]; exact decide_eq_false (by omega)
  | _, _, _, .ieq => by simp only [PyData.eqv]; exact decide_eq_true rfl
  | _, _, _, .igt h => by simp only [PyData.eqv]; exact decide_eq_false (by omega)
  | _, _, _, .slt h => by simp only [PyData.eqv]; exact decide_eq_false (cps_ne h)
  | _, _, _, .seq => by simp only [PyData.eqv]; exact decide_eq_true rfl
  | _, _, _, .sgt h => by simp only [PyData.eqv]; exact decide_eq_false (cps_ne h).symm
  | _, _, _, .tup h => by simp only [PyData.eqv]; exact CmL.eqv h
theorem CmL.eqv : ∀ {ds es : List PyData} {o : Ordering}, CmL ds es o → PyData.eqvAll ds es = (o == .eq)
  | _, _, _, .nn => by simp [PyData.eqvAll]
  | _, _, _, .nc => by simp [PyData.eqvAll]
  | _, _, _, .cn => by simp [PyData.eqvAll]
  | _, _, _, .same h t => by
    simp only [PyData.eqvAll, Cm.eqv h, CmL.eqv t]
    rfl
  | _, _, o, .diff h n => by
    simp only [PyData.eqvAll, Cm.eqv h]
    cases o with
    | eq => exact absurd rfl n
    | lt => rfl
    | gt => rfl
end
theorem Reads.tup {h : Heap} {v : Value} {ds : List PyData} {as : List Addr} (r : Reads h v (.tuple ds) as) : ∃ (a : Addr) (us : Array Value), v = .ref a ∧ h.IsTuple a us ∧ ReadsAll h us.toList ds as := by
  cases r with
  | tuple h1 h2 h3 h4 => exact ⟨_, _, rfl, ⟨_, h1, h2, _, h3⟩, h4⟩
mutual
theorem Cm.rc : ∀ {d e : PyData} {o : Ordering}, Cm d e o → ∀ {A : Around} {s : Shared} {u v : Value} {as bs : List Addr}, Reads s.heap u d as → Reads s.heap v e bs → PyData.canLay0 d = true → PyData.canLay0 e = true → A.units + PyData.depth d + 1 < cLine →
    Ob.RcOp .Lt A s u v (o == .lt) ∧ Ob.RcOp .Gt A s u v (o == .gt)
  | _, _, _, .ilt (i := i) (j := j) h, A, s, _, _, _, _, .int _ t, .int _ t', _, _, _ => by
    have a := Ob.RcOp.lt_int (A := A) (s := s) i j t t'
    have b := Ob.RcOp.gt_int (A := A) (s := s) i j t t'
    rw [decide_eq_true h] at a
    rw [decide_eq_false (by omega)] at b
    exact ⟨a, b⟩
  | _, _, _, .ieq (i := i), A, s, _, _, _, _, .int _ t, .int _ t', _, _, _ => by
    have a := Ob.RcOp.lt_int (A := A) (s := s) i i t t'
    have b := Ob.RcOp.gt_int (A := A) (s := s) i i t t'
    rw [decide_eq_false (by omega)] at a b
    exact ⟨a, b⟩
  | _, _, _, .igt (i := i) (j := j) h, A, s, _, _, _, _, .int _ t, .int _ t', _, _, _ => by
    have a := Ob.RcOp.lt_int (A := A) (s := s) i j t t'
    have b := Ob.RcOp.gt_int (A := A) (s := s) i j t t'
    rw [decide_eq_false (by omega)] at a
    rw [decide_eq_true h] at b
    exact ⟨a, b⟩
  | _, _, _, .slt h, A, s, _, _, _, _, .str _ t, .str _ t', _, _, _ =>
    ⟨fun prog w E Q q => PyProof.Rows.lt_str (by rw [decide_eq_true h]; exact q), fun prog w E Q q => PySem.P.gt_str (by rw [decide_eq_false (lt_not h)]; exact q)⟩
  | _, _, _, .seq, A, s, _, _, _, _, .str _ t, .str _ t', _, _, _ =>
    ⟨fun prog w E Q q => PyProof.Rows.lt_str (by rw [decide_eq_false (List.lt_irrefl _)]; exact q), fun prog w E Q q => PySem.P.gt_str (by rw [decide_eq_false (List.lt_irrefl _)]; exact q)⟩
  | _, _, _, .sgt h, A, s, _, _, _, _, .str _ t, .str _ t', _, _, _ =>
    ⟨fun prog w E Q q => PyProof.Rows.lt_str (by rw [decide_eq_false (lt_not h)]; exact q), fun prog w E Q q => PySem.P.gt_str (by rw [decide_eq_true h]; exact q)⟩
  | _, _, _, .tup h, A, s, _, _, _, _, ru, rv, lu, lv, hu => by
    obtain ⟨a, us, rfl, ta, ra⟩ := Reads.tup ru
    obtain ⟨b, vs, rfl, tb, rb⟩ := Reads.tup rv
    simp only [PyData.canLay0] at lu lv
    simp only [PyData.depth] at hu
    obtain ⟨c1, c2⟩ := CmL.rc h ra rb lu lv (A := A.in1) (by show A.units + 1 + _ + 1 < cLine; omega)
    exact ⟨rc_ltT ta tb (by omega) (by simpa using c1), rc_gtT ta tb (by omega) (by simpa using c2)⟩
theorem CmL.rc : ∀ {ds es : List PyData} {o : Ordering}, CmL ds es o → ∀ {A : Around} {s : Shared} {us vs : List Value} {as bs : List Addr}, ReadsAll s.heap us ds as → ReadsAll s.heap vs es bs → PyData.canLayAll0 ds = true → PyData.canLayAll0 es = true → A.units + PyData.depthAll ds + 1 < cLine →
    LexP .Lt A s (decide (us.length < vs.length)) (us.zip vs) (o == .lt) ∧ LexP .Gt A s (decide (us.length > vs.length)) (us.zip vs) (o == .gt)
  | _, _, _, .nn, _, _, _, _, _, _, .nil, .nil, _, _, _ => ⟨.done, .done⟩
  | _, _, _, .nc, _, _, _, _, _, _, .nil, .cons _ _, _, _, _ => by
    refine ⟨?_, ?_⟩
    · rw [decide_eq_true (by simp)]; exact .done
    · rw [decide_eq_false (by simp)]; exact .done
  | _, _, _, .cn, _, _, _, _, _, _, .cons _ _, .nil, _, _, _ => by
    refine ⟨?_, ?_⟩
    · rw [decide_eq_false (by simp)]; exact .done
    · rw [decide_eq_true (by simp)]; exact .done
  | _, _, _, .same h t, A, s, _, _, _, _, .cons r1 q1, .cons r2 q2, l1, l2, hu => by
    simp only [PyData.canLayAll0, Bool.and_eq_true] at l1 l2
    simp only [PyData.depthAll] at hu
    have e := SeqAt.eqAt_reads _ _ A s _ _ _ _ r1 r2 l1.1 l2.1 (by omega)
    rw [Cm.eqv h] at e
    obtain ⟨c1, c2⟩ := CmL.rc t q1 q2 l1.2 l2.2 (A := A) (by omega)
    refine ⟨?_, ?_⟩
    · rw [List.zip_cons_cons, List.length_cons, List.length_cons, show decide (_ + 1 < _ + 1) = decide (_ < _) from decide_eq_decide.mpr Nat.add_lt_add_iff_right]
      exact .same e c1
    · rw [List.zip_cons_cons, List.length_cons, List.length_cons, show decide (_ + 1 > _ + 1) = decide (_ > _) from decide_eq_decide.mpr Nat.add_lt_add_iff_right]
      exact .same e c2
  | _, _, o, .diff h n, A, s, _, _, _, _, .cons r1 q1, .cons r2 q2, l1, l2, hu => by
    simp only [PyData.canLayAll0, Bool.and_eq_true] at l1 l2
    simp only [PyData.depthAll] at hu
    have e := SeqAt.eqAt_reads _ _ A s _ _ _ _ r1 r2 l1.1 l2.1 (by omega)
    rw [Cm.eqv h, show (o == Ordering.eq) = false by cases o <;> first | rfl | exact absurd rfl n] at e
    obtain ⟨c1, c2⟩ := Cm.rc h r1 r2 l1.1 l2.1 (A := A) (by omega)
    exact ⟨.diff e c1, .diff e c2⟩
end
def rLtC (K : PySem.W.Frag) : R2 := fun x y H Q => ∃ d e o, Dp K H x d ∧ Dp K H y e ∧ Cm d e o ∧ SeqAt.shaped d = true ∧ SeqAt.shaped e = true ∧ Q (.bl (o == .lt)) H
def rGtC (K : PySem.W.Frag) : R2 := fun x y H Q => ∃ d e o, Dp K H x d ∧ Dp K H y e ∧ Cm d e o ∧ SeqAt.shaped d = true ∧ SeqAt.shaped e = true ∧ Q (.bl (o == .gt)) H
theorem op_ltC {X : Cx} (hu : X.A.units + 70 < cLine) (K : PySem.W.Frag) (hK : X.K = K := by rfl) : OpR X (compareOp .Lt) (rLtC K) := by
  subst hK
  intro pins s σ H x y v u Q I rx ry h
  obtain ⟨d, e, o, hd, he, c, sd, se, q⟩ := h
  obtain ⟨as, r1⟩ := Dp.reads I d x v hd rx
  obtain ⟨bs, r2⟩ := Dp.reads I e y u he ry
  have z := (Cm.rc c r1 r2 (SeqAt.canLay_of_shaped sd) (SeqAt.canLay_of_shaped se) (A := X.A) (by have := SeqAt.depth_of_shaped sd; omega)).1
  exact z X.prog X.w X.xe (EP X pins σ Q) ⟨.bl _, H, I, rfl, q⟩
theorem op_gtC {X : Cx} (hu : X.A.units + 70 < cLine) (K : PySem.W.Frag) (hK : X.K = K := by rfl) : OpR X (compareOp .Gt) (rGtC K) := by
  subst hK
  intro pins s σ H x y v u Q I rx ry h
  obtain ⟨d, e, o, hd, he, c, sd, se, q⟩ := h
  obtain ⟨as, r1⟩ := Dp.reads I d x v hd rx
  obtain ⟨bs, r2⟩ := Dp.reads I e y u he ry
  have z := (Cm.rc c r1 r2 (SeqAt.canLay_of_shaped sd) (SeqAt.canLay_of_shaped se) (A := X.A) (by have := SeqAt.depth_of_shaped sd; omega)).2
  exact z X.prog X.w X.xe (EP X pins σ Q) ⟨.bl _, H, I, rfl, q⟩
section
variable {M M' : List Addr} {H : Hp} {x v : V} {d e : PyData} {o : Ordering} {K : PySem.W.Frag} {Q : VK} {n m : Nat}
theorem rd_ltC (h : Is M H x d) (k : Is M' H v e) (c : Cm d e o) (s1 : Sh n d) (s2 : Sh m e) (q : Q (.bl (o == .lt)) H) (h1 : n ≤ 64 := by decide) (h2 : m ≤ 64 := by decide) : rLtC K x v H Q := ⟨d, e, o, h.dp, k.dp, c, s1.ok h1, s2.ok h2, q⟩
theorem rd_gtC (h : Is M H x d) (k : Is M' H v e) (c : Cm d e o) (s1 : Sh n d) (s2 : Sh m e) (q : Q (.bl (o == .gt)) H) (h1 : n ≤ 64 := by decide) (h2 : m ≤ 64 := by decide) : rGtC K x v H Q := ⟨d, e, o, h.dp, k.dp, c, s1.ok h1, s2.ok h2, q⟩
theorem rd_eqC (h : Is M H x d) (k : Is M' H v e) (c : Cm d e o) (s1 : Sh n d) (s2 : Sh m e) (q : Q (.bl (o == .eq)) H) (h1 : n ≤ 64 := by decide) (h2 : m ≤ 64 := by decide) : rEqD K x v H Q := rd_eqD h k (s1.ok h1) (s2.ok h2) (by rw [c.eqv]; exact q)
end
theorem Sh.str {n : Nat} {x : Str} (h : PyData.strOk x = true) : Sh n (.str x) := ⟨by simp [PyData.canLay0, h], by simp [PyData.depth]⟩
/-- two numbers, two texts -/
def rLtV : R2 := fun x y H Q => (∃ i j, x = .int i ∧ y = .int j ∧ Q (.bl (decide (i < j))) H) ∨ ∃ i j, x = .str i ∧ y = .str j ∧ Q (.bl (decide (i.cps.toList < j.cps.toList))) H
theorem op_ltV {X : Cx} : OpR X (compareOp .Lt) rLtV := by
  intro pins s σ H x y v u Q I rx ry h
  rcases h with h | h
  · exact op_lt pins s σ H x y v u Q I rx ry h
  · exact op_lt_str pins s σ H x y v u Q I rx ry h
def rMulS : R2 := fun x y H Q => ∃ z n, x = .str z ∧ y = .int n ∧ MulOk z n ∧ Q (.str (Txt.mul z n)) H
theorem op_mulS {X : Cx} : OpR X (binaryOp .Mult) rMulS := by
  intro pins s σ H x y v u Q I rx ry h
  obtain ⟨z, n, rfl, rfl, ok, q⟩ := h
  obtain ⟨t, rfl⟩ := (show ∃ t, v = Value.str z t from rx)
  obtain ⟨t', rfl⟩ := (show ∃ t, u = Value.int n t from ry)
  exact PySem.SB.mul ok fun t' k => ⟨.str _, H, I.tok _, ⟨_, rfl⟩, q⟩
def qTupleOf (K : PySem.W.Frag) : List V → Hp → VK → Prop := fun xs H Q => ∃ p ys, xs = [.ref p] ∧ ((SqL K H p ys ∧ ∀ l, H l = none → Q (.ref l) (upd H l (.tup ys))) ∨ (SqT K H p ys ∧ Q (.ref p) H))
theorem call_tupK {X : Cx} (K : PySem.W.Frag) (hK : X.K = K := by rfl) : CallR X (.type "tuple") (qTupleOf K) := hK ▸ call_tuple_of
section
variable {M : List Addr} {H : Hp} {Q : VK} {K : PySem.W.Frag} {a : Addr} {ds : List PyData} {xs : List V} {σ : L2.St} {to te : TE}
theorem rd_dtuple (s : Al M H) (h : Is M H (.ref a) (.list ds)) (q : ∀ p H', H p = none → Ext [] H H' → Is M H' (.ref p) (.tuple ds) → Q (.ref p) H') : qTupleOf K [.ref a] H Q := by
  obtain ⟨xs, _, hx, r⟩ := h.list
  exact ⟨a, xs, rfl, .inl ⟨SqL.of hx, fun l hl => q l _ hl (.new hl) (new_tup s r hl)⟩⟩
theorem rd_m1 {r : V → List V → Hp → VK → Prop} (q : to σ H fun x H1 => (∃ a, x = .str a) ∧ te σ H1 fun y H2 => r x [y] H2 Q) : tM1 r to te σ H Q := q
theorem rd_ixS {z : Str} {i : Int} {j : Nat} {c : Nat} (hz : z.length ≤ 100000) (hj : i = (j : Int)) (h : z.cps.toList[j]? = some c) (q : Q (.str ⟨#[c]⟩) H) : rIxS (.str z) (.int i) H Q := by
  subst hj
  exact ⟨z, _, c, rfl, rfl, szL hz, atI_nat h, q⟩
/-- one of a written list of anything -/
theorem rd_pickV {P : V → Prop} {i : Int} {j : Nat} (h : H a = some (.lst xs)) (hi : i = (j : Int)) (hv : j < xs.length) (hP : ∀ x ∈ xs, P x) (q : ∀ x, P x → Q x H) : rIxL K (.ref a) (.int i) H Q := by
  subst hi
  exact rd_ixL (SqL.of h) (atI_nat (List.getElem?_eq_getElem hv)) (q _ (hP _ (List.getElem_mem hv)))
end
theorem IsAll.ofStrs {M : List Addr} {H : Hp} : ∀ {vs : List V} {xs : List Str}, IsAll M H vs (xs.map PyData.str) → vs = xs.map V.str
  | _, [], h => by cases h; rfl
  | _, n :: ns, h => by
    cases h with
    | cons h r => cases h; rw [IsAll.ofStrs r]; rfl
theorem u70 {k : Nat} {A : Around} (r : Room k A) : A.units + 70 < cLine := by have := r.un; omega
section
variable {N M : List Addr} {H0 H : Hp} {a D : Addr} {K : PySem.W.Frag} {j : Nat} {vs : List Nat} {te : TE} {tt : TT} {σ : L2.St} {Q : VK} {α : Type} {L : List α} {g : α → PyData}
/-- [e for x in a tuple] -/
theorem q_lcTM (f : α → PyData) (s : Al M H0) (hD : H0 D = none) (h : Is M H0 (.ref a) (.tuple (L.map g))) (hn : L.length ≤ 100000) (hw : ∀ x, wipe ((wipe σ vs).set j (some x)) vs = wipe σ vs)
    (he : ∀ (x : V) (y : α) H', y ∈ L → Al (D :: M) H' → Ext [] H0 H' → Is (D :: M) H' x (g y) → ∀ R : VK, (∀ w H'', Ext [] H' H'' → Is (D :: M) H'' w (f y) → R w H'') → te ((wipe σ vs).set j (some x)) H' R)
    (hd : ∀ H', Ext [] H0 H' → Is M H' (.ref D) (.list (L.map f)) → Q (.ref D) H') : qLc (Itt K a) (gName j) tYes te vs σ D H0 Q := by
  obtain ⟨xs, na, hx, r⟩ := h.tuple
  have hlen : xs.length = L.length := by rw [r.length, List.length_map]
  refine lc_tup (xs := xs) (fun i H' => MadeN [] M H0 D ((L.take i).map f) H') (MadeN.start (by simp) s hD) (fun i H' _ m => ?_) (fun i x H' hi m => ?_) fun H' m => ?_
  · exact SqT.of (m.ext.keep _ _ (by simp) hx)
  · obtain ⟨d, hd', iv⟩ := r.got hi
    rw [List.getElem?_map] at hd'
    cases hy : L[i]? with
    | none => rw [hy] at hd'; cases hd'
    | some y =>
      rw [hy] at hd'
      cases hd'
      refine ⟨hw _, rd_yes ?_⟩
      refine iteT ?_
      refine he x y H' (List.mem_of_getElem? hy) (m.al s) m.ext (m.ofs iv) _ fun w H'' e1 i1 => ?_
      obtain ⟨acc, h1, h2, m'⟩ := m.step e1 i1 (by
        have : i < L.length := (List.getElem?_eq_some_iff.mp hy).1
        rw [List.length_map, List.length_take]
        omega)
      refine ⟨acc, h1, h2, ?_⟩
      rw [take_snoc hy, List.map_append]
      exact m'
  · rw [hlen, List.take_length] at m
    exact hd H' m.ext m.is
end
def tnB (K : PySem.W.Frag) (x : Str) : Bool := match K.lookup (He.ga K x) with
  | some ⟨.type c, none, _, _⟩ => decide (c = "tuple")
  | _ => false
theorem tnB_ok {K : PySem.W.Frag} {x : Str} (h : tnB K x = true) : ∃ o, K.lookup (He.ga K x) = some o ∧ o.cls = .type "tuple" ∧ o.dict = none := by
  unfold tnB at h
  cases q : K.lookup (He.ga K x) with
  | none => rw [q] at h; cases h
  | some o =>
    obtain ⟨oc, od, dt, osl⟩ := o
    rw [q] at h
    cases oc with
    | type c =>
      cases od with
      | none => exact ⟨_, rfl, congrArg Value.type (of_decide_eq_true h), rfl⟩
      | some _ => cases h
    | _ => cases od <;> cases h
section
variable {K : PySem.W.Frag} {H : Hp} {σ : L2.St} {R : L2.St → Hp → Prop} {a : Addr} {xs r : List V} {v : V} {g : TG} {gs : TGs} {n : Nat}
theorem rd_gnil (q : R σ H) : gNil [] σ H R := ⟨rfl, q⟩
theorem rd_gcons (q : g v σ H fun σ' H' => gs r σ' H' R) : gCons g gs (v :: r) σ H R := ⟨v, r, rfl, q⟩
theorem rd_gtup (h : SqT K H a xs) (hn : xs.length = n) (q : gs xs σ H R) : gTup K n gs (.ref a) σ H R := ⟨a, xs, rfl, h, hn, q⟩
end
/-- f is a text's method call, index of a text -/
theorem rd_mulS {H : Hp} {Q : VK} {z : Str} {n : Int} (h : MulOk z n) (q : Q (.str (Txt.mul z n)) H) : rMulS (.str z) (.int n) H Q := ⟨z, n, rfl, rfl, h, q⟩
section
variable {K : PySem.W.Frag} {H : Hp} {Q : VK} {p : Addr} {u v w : V} {r : List V}
theorem rd_ixT0 (h : SqT K H p (v :: r)) (q : Q v H) : rIxT K (.ref p) (.int 0) H Q := rd_ixT h (atI_nat (j := 0) rfl) q
theorem rd_ixT1 (h : SqT K H p (u :: v :: r)) (q : Q v H) : rIxT K (.ref p) (.int 1) H Q := rd_ixT h (atI_nat (j := 1) rfl) q
theorem rd_ixT2 (h : SqT K H p (u :: w :: v :: r)) (q : Q v H) : rIxT K (.ref p) (.int 2) H Q := rd_ixT h (atI_nat (j := 2) rfl) q
end
theorem iteB {b : Bool} {A B : Prop} (h : b = true) (q : A) : if b = true then A else B := by rw [if_pos h]; exact q
theorem iteBn {b : Bool} {A B : Prop} (h : b = false) (q : B) : if b = true then A else B := by rw [if_neg (by rw [h]; exact Bool.false_ne_true)]; exact q
theorem rd_tcut0 {M : List Addr} {H : Hp} {Q : VK} {K : PySem.W.Frag} {a : Addr} {ds : List PyData} {hi : Int} {h : Nat} (s : Al M H) (i : Is M H (.ref a) (.tuple ds)) (hh : hi = (h : Int)) (hlt : h < ds.length) (q : ∀ p H', H p = none → Ext [] H H' → Is M H' (.ref p) (.tuple (ds.take h)) → Q (.ref p) H') : rSlT K (.ref a) none (some hi) H Q := by
  subst hh
  obtain ⟨xs, _, hx, r⟩ := i.tuple
  have hl := r.length
  refine ⟨a, xs, rfl, SqT.of hx, fun z => ?_, fun p hp => q p _ hp (.new hp) (new_tup s r.cut0 hp)⟩
  have z2 := z.2
  rw [HT.sIx_nat] at z2
  omega
theorem StAt.updN {H A : Hp} {p l D : Addr} {o : HO} (h : StAt H p l) (hD : H D = none) (s : StAt A p l) : StAt (upd A D o) p l :=
  s.ext (M := [D]) (.set (List.mem_cons_self ..)) (fun z => h.al (by rw [List.mem_singleton.mp z]; exact hD)) (fun z => h.al2 (by rw [List.mem_singleton.mp z]; exact hD))
/-- t + u, whatever is empty -/
def rCatT0 (K : PySem.W.Frag) : R2 := fun x y H Q => ∃ a b xs ys, x = .ref a ∧ y = .ref b ∧ SqT K H a xs ∧ SqT K H b ys ∧ xs.length + ys.length ≤ sizeLine ∧ (xs = [] → Q (.ref b) H) ∧ (xs ≠ [] → ys = [] → Q (.ref a) H) ∧
  (xs ≠ [] → ys ≠ [] → ∀ p, H p = none → Q (.ref p) (upd H p (.tup (xs ++ ys))))
theorem op_catT0 {X : Cx} (K : PySem.W.Frag) (hK : X.K = K := by rfl) : OpR X (binaryOp .Add) (rCatT0 K) := by
  subst hK
  intro pins s σ H x y v u Q I rx ry h
  obtain ⟨a, b, xs, ys, rfl, rfl, ha, hb, hz, q1, q2, q3⟩ := h
  by_cases hx : xs = []
  · subst hx
    cases rx
    cases ry
    obtain ⟨its, r1, p1, _⟩ := I.tuple ha
    obtain ⟨its2, r2, p2, _⟩ := I.tuple hb
    cases r1
    obtain ⟨⟨c1, d1, t1, l1⟩, o1, f1, n, g1⟩ := id p1
    obtain ⟨⟨c2, d2, t2, l2⟩, o2, f2, m, g2⟩ := id p2
    simp only at f1 g1 f2 g2
    subst f1 g1 f2 g2
    exact concat_meets ⟨_, o1, rfl⟩ ⟨_, o2, rfl⟩ noFill_tuple_add seq_tuple_add F.slot_tuple_add F.entry_tuple_add (F.args_tuple_add_2 _ _) (tuple_addW0 a b _ _ n m d1 d2 l1 l2 (by simp)) ⟨o1, o2, ⟨.ref b, H, I, rfl, q1 rfl⟩⟩
  · exact op_catT pins s σ H _ _ v u Q I rx ry ⟨a, b, xs, ys, rfl, rfl, ha, hb, hx, hz, q2 hx, q3 hx⟩
theorem rd_dcatT0 {K : PySem.W.Frag} {H : Hp} {Q : VK} {M : List Addr} {a b : Addr} {ds es : List PyData} (s : Al M H) (h : Is M H (.ref a) (.tuple ds)) (k : Is M H (.ref b) (.tuple es)) (hz : ds.length + es.length ≤ 100000)
    (q : ∀ p H', Ext [] H H' → Is M H' (.ref p) (.tuple (ds ++ es)) → Q (.ref p) H') : rCatT0 K (.ref a) (.ref b) H Q := by
  obtain ⟨xs, _, hx, r⟩ := h.tuple
  obtain ⟨ys, _, hy, r'⟩ := k.tuple
  refine ⟨a, b, xs, ys, rfl, rfl, SqT.of hx, SqT.of hy, szL (by rw [r.length, r'.length]; exact hz), fun e => ?_, fun _ e => ?_, fun _ _ p hp => q p _ (.new hp) (new_tup s (r.append r') hp)⟩
  · subst e
    cases r
    exact q b H .refl k
  · subst e
    cases r'
    rw [List.append_nil] at q
    exact q a H .refl h
def rAddSt : R2 := fun x y H Q => ∃ i j, x = .str i ∧ y = .str j ∧ i.length + j.length ≤ sizeLine ∧ Q (.str (i ++ j)) H
theorem op_addSt {X : Cx} : OpR X (binaryOp .Add) rAddSt := op_add_str
/-! ### abs of a truth value; membership in tuples of anything; whole slices of tuples; while; texts walked -/
theorem slot_bool_abs : Slot "bool" "__abs__" "int.__abs__" :=
  .of (owner := "int") (n := "__abs__") (by rw [typeLookup_type, builtinLookup_eq_fast]; kernel_rfl) (by decide +kernel) (by decide +kernel)
    (by decide +kernel) (by first | exact .inl (by decide +kernel) | exact .inr (by decide +kernel)) (by rw [isSubtype_type]; kernel_rfl)
section
open PySem.Calls
theorem abs_bool {prog : Program} {w : World} {A : Around} {E : Value → Shared → Prop} {s : Shared} {b : Bool} {Q : Value → Shared → Prop} (h : ∀ u tk, Q (.int (if b then 1 else 0) u) { s with toks := tk }) : wpAny (model prog w) A (call (.builtin "abs") [.bool b]) Q E s := by
  refine call_function_entry PyProof.Rows.kind_abs PyProof.Rows.plain_abs PyProof.Rows.entry_abs (PyProof.Rows.args_abs _) ?_
  unfold Builtin.«abs»
  refine wpAny_bind (m := oneArg "abs" _) (wpAny_pure ?_)
  refine wpAny_bind (m := callSpecial? (.bool b) (Str.ofString "__abs__")) (wpAny_callSpecial?_slot (name := Str.ofString "__abs__") (show s.TypeIs (.bool b) "bool" from rfl) slot_bool_abs (wpAny_call_entry slot_bool_abs (show s.TypeIs (.bool b) "bool" from rfl) PyProof.Rows.entry_int_abs ?_ (PyProof.Rows.args_int_abs _)))
  have h' := h s.toks (s.toks + 1)
  cases b <;> exact wpAny_ret_mkInt (wpAny_pure ⟨_, rfl, h'⟩)
end
def qAbs : List V → Hp → VK → Prop := fun xs H Q => (∃ i, xs = [.int i] ∧ Q (.int (if i < 0 then -i else i)) H) ∨ ∃ b, xs = [.bl b] ∧ Q (.int (if b then 1 else 0)) H
theorem call_absq {X : Cx} : CallR X (.builtin "abs") qAbs := by
  intro pins s σ H xs us Q I r h
  rcases h with h | ⟨b, rfl, q⟩
  · exact call_abs pins s σ H xs us Q I r h
  · obtain ⟨u, rfl, ru⟩ := vals1 r
    cases (show u = Value.bool b from ru)
    exact abs_bool fun u tk => ⟨.int (if b then 1 else 0), H, I.tok _, ⟨_, rfl⟩, q⟩
def rNotInDT (K : PySem.W.Frag) : R2 := fun x y H Q => ∃ d ds, Dp K H x d ∧ Dp K H y (.tuple ds) ∧ SeqAt.shaped d = true ∧ SeqAt.shaped (.tuple ds) = true ∧ Q (.bl (!ds.any fun z => PyData.eqv z d)) H
theorem op_notInDT {X : Cx} (hu : X.A.units + 70 < cLine) (K : PySem.W.Frag) (hK : X.K = K := by rfl) : OpR X (compareOp .NotIn) (rNotInDT K) := by
  subst hK
  intro pins s σ H x y v u Q I rx ry h
  obtain ⟨d, ds, hd, he, sd, se, q⟩ := h
  obtain ⟨as, r1⟩ := Dp.reads I d x v hd rx
  obtain ⟨bs, r2⟩ := Dp.reads I (.tuple ds) y u he ry
  have h1 := SeqAt.depth_of_shaped sd
  have h2 := SeqAt.canLay_of_shaped se
  simp only [PyData.canLay0] at h2
  exact SeqAt.notIn_tuple_reads r2 r1 h2 (SeqAt.canLay_of_shaped sd) (by omega) ⟨.bl _, H, I, rfl, q⟩
def qOrd : List V → Hp → VK → Prop := fun xs H Q => ∃ x, xs = [.str x] ∧ x.length = 1 ∧ Q (.int (x.cps.getD 0 0 : Nat)) H
theorem call_ordq {X : Cx} : CallR X (.builtin "ord") qOrd := call_ord
def rLeSt : R2 := fun x y H Q => ∃ i j, x = .str i ∧ y = .str j ∧ Q (.bl (!decide (j.cps.toList < i.cps.toList))) H
theorem op_leSt {X : Cx} : OpR X (compareOp .LtE) rLeSt := op_le_str
section
variable {M : List Addr} {H : Hp} {Q : VK} {K : PySem.W.Frag} {a : Addr} {ds : List PyData} {σ : L2.St} {c : TT} {tb : TS} {D : Ends}
theorem rd_absI {i : Int} (q : Q (.int (if i < 0 then -i else i)) H) : qAbs [.int i] H Q := .inl ⟨i, rfl, q⟩
theorem rd_absB {b : Bool} (q : Q (.int (if b then 1 else 0)) H) : qAbs [.bl b] H Q := .inr ⟨b, rfl, q⟩
theorem rd_ord {c : Nat} (q : Q (.int (c : Nat)) H) : qOrd [.str ⟨#[c]⟩] H Q := ⟨_, rfl, rfl, q⟩
theorem rd_leSt {i j : Str} (q : Q (.bl (!decide (j.cps.toList < i.cps.toList))) H) : rLeSt (.str i) (.str j) H Q := ⟨i, j, rfl, rfl, q⟩
theorem rd_notInDT {x y : V} {d : PyData} (h : Is M H x d) (k : Dp K H y (.tuple ds)) (s1 : SeqAt.shaped d = true) (s2 : SeqAt.shaped (.tuple ds) = true) (q : Q (.bl (!ds.any fun z => PyData.eqv z d)) H) : rNotInDT K x y H Q := ⟨d, ds, h.dp, k, s1, s2, q⟩
/-- slices of data -/
def cutD (ds : List PyData) (lo hi : Option Int) : List PyData := (ds.drop (HT.sIx ds.length 0 lo)).take (HT.sIx ds.length ds.length hi - HT.sIx ds.length 0 lo)
theorem cutD_take (ds : List PyData) (h : Nat) : cutD ds none (some (h : Int)) = ds.take h := by
  unfold cutD
  rw [HT.sIx_none, HT.sIx_nat, List.drop_zero, Nat.sub_zero]
  by_cases z : h ≤ ds.length
  · rw [Nat.min_eq_left z]
  · rw [Nat.min_eq_right (by omega), List.take_length, List.take_of_length_le (by omega)]
theorem cutD_drop (ds : List PyData) (l : Nat) : cutD ds (some (l : Int)) none = ds.drop l := by
  unfold cutD
  rw [HT.sIx_nat, HT.sIx_none]
  by_cases z : l ≤ ds.length
  · rw [Nat.min_eq_left z, List.take_of_length_le (by rw [List.length_drop]; omega)]
  · rw [Nat.min_eq_right (by omega), Nat.sub_self, List.take_zero, List.drop_of_length_le (by omega)]
theorem IsAll.cutA {M : List Addr} {H : Hp} {xs : List V} {ds : List PyData} (lo hi : Option Int) (r : IsAll M H xs ds) : IsAll M H (cutV xs lo hi) (cutD ds lo hi) := by
  unfold cutV cutD
  rw [r.length]
  exact (r.drop _).take _
theorem rd_tcutA {lo hi : Option Int} (s : Al M H) (i : Is M H (.ref a) (.tuple ds)) (q : ∀ p H', Ext [] H H' → Is M H' (.ref p) (.tuple (cutD ds lo hi)) → Q (.ref p) H') : rSlA K (.ref a) lo hi H Q := by
  obtain ⟨xs, _, hx, r⟩ := i.tuple
  refine ⟨a, xs, rfl, SqT.of hx, fun w => ?_, fun _ p hp => q p _ (.new hp) (new_tup s (r.cutA lo hi) hp)⟩
  have e : cutD ds lo hi = ds := by
    unfold cutD
    rw [← r.length, w.1, w.2, List.drop_zero, Nat.sub_zero, List.take_of_length_le (by rw [r.length]; exact Nat.le_refl _)]
  rw [e] at q
  exact q a H .refl i
end
theorem sl_tupAK {X : Cx} (K : PySem.W.Frag) (hK : X.K = K := by rfl) : SlR X (rSlA K) := hK ▸ sl_tupA
section
variable {M : List Addr} {H0 H : Hp} {a D : Addr} {K : PySem.W.Frag} {j : Nat} {vs : List Nat} {te : TE} {tt : TT} {σ : L2.St} {Q : VK} {ds : List PyData}
/-- [sign for sign in a text if test] -/
theorem q_lcS (p : Nat → Bool) {x : Str} (s : Al M H0) (hD : H0 D = none) (hn : x.length ≤ 100000) (hw : ∀ v, wipe ((wipe σ vs).set j (some v)) vs = wipe σ vs)
    (ht : ∀ c H', c ∈ x.cps.toList → Al (D :: M) H' → Ext [] H0 H' → ∀ R : Bool → Hp → Prop, (∀ H'', Ext [] H' H'' → R (p c) H'') → tt ((wipe σ vs).set j (some (.str ⟨#[c]⟩))) H' R)
    (he : ∀ c H' (R : VK), R (.str ⟨#[c]⟩) H' → te ((wipe σ vs).set j (some (.str ⟨#[c]⟩))) H' R)
    (hd : ∀ H', Ext [] H0 H' → Is M H' (.ref D) (.list ((x.cps.toList.filter p).map fun c => .str ⟨#[c]⟩)) → Q (.ref D) H') : qLc (Its x) (gName j) tt te vs σ D H0 Q := by
  have hsz : x.cps.toList.length = x.cps.size := by simp
  have hn' : x.cps.size ≤ 100000 := hn
  refine ⟨fun i m H' => m = x.cps.size - i ∧ i ≤ x.cps.size ∧ MadeN [] M H0 D (((x.cps.toList.take i).filter p).map fun c => .str ⟨#[c]⟩) H', ⟨_, rfl, Nat.zero_le _, by rw [List.take_zero]; exact MadeN.start (by simp) s hD⟩, ?_⟩
  rintro i m H' ⟨rfl, hi, mk⟩
  by_cases hlt : i < x.cps.size
  · refine .inr ⟨hlt, fun H'' => MadeN [] M H0 D (((x.cps.toList.take (i + 1)).filter p).map fun c => .str ⟨#[c]⟩) H'', fun H'' mm => ⟨x.cps.size - (i + 1), by omega, rfl, hlt, mm⟩, ?_⟩
    rintro v H'' ⟨rfl, c, hc, rfl⟩
    have hc' : x.cps.toList[i]? = some c := by rw [Array.getElem?_toList]; exact hc
    refine ⟨hw _, ht c _ (List.mem_of_getElem? hc') (mk.al s) mk.ext _ fun H2 e2 => ?_⟩
    rw [take_snoc hc', List.filter_append, List.map_append]
    have hlen : (((x.cps.toList.take i).filter p).map fun c => PyData.str ⟨#[c]⟩).length < 100000 := by
      have z := List.length_filter_le p (x.cps.toList.take i)
      rw [List.length_take] at z
      rw [List.length_map]
      omega
    cases hp : p c with
    | true =>
      refine iteT (he c H2 _ ?_)
      obtain ⟨acc, h1, h2, m'⟩ := mk.step (d := .str ⟨#[c]⟩) e2 (.str _) hlen
      refine ⟨acc, h1, h2, ?_⟩
      rw [List.filter_cons, if_pos hp]
      exact m'
    | false =>
      refine iteF ?_
      rw [List.filter_cons, if_neg (by rw [hp]; exact Bool.false_ne_true)]
      show MadeN [] M H0 D (_ ++ []) H2
      rw [List.append_nil]
      exact mk.go e2
  · have e : i = x.cps.size := by omega
    subst e
    rw [← hsz, List.take_length] at mk
    exact .inl ⟨Nat.le_refl _, hd H' mk.ext mk.is⟩
/-- [x for x in a tuple if test] -/
theorem q_lcFT (p : PyData → Bool) (s : Al M H0) (hD : H0 D = none) (h : Is M H0 (.ref a) (.tuple ds)) (hn : ds.length ≤ 100000) (hw : ∀ x, wipe ((wipe σ vs).set j (some x)) vs = wipe σ vs)
    (ht : ∀ (x : V) (d : PyData) H', d ∈ ds → Al (D :: M) H' → Ext [] H0 H' → Is (D :: M) H' x d → ∀ R : Bool → Hp → Prop, (∀ H'', Ext [] H' H'' → R (p d) H'') → tt ((wipe σ vs).set j (some x)) H' R)
    (he : ∀ (x : V) H' (R : VK), R x H' → te ((wipe σ vs).set j (some x)) H' R)
    (hd : ∀ H', Ext [] H0 H' → Is M H' (.ref D) (.list (ds.filter p)) → Q (.ref D) H') : qLc (Itt K a) (gName j) tt te vs σ D H0 Q := by
  obtain ⟨xs, na, hx, r⟩ := h.tuple
  refine lc_tup (xs := xs) (fun i H' => MadeN [] M H0 D ((ds.take i).filter p) H') (MadeN.start (by simp) s hD) (fun i H' _ m => SqT.of (m.ext.keep _ _ (by simp) hx)) (fun i x H' hi m => ?_) fun H' m => hd H' m.ext (by have z := m.is; rw [r.length, List.take_length] at z; exact z)
  obtain ⟨d, hd', iv⟩ := r.got hi
  have hlt : i < ds.length := (List.getElem?_eq_some_iff.mp hd').1
  refine ⟨hw _, ?_⟩
  refine ht x d H' (List.mem_of_getElem? hd') (m.al s) m.ext (m.ofs iv) _ fun H2 e2 => ?_
  rw [take_snoc hd', List.filter_append]
  cases hp : p d with
  | true =>
    refine iteT (he x H2 _ ?_)
    obtain ⟨acc, h1, h2, m'⟩ := m.step (d := d) e2 ((m.ofs iv).mono e2.any) (by
      have z := List.length_filter_le p (ds.take i)
      rw [List.length_take] at z
      omega)
    refine ⟨acc, h1, h2, ?_⟩
    rw [List.filter_cons, if_pos hp]
    exact m'
  | false =>
    refine iteF ?_
    rw [List.filter_cons, if_neg (by rw [hp]; exact Bool.false_ne_true)]
    show MadeN [] M H0 D (_ ++ []) H2
    rw [List.append_nil]
    exact m.go e2
end
theorem sign_lt (c k : Nat) : decide ((⟨#[c]⟩ : Str).cps.toList < (⟨#[k]⟩ : Str).cps.toList) = decide (c < k) := by
  show decide ([c] < [k]) = _
  refine decide_eq_decide.mpr ?_
  rw [List.cons_lt_cons_iff]
  simp
theorem rd_lenS {H : Hp} {Q : VK} {z : Str} (hz : z.length ≤ 100000) (q : Q (.int z.length) H) : qLenS [.str z] H Q := ⟨z, rfl, szL hz, q⟩
theorem rd_leA {H : Hp} {Q : VK} {c : Nat} (q : Q (.bl (decide (97 ≤ c))) H) : rLeSt (.str "a") (.str ⟨#[c]⟩) H Q := by
  refine rd_leSt ?_
  have e : decide ((⟨#[c]⟩ : Str).cps.toList < ("a" : Str).cps.toList) = decide (c < 97) := sign_lt c 97
  rw [e]
  have e2 : (!decide (c < 97)) = decide (97 ≤ c) := by
    by_cases h : c < 97
    · rw [decide_eq_true h, decide_eq_false (by omega)]; rfl
    · rw [decide_eq_false h, decide_eq_true (by omega)]; rfl
  rw [e2]
  exact q
theorem rd_leZ {H : Hp} {Q : VK} {c : Nat} (q : Q (.bl (decide (c ≤ 122))) H) : rLeSt (.str ⟨#[c]⟩) (.str "z") H Q := by
  refine rd_leSt ?_
  have e : decide (("z" : Str).cps.toList < (⟨#[c]⟩ : Str).cps.toList) = decide (122 < c) := sign_lt 122 c
  rw [e]
  have e2 : (!decide (122 < c)) = decide (c ≤ 122) := by
    by_cases h : 122 < c
    · rw [decide_eq_true h, decide_eq_false (by omega)]; rfl
    · rw [decide_eq_false h, decide_eq_true (by omega)]; rfl
  rw [e2]
  exact q
theorem rd_istr {σ : L2.St} {H : Hp} {te : TE} {R : It → Hp → Prop} (q : te σ H fun v H1 => ∃ x, v = .str x ∧ R (Its x) H1) : iStr te σ H R := q
theorem IsAll.snocI {M : List Addr} {H : Hp} {d : PyData} : ∀ {xs : List V} {ds : List PyData}, IsAll M H xs (ds ++ [d]) → ∃ xs' v, xs = xs' ++ [v] ∧ IsAll M H xs' ds ∧ Is M H v d
  | _, [], .cons h .nil => ⟨[], _, rfl, .nil, h⟩
  | _, _ :: _, .cons h r => by
    obtain ⟨xs', v, rfl, r', i⟩ := IsAll.snocI r
    exact ⟨_ :: xs', v, rfl, .cons h r', i⟩
theorem rd_dlistT {M : List Addr} {H : Hp} {Q : VK} {K : PySem.W.Frag} {a : Addr} {ds : List PyData} (s : Al M H) (h : Is M H (.ref a) (.tuple ds)) (q : ∀ p H', H p = none → Ext [] H H' → Is M H' (.ref p) (.list ds) → Q (.ref p) H') : qListOf K [.ref a] H Q := by
  obtain ⟨xs, _, hx, r⟩ := h.tuple
  exact rd_listT (SqT.of hx) fun p hp => q p _ hp (.new hp) (new_lst s r hp)
theorem cutD_last (ds : List PyData) : cutD ds none (some (-1)) = ds.dropLast := by
  show (ds.drop 0).take (((-1) + (ds.length : Int)).toNat - 0) = _
  rw [List.drop_zero, List.dropLast_eq_take]
  congr 1
  omega
theorem sql_e {K : PySem.W.Frag} {H H' : Hp} {a : Addr} {xs : List V} (h : SqL K H a xs) (e : Ext [] H H') : SqL K H' a xs := by
  rcases h with (h | ⟨o, h⟩) | h
  · exact .inl (.inl (e.keep _ _ (by simp) h))
  · exact .inl (.inr ⟨o, e.keep _ _ (by simp) h⟩)
  · exact .inr h
theorem rd_trep {K : PySem.W.Frag} {H : Hp} {Q : VK} {M : List Addr} {a : Addr} {ds : List PyData} {k : Int} (s : Al M H) (h : Is M H (.ref a) (.tuple ds)) (hne : ds ≠ []) (h1 : 2 ≤ k) (h2 : k ≤ 1000) (hl : ds.length ≤ 1000) (q : ∀ p H', Ext [] H H' → Is M H' (.ref p) (.tuple (List.replicate k.toNat ds).flatten) → Q (.ref p) H') : rRepT K (.ref a) (.int k) H Q := by
  obtain ⟨xs, _, hx, r⟩ := h.tuple
  refine ⟨a, k, xs, rfl, rfl, SqT.of hx, fun e => ?_, h1, h2, by rw [r.length]; exact hl, fun p hp => q p _ (.new hp) (new_tup s (r.reps _) hp)⟩
  subst e
  cases r
  exact hne rfl
def top (i : Nat) : Stmt := PySem.Challenge.pw_steadwhole_k75_forms_of_statements_on_ta.main.body.getD i (.Pass ⟨0, 0, 0, 0⟩)
abbrev s_is_within : Stmt := top 3
abbrev s_is_plain : Stmt := top 4
abbrev s_is_count : Stmt := top 8
abbrev s_is_row_of : Stmt := top 9
abbrev s_is_name : Stmt := top 10
abbrev s_is_value : Stmt := top 11
abbrev s_is_operand : Stmt := top 12
abbrev s_is_condition : Stmt := top 13
abbrev s_are_conditions : Stmt := top 14
abbrev s_is_setting : Stmt := top 15
abbrev s_are_settings : Stmt := top 16
abbrev s_is_source : Stmt := top 17
abbrev s_is_output : Stmt := top 18
abbrev s_is_create : Stmt := top 19
abbrev s_is_insert : Stmt := top 20
abbrev s_is_select : Stmt := top 21
abbrev s_is_statement : Stmt := top 22
abbrev s_law_draw : Stmt := top 24
abbrev s_law_name : Stmt := top 25
abbrev s_law_value : Stmt := top 26
abbrev s_law_is : Stmt := top 27
abbrev s_law_odd_names : Stmt := top 28
abbrev s_law_odd_values : Stmt := top 29
abbrev s_law_turned : Stmt := top 30
abbrev s_law_refuses : Stmt := top 31
abbrev s_law_edges : Stmt := top 32
abbrev s_law_create : Stmt := top 33
abbrev s_law : Stmt := top 34
abbrev nm_is_within : List Str := ["value", "most", "todo", "part", "depth", "each"]
abbrev pm_is_within : List Str := ["value", "most"]
theorem sc_is_within : FnScope nm_is_within pm_is_within (defScope s_is_within) := ⟨rfl, rfl, rfl, by decide +kernel, rfl, by decide +kernel, by decide +kernel⟩
theorem bd_is_within : BindAll "is_within" "is_within" s_is_within pm_is_within := fun _ _ _ _ _ _ us hl => match us, hl with | [_, _], _ => rfl
abbrev nm_is_plain : List Str := ["value"]
abbrev pm_is_plain : List Str := ["value"]
theorem sc_is_plain : FnScope nm_is_plain pm_is_plain (defScope s_is_plain) := ⟨rfl, rfl, rfl, by decide +kernel, rfl, by decide +kernel, by decide +kernel⟩
theorem bd_is_plain : BindAll "is_plain" "is_plain" s_is_plain pm_is_plain := fun _ _ _ _ _ _ us hl => match us, hl with | [_], _ => rfl
abbrev nm_is_count : List Str := ["value", "low", "high"]
abbrev pm_is_count : List Str := ["value", "low", "high"]
theorem sc_is_count : FnScope nm_is_count pm_is_count (defScope s_is_count) := ⟨rfl, rfl, rfl, by decide +kernel, rfl, by decide +kernel, by decide +kernel⟩
theorem bd_is_count : BindAll "is_count" "is_count" s_is_count pm_is_count := fun _ _ _ _ _ _ us hl => match us, hl with | [_, _, _], _ => rfl
abbrev nm_is_row_of : List Str := ["value", "low", "high"]
abbrev pm_is_row_of : List Str := ["value", "low", "high"]
theorem sc_is_row_of : FnScope nm_is_row_of pm_is_row_of (defScope s_is_row_of) := ⟨rfl, rfl, rfl, by decide +kernel, rfl, by decide +kernel, by decide +kernel⟩
theorem bd_is_row_of : BindAll "is_row_of" "is_row_of" s_is_row_of pm_is_row_of := fun _ _ _ _ _ _ us hl => match us, hl with | [_, _, _], _ => rfl
abbrev nm_is_name : List Str := ["value", "sign"]
abbrev pm_is_name : List Str := ["value"]
theorem sc_is_name : FnScope nm_is_name pm_is_name (defScope s_is_name) := ⟨rfl, rfl, rfl, by decide +kernel, rfl, by decide +kernel, by decide +kernel⟩
theorem bd_is_name : BindAll "is_name" "is_name" s_is_name pm_is_name := fun _ _ _ _ _ _ us hl => match us, hl with | [_], _ => rfl
abbrev nm_is_value : List Str := ["value", "wrong", "sign"]
abbrev pm_is_value : List Str := ["value"]
theorem sc_is_value : FnScope nm_is_value pm_is_value (defScope s_is_value) := ⟨rfl, rfl, rfl, by decide +kernel, rfl, by decide +kernel, by decide +kernel⟩
theorem bd_is_value : BindAll "is_value" "is_value" s_is_value pm_is_value := fun _ _ _ _ _ _ us hl => match us, hl with | [_], _ => rfl
abbrev nm_is_operand : List Str := ["value"]
abbrev pm_is_operand : List Str := ["value"]
theorem sc_is_operand : FnScope nm_is_operand pm_is_operand (defScope s_is_operand) := ⟨rfl, rfl, rfl, by decide +kernel, rfl, by decide +kernel, by decide +kernel⟩
theorem bd_is_operand : BindAll "is_operand" "is_operand" s_is_operand pm_is_operand := fun _ _ _ _ _ _ us hl => match us, hl with | [_], _ => rfl
abbrev nm_is_condition : List Str := ["value"]
abbrev pm_is_condition : List Str := ["value"]
theorem sc_is_condition : FnScope nm_is_condition pm_is_condition (defScope s_is_condition) := ⟨rfl, rfl, rfl, by decide +kernel, rfl, by decide +kernel, by decide +kernel⟩
theorem bd_is_condition : BindAll "is_condition" "is_condition" s_is_condition pm_is_condition := fun _ _ _ _ _ _ us hl => match us, hl with | [_], _ => rfl
abbrev nm_are_conditions : List Str := ["value", "part"]
abbrev pm_are_conditions : List Str := ["value"]
theorem sc_are_conditions : FnScope nm_are_conditions pm_are_conditions (defScope s_are_conditions) := ⟨rfl, rfl, rfl, by decide +kernel, rfl, by decide +kernel, by decide +kernel⟩
theorem bd_are_conditions : BindAll "are_conditions" "are_conditions" s_are_conditions pm_are_conditions := fun _ _ _ _ _ _ us hl => match us, hl with | [_], _ => rfl
abbrev nm_is_setting : List Str := ["value", "word", "what"]
abbrev pm_is_setting : List Str := ["value"]
theorem sc_is_setting : FnScope nm_is_setting pm_is_setting (defScope s_is_setting) := ⟨rfl, rfl, rfl, by decide +kernel, rfl, by decide +kernel, by decide +kernel⟩
theorem bd_is_setting : BindAll "is_setting" "is_setting" s_is_setting pm_is_setting := fun _ _ _ _ _ _ us hl => match us, hl with | [_], _ => rfl
abbrev nm_are_settings : List Str := ["value", "part"]
abbrev pm_are_settings : List Str := ["value"]
theorem sc_are_settings : FnScope nm_are_settings pm_are_settings (defScope s_are_settings) := ⟨rfl, rfl, rfl, by decide +kernel, rfl, by decide +kernel, by decide +kernel⟩
theorem bd_are_settings : BindAll "are_settings" "are_settings" s_are_settings pm_are_settings := fun _ _ _ _ _ _ us hl => match us, hl with | [_], _ => rfl
abbrev nm_is_source : List Str := ["value"]
abbrev pm_is_source : List Str := ["value"]
theorem sc_is_source : FnScope nm_is_source pm_is_source (defScope s_is_source) := ⟨rfl, rfl, rfl, by decide +kernel, rfl, by decide +kernel, by decide +kernel⟩
theorem bd_is_source : BindAll "is_source" "is_source" s_is_source pm_is_source := fun _ _ _ _ _ _ us hl => match us, hl with | [_], _ => rfl
abbrev nm_is_output : List Str := ["value", "part"]
abbrev pm_is_output : List Str := ["value"]
theorem sc_is_output : FnScope nm_is_output pm_is_output (defScope s_is_output) := ⟨rfl, rfl, rfl, by decide +kernel, rfl, by decide +kernel, by decide +kernel⟩
theorem bd_is_output : BindAll "is_output" "is_output" s_is_output pm_is_output := fun _ _ _ _ _ _ us hl => match us, hl with | [_], _ => rfl
abbrev nm_is_create : List Str := ["value", "wrong", "kind"]
abbrev pm_is_create : List Str := ["value"]
theorem sc_is_create : FnScope nm_is_create pm_is_create (defScope s_is_create) := ⟨rfl, rfl, rfl, by decide +kernel, rfl, by decide +kernel, by decide +kernel⟩
theorem bd_is_create : BindAll "is_create" "is_create" s_is_create pm_is_create := fun _ _ _ _ _ _ us hl => match us, hl with | [_], _ => rfl
abbrev nm_is_insert : List Str := ["value", "part"]
abbrev pm_is_insert : List Str := ["value"]
theorem sc_is_insert : FnScope nm_is_insert pm_is_insert (defScope s_is_insert) := ⟨rfl, rfl, rfl, by decide +kernel, rfl, by decide +kernel, by decide +kernel⟩
theorem bd_is_insert : BindAll "is_insert" "is_insert" s_is_insert pm_is_insert := fun _ _ _ _ _ _ us hl => match us, hl with | [_], _ => rfl
abbrev nm_is_select : List Str := ["value", "part"]
abbrev pm_is_select : List Str := ["value"]
theorem sc_is_select : FnScope nm_is_select pm_is_select (defScope s_is_select) := ⟨rfl, rfl, rfl, by decide +kernel, rfl, by decide +kernel, by decide +kernel⟩
theorem bd_is_select : BindAll "is_select" "is_select" s_is_select pm_is_select := fun _ _ _ _ _ _ us hl => match us, hl with | [_], _ => rfl
abbrev nm_is_statement : List Str := ["value", "word"]
abbrev pm_is_statement : List Str := ["value"]
theorem sc_is_statement : FnScope nm_is_statement pm_is_statement (defScope s_is_statement) := ⟨rfl, rfl, rfl, by decide +kernel, rfl, by decide +kernel, by decide +kernel⟩
theorem bd_is_statement : BindAll "is_statement" "is_statement" s_is_statement pm_is_statement := fun _ _ _ _ _ _ us hl => match us, hl with | [_], _ => rfl
abbrev nm_law_draw : List Str := ["script", "k", "cell", "turn", "step"]
abbrev pm_law_draw : List Str := ["script", "k"]
theorem sc_law_draw : FnScope nm_law_draw pm_law_draw (defScope s_law_draw) := ⟨rfl, rfl, rfl, by decide +kernel, rfl, by decide +kernel, by decide +kernel⟩
theorem bd_law_draw : BindAll "_law_draw" "_law_draw" s_law_draw pm_law_draw := fun _ _ _ _ _ _ us hl => match us, hl with | [_, _], _ => rfl
abbrev nm_law_name : List Str := ["number", "letters", "name", "k"]
abbrev pm_law_name : List Str := ["number"]
theorem sc_law_name : FnScope nm_law_name pm_law_name (defScope s_law_name) := ⟨rfl, rfl, rfl, by decide +kernel, rfl, by decide +kernel, by decide +kernel⟩
theorem bd_law_name : BindAll "_law_name" "_law_name" s_law_name pm_law_name := fun _ _ _ _ _ _ us hl => match us, hl with | [_], _ => rfl
abbrev nm_law_value : List Str := ["number", "signs", "text", "k"]
abbrev pm_law_value : List Str := ["number"]
theorem sc_law_value : FnScope nm_law_value pm_law_value (defScope s_law_value) := ⟨rfl, rfl, rfl, by decide +kernel, rfl, by decide +kernel, by decide +kernel⟩
theorem bd_law_value : BindAll "_law_value" "_law_value" s_law_value pm_law_value := fun _ _ _ _ _ _ us hl => match us, hl with | [_], _ => rfl
abbrev nm_law_is : List Str := ["answer", "due"]
abbrev pm_law_is : List Str := ["answer", "due"]
theorem sc_law_is : FnScope nm_law_is pm_law_is (defScope s_law_is) := ⟨rfl, rfl, rfl, by decide +kernel, rfl, by decide +kernel, by decide +kernel⟩
theorem bd_law_is : BindAll "_law_is" "_law_is" s_law_is pm_law_is := fun _ _ _ _ _ _ us hl => match us, hl with | [_, _], _ => rfl
abbrev nm_law_odd_names : List Str := ["odds", "others", "k"]
abbrev pm_law_odd_names : List Str := []
theorem sc_law_odd_names : FnScope nm_law_odd_names pm_law_odd_names (defScope s_law_odd_names) := ⟨rfl, rfl, rfl, by decide +kernel, rfl, by decide +kernel, by decide +kernel⟩
theorem bd_law_odd_names : BindAll "_law_odd_names" "_law_odd_names" s_law_odd_names pm_law_odd_names := fun _ _ _ _ _ _ us hl => match us, hl with | [], _ => rfl
abbrev nm_law_odd_values : List Str := ["texts"]
abbrev pm_law_odd_values : List Str := []
theorem sc_law_odd_values : FnScope nm_law_odd_values pm_law_odd_values (defScope s_law_odd_values) := ⟨rfl, rfl, rfl, by decide +kernel, rfl, by decide +kernel, by decide +kernel⟩
theorem bd_law_odd_values : BindAll "_law_odd_values" "_law_odd_values" s_law_odd_values pm_law_odd_values := fun _ _ _ _ _ _ us hl => match us, hl with | [], _ => rfl
abbrev nm_law_turned : List Str := ["statement", "place", "odd"]
abbrev pm_law_turned : List Str := ["statement", "place", "odd"]
theorem sc_law_turned : FnScope nm_law_turned pm_law_turned (defScope s_law_turned) := ⟨rfl, rfl, rfl, by decide +kernel, rfl, by decide +kernel, by decide +kernel⟩
theorem bd_law_turned : BindAll "_law_turned" "_law_turned" s_law_turned pm_law_turned := fun _ _ _ _ _ _ us hl => match us, hl with | [_, _, _], _ => rfl
abbrev nm_law_refuses : List Str := ["statement", "place", "odds", "odd"]
abbrev pm_law_refuses : List Str := ["statement", "place", "odds"]
theorem sc_law_refuses : FnScope nm_law_refuses pm_law_refuses (defScope s_law_refuses) := ⟨rfl, rfl, rfl, by decide +kernel, rfl, by decide +kernel, by decide +kernel⟩
theorem bd_law_refuses : BindAll "_law_refuses" "_law_refuses" s_law_refuses pm_law_refuses := fun _ _ _ _ _ _ us hl => match us, hl with | [_, _, _], _ => rfl
abbrev nm_law_edges : List Str := ["statement", "near", "other"]
abbrev pm_law_edges : List Str := ["statement"]
theorem sc_law_edges : FnScope nm_law_edges pm_law_edges (defScope s_law_edges) := ⟨rfl, rfl, rfl, by decide +kernel, rfl, by decide +kernel, by decide +kernel⟩
theorem bd_law_edges : BindAll "_law_edges" "_law_edges" s_law_edges pm_law_edges := fun _ _ _ _ _ _ us hl => match us, hl with | [_], _ => rfl
abbrev nm_law_create : List Str := ["number", "count", "kinds", "k"]
abbrev pm_law_create : List Str := ["number", "count"]
theorem sc_law_create : FnScope nm_law_create pm_law_create (defScope s_law_create) := ⟨rfl, rfl, rfl, by decide +kernel, rfl, by decide +kernel, by decide +kernel⟩
theorem bd_law_create : BindAll "_law_create" "_law_create" s_law_create pm_law_create := fun _ _ _ _ _ _ us hl => match us, hl with | [_, _], _ => rfl
abbrev nm_law : List Str := ["script", "number", "count", "create", "row", "k", "drop", "insert", "replace", "statement", "kinds", "other", "odds", "odd", "place"]
abbrev pm_law : List Str := ["script"]
theorem sc_law : FnScope nm_law pm_law (defScope s_law) := ⟨rfl, rfl, rfl, by decide +kernel, rfl, by decide +kernel, by decide +kernel⟩
theorem bd_law : BindAll "law" "law" s_law pm_law := fun _ _ _ _ _ _ us hl => match us, hl with | [_], _ => rfl
/-- what the top has left -/
structure Txt (K : PySem.W.Frag) (mg : Str → Option Value) : Prop where
  f_is_within : GFun K mg "is_within" s_is_within
  f_is_plain : GFun K mg "is_plain" s_is_plain
  f_is_count : GFun K mg "is_count" s_is_count
  f_is_row_of : GFun K mg "is_row_of" s_is_row_of
  f_is_name : GFun K mg "is_name" s_is_name
  f_is_value : GFun K mg "is_value" s_is_value
  f_is_operand : GFun K mg "is_operand" s_is_operand
  f_is_condition : GFun K mg "is_condition" s_is_condition
  f_are_conditions : GFun K mg "are_conditions" s_are_conditions
  f_is_setting : GFun K mg "is_setting" s_is_setting
  f_are_settings : GFun K mg "are_settings" s_are_settings
  f_is_source : GFun K mg "is_source" s_is_source
  f_is_output : GFun K mg "is_output" s_is_output
  f_is_create : GFun K mg "is_create" s_is_create
  f_is_insert : GFun K mg "is_insert" s_is_insert
  f_is_select : GFun K mg "is_select" s_is_select
  f_is_statement : GFun K mg "is_statement" s_is_statement
  f_law_draw : GFun K mg "_law_draw" s_law_draw
  f_law_name : GFun K mg "_law_name" s_law_name
  f_law_value : GFun K mg "_law_value" s_law_value
  f_law_is : GFun K mg "_law_is" s_law_is
  f_law_odd_names : GFun K mg "_law_odd_names" s_law_odd_names
  f_law_odd_values : GFun K mg "_law_odd_values" s_law_odd_values
  f_law_turned : GFun K mg "_law_turned" s_law_turned
  f_law_refuses : GFun K mg "_law_refuses" s_law_refuses
  f_law_edges : GFun K mg "_law_edges" s_law_edges
  f_law_create : GFun K mg "_law_create" s_law_create
  f_law : GFun K mg "law" s_law
  g_MOST_DEEP : ∃ u, mg "MOST_DEEP" = some u ∧ RelV (.int 30) u
  g_MOST_INTEGER : ∃ u, mg "MOST_INTEGER" = some u ∧ RelV (.int 1000000000000000000000000000000000000000000000000000000000000) u
  g_MOST_VALUE : ∃ u, mg "MOST_VALUE" = some u ∧ RelV (.int 1000000000000000000000000000000) u
  t_OPERATORS : mg "OPERATORS" = some (.ref (He.ga K "OPERATORS")) ∧ ∀ H : Hp, SqT K H (He.ga K "OPERATORS") [.str "=", .str "<>", .str "<", .str "<="]
  z_abs : mg "abs" = none
  z_bool : mg "bool" = none
  z_int : mg "int" = none
  z_isinstance : mg "isinstance" = none
  z_len : mg "len" = none
  z_list : mg "list" = none
  z_min : mg "min" = none
  z_ord : mg "ord" = none
  z_range : mg "range" = none
  z_str : mg "str" = none
  z_tuple : mg "tuple" = none
  d_OPERATORS : ∃ o, K.lookup (He.ga K "OPERATORS") = some o ∧ o.cls = .type "tuple" ∧ o.dict = none
local macro_rules | `(tactic| walk_at "k") => `(tactic| (try dsimp only [cx_K, cx_K2, cx_w]))
local macro_rules | `(tactic| walk_at "ne") => `(tactic| first | assumption | exact Ne.symm (by assumption) | exact ne_of_none (by assumption) (by assumption) | exact Ne.symm (ne_of_none (by assumption) (by assumption)) | exact ne_of (by assumption) (by assumption) (by intro z; cases z))
local macro_rules | `(tactic| walk_at "hp") => `(tactic| first | exact upd_same | assumption | exact SqL.of (by assumption) | exact SqT.of (by assumption) | exact SqL.of upd_same | exact SqT.of upd_same | (refine Eq.trans (upd_ne ?n) ?_ <;> first | (walk_at "hp"; done) | (walk_at "ne"; done)) | (refine SqL.of (Eq.trans (upd_ne ?n) ?_) <;> first | (walk_at "hp"; done) | (walk_at "ne"; done)))
local macro_rules | `(tactic| walk_at "ci") => `(tactic| first | exact .inl ⟨by decide, by decide⟩ | exact .inr ⟨by decide, by decide⟩ | exact .inl ⟨by omega, by omega⟩ | exact .inr ⟨by omega, by omega⟩ | (show (0 : Int) < _; omega) | (show (0 : Int) < _; decide) | (show (0 : Int) ≤ _; omega) | exact ⟨by omega, by omega⟩ | exact ⟨by omega, by omega, by omega⟩ | exact ⟨by decide, by decide, by decide⟩)
local macro_rules | `(tactic| walk_at "hq") => `(tactic| first | exact Is.sql (by assumption) | exact Is.sqt (by assumption) | exact sql_of (by assumption) | exact Is.sql (by walk_at "at") | exact Is.sqt (by walk_at "at"))
local macro_rules | `(tactic| walk_at "isi") => `(tactic| with_reducible (first | refine isi_int_int ?_ | refine isi_int_bool ?_ | refine isi_int_str ?_ | refine isi_int_list ?_ | refine isi_int_tuple ?_ | refine isi_int_dict ?_ | refine isi_int_bytes ?_ | refine isi_bool_int ?_ | refine isi_bool_bool ?_ | refine isi_bool_str ?_ | refine isi_bool_list ?_ | refine isi_bool_tuple ?_ | refine isi_bool_dict ?_ | refine isi_bool_bytes ?_ | refine isi_str_int ?_ | refine isi_str_bool ?_ | refine isi_str_str ?_ | refine isi_str_list ?_ | refine isi_str_tuple ?_ | refine isi_str_dict ?_ | refine isi_str_bytes ?_ | refine isi_NoneType_int ?_ | refine isi_NoneType_bool ?_ | refine isi_NoneType_str ?_ | refine isi_NoneType_list ?_ | refine isi_NoneType_tuple ?_ | refine isi_NoneType_dict ?_ | refine isi_NoneType_bytes ?_ | refine' isi_list_int (by assumption) ?_ | refine' isi_list_bool (by assumption) ?_ | refine' isi_list_str (by assumption) ?_ | refine' isi_list_list (by assumption) ?_ | refine' isi_list_tuple (by assumption) ?_ | refine' isi_list_dict (by assumption) ?_ | refine' isi_list_bytes (by assumption) ?_ | refine' isi_tuple_int (by assumption) ?_ | refine' isi_tuple_bool (by assumption) ?_ | refine' isi_tuple_str (by assumption) ?_ | refine' isi_tuple_list (by assumption) ?_ | refine' isi_tuple_tuple (by assumption) ?_ | refine' isi_tuple_dict (by assumption) ?_ | refine' isi_tuple_bytes (by assumption) ?_ | refine' isi_dict_int (by assumption) ?_ | refine' isi_dict_bool (by assumption) ?_ | refine' isi_dict_str (by assumption) ?_ | refine' isi_dict_list (by assumption) ?_ | refine' isi_dict_tuple (by assumption) ?_ | refine' isi_dict_dict (by assumption) ?_ | refine' isi_dict_bytes (by assumption) ?_))
local macro_rules | `(tactic| walk_at "rd1") => `(tactic| first | (with_reducible (first | refine rd_seq ?_ | refine rd_var rfl ?_ | refine rd_c ?_ | refine rd_op ?_ | refine rd_asg ?_ | refine rd_gName ?_ | refine rd_xor ?_ | refine rd_i0 ?_ | refine rd_if ?_ | refine rd_tTest ?_ | refine rd_tB ?_ | refine rd_tb ?_ | refine rd_ret ?_ | refine rd_retN ?_ | refine rd_nx ?_ | refine rd_drop ?_ | refine rd_eqi ?_ | refine rd_nei ?_ | refine rd_eq rfl ?_ | refine rd_ne rfl ?_ | refine rd_call ?_ | refine rd_cons ?_ | refine rd_nil ?_ | refine rd_cb ?_ | refine rd_un ?_ | refine rd_and ?_ | refine rd_or ?_ | refine rd_not ?_ | refine rd_andV ?_ | refine rd_orV ?_ | refine rd_notV ?_ | refine rd_gSub ?_ | refine rd_augS ?_ | refine rd_aug rfl ?_ | refine rd_ipI ?_ | refine rd_tup ?_ | refine rd_lst ?_ | refine rd_bm0 ?_ | refine rd_bm ?_ | refine rd_chain ?_ | refine rd_rev ?_ | refine rd_tru ?_ | refine rd_u ?_ | refine rd_rng3 ?_ | refine rd_for ?_ | refine rd_lc ?_ | refine rd_rng1 ?_ | refine rd_rng2 ?_ | refine rd_il ?_ | refine rd_it ?_ | refine rd_sl ?_ | refine rd_part ?_ | refine rd_pi ?_ | refine rd_pn ?_ | refine iteT ?_ | refine iteF ?_ | refine iteNT ?_ | refine iteNF ?_ | refine rd_int1 ?_ | refine rd_int1b ?_ | refine rd_isNn ?_ | refine rd_isNi ?_ | refine rd_isNb ?_ | refine rd_isNs ?_ | refine rd_isNr ?_ | refine rd_notNn ?_ | refine rd_notNi ?_ | refine rd_notNb ?_ | refine rd_notNs ?_ | refine rd_notNr ?_ | refine rd_fld ?_ | refine rd_sfld ?_ | refine rd_methW ?_ | refine rd_gcons ?_ | refine rd_gnil ?_ | refine rd_m1 ?_ | refine rd_absI ?_ | refine rd_absB ?_ | refine rd_ord ?_ | refine rd_istr ?_ | refine rd_sfaug ?_ | refine rd_callW ?_ | refine rd_raise ?_)) | ((with_reducible refine' rd_fldA ?h ?c ?n ?l ?_); (case h => walk_at "hp"); (case c => assumption); (case n => assumption); (case l => rfl)) | ((with_reducible refine' rd_setA ?h ?c ?n ?l ?_); (case h => walk_at "hp"); (case c => assumption); (case n => assumption); (case l => exact Nat.le_of_ble_eq_true rfl)) | ((with_reducible refine' rd_faugA ?h ?c ?n ?l ?_); (case h => walk_at "hp"); (case c => assumption); (case n => assumption); (case l => rfl)) | ((with_reducible refine' rd_setB ?h ?l ?_); (case h => walk_at "hp"); (case l => exact Nat.le_of_ble_eq_true rfl)) | ((with_reducible refine' rd_gtup ?h ?l ?_); (case h => walk_at "hp"); (case l => rfl)) | ((with_reducible refine rd_i ?c ?_); (case c => walk_at "ci")) | ((with_reducible refine' rd_ixL ?h ?a ?_); (case h => walk_at "hp"); (case a => rfl)) | ((with_reducible refine' rd_ixT0 ?h ?_); (case h => walk_at "hp")) | ((with_reducible refine' rd_ixT1 ?h ?_); (case h => walk_at "hp")) | ((with_reducible refine' rd_ixT2 ?h ?_); (case h => walk_at "hp")) | ((with_reducible refine' rd_ixT ?h ?a ?_); (case h => walk_at "hp"); (case a => rfl)) | ((with_reducible refine' rd_setL ?h ?a ?_); (case h => walk_at "hp"); (case a => rfl)) | ((with_reducible refine' rd_lenL ?h (fun _ => ?_)); (case h => walk_at "hp")) | ((with_reducible refine' rd_lenT ?h (fun _ => ?_)); (case h => walk_at "hp")) | ((with_reducible refine' rd_dlen ?h (fun _ => ?_)); (case h => assumption)) | ((with_reducible refine' rd_dlenT ?h (fun _ => ?_)); (case h => assumption)) | ((with_reducible refine rd_rng ?a ?b ?_); (case a => omega); (case b => omega)) | ((with_reducible refine' rd_itl ?h ?_); (case h => walk_at "hq")) | ((with_reducible refine' rd_itt ?h ?_); (case h => walk_at "hq")) | walk_at "isi")
local macro_rules | `(tactic| walk_at "rd") => `(tactic| repeat (walk_at "rd1"))
local macro_rules | `(tactic| walk_at "at") => `(tactic| with_reducible (first | assumption | exact StAt.als (by assumption) | exact Is.int _ | exact Is.non | exact Is.bl _ | exact Is.str _ | exact Al.nil | exact Ext.refl | (refine' at_is0 (by assumption) ?k; (case k => walk_at "at")) | (refine' at_is (by assumption) ?k; (case k => walk_at "at")) | (refine' at_is1 (by assumption) ?k; (case k => walk_at "at")) | (refine' at_st0 (by assumption) ?k; (case k => walk_at "at")) | (refine' at_stN (by assumption) ?k; (case k => walk_at "at")) | (refine' at_isN (by assumption) ?k; (case k => walk_at "at")) | (refine' at_al (by assumption) ?k; (case k => walk_at "at")) | (refine' at_alN ?k; (case k => walk_at "at")) | (refine' at_ext (by assumption) ?k; (case k => walk_at "at")) | (refine' at_ext0 (by assumption) ?k; (case k => walk_at "at")) | (refine' at_extN (by assumption) ?k; (case k => walk_at "at"))))
local macro_rules | `(tactic| walk_at "all") => `(tactic| with_reducible (first | exact IsAll.nil | (refine' IsAll.cons ?ha ?hb; (case ha => walk_at "at"); (case hb => walk_at "all"))))
/-! ### _law_draw: some number that is not negative, by the script -/
def sp_draw (K : PySem.W.Frag) : Sp := fun vs H Q _ => ∃ (a : Addr) (ns : List Int) (k : Int), vs = [.ref a, .int k] ∧ SqL K H a (ns.map V.int) ∧ ns.length ≤ 63 ∧ 0 ≤ k ∧ ∀ d : Nat, d < 2147483648 → Q (.int d) H
theorem draw_lt {x m : Int} (h : 0 < m) (hm : m ≤ 2147483648) : ∃ d : Nat, x % m = (d : Int) ∧ d < 2147483648 := by
  have h1 := Int.emod_nonneg x (by omega : m ≠ 0)
  have h2 := Int.emod_lt_of_pos x h
  exact ⟨(x % m).toNat, by omega, by omega⟩
section
variable {P : Program} {w : World} {K : PySem.W.Frag} {mg : Str → Option Value} {base : Heap}
theorem ok_law_draw (T : Txt K mg) : Cal P w K mg base 1 "_law_draw" (sp_draw K) [] := by
  refine T.f_law_draw.cal sc_law_draw bd_law_draw (fun vs H Q E h => ?_) fun f cdv A outer s H vs Q E hr h => ?_
  · obtain ⟨a, ns, k, rfl, _⟩ := h; rfl
  obtain ⟨a, ns, k, rfl, hS, hl, hk, q⟩ := h
  have hlen : (ns.map V.int).length = ns.length := List.length_map _
  refine ⟨_, (pss_cons (ps_if (pt_not (pt_truthK K (pv 0) (by intro _; rfl))) (pss_one (ps_ret (pe_op op_mod (pe_op op_mul (pv 1) pe_int) pe_int))) pss_nil)
      (pss_cons (ps_set (i := 2) sc_law_draw.nd rfl (Or.inl rfl) (pe_callTy call_int1q (by rfl) T.z_int (by decide +kernel) (pa_cons (pe_ix (ix_listK K) (pv 0) (pe_op op_mod (pv 1) (pe_callB (call_lenK K) (by rfl) T.z_len (by decide +kernel) (pa_cons (pv 0) pa_nil))) (fun _ _ => rfl)) pa_nil)))
      (pss_cons (ps_set (i := 3) sc_law_draw.nd rfl (Or.inl rfl) (pe_op op_fdiv (pv 1) (pe_callB (call_lenK K) (by rfl) T.z_len (by decide +kernel) (pa_cons (pv 0) pa_nil))))
      (pss_cons (ps_if (pt_cmpR op_ge (pv 2) pe_int (nomark _)) (pss_cons (ps_for PassesOwn.never rfl (pi_range1 rfl T.z_range (pa_cons (pe_callB (call_min2q rfl) (by rfl) T.z_min (by decide +kernel) (pa_cons (pv 3) (pa_cons pe_int pa_nil))) pa_nil)) (pg_name (i := 4) sc_law_draw.nd rfl (Or.inl rfl))
      (pss_one (ps_set (i := 2) sc_law_draw.nd rfl (Or.inl rfl) (pe_op op_fdiv (pv 2) pe_int))))
      (pss_one (ps_ret (pe_op op_mod (pv 2) pe_int)))) pss_nil)
      (pss_one (ps_ret (pe_op op_mod (pe_op op_mul (pe_op op_mod (pe_op op_add (pe_op op_add (pe_op op_mul (pv 2) pe_int) (pe_op op_mul (pv 1) pe_int)) pe_int) pe_int) pe_int) pe_int))))))), ?_⟩
  walk_at "k"
  walk_at "rd"
  refine ⟨!(ns.map V.int).isEmpty, .inl ⟨_, hS, rfl⟩, ?_⟩
  cases ns with
  | nil =>
    walk_at "rd"
    refine iteNF ?_
    walk_at "rd"
    obtain ⟨d, e, hd⟩ := draw_lt (x := k * 5) (m := 7) (by decide) (by decide)
    rw [e]
    exact q d hd
  | cons n ns =>
    refine iteNT ?_
    walk_at "rd"
    rw [hlen]
    have hL : 0 < (n :: ns).length := Nat.succ_pos _
    have h1 := Int.emod_nonneg k (by omega : (((n :: ns).length : Nat) : Int) ≠ 0)
    have h2 := Int.emod_lt_of_pos k (by omega : (0 : Int) < (((n :: ns).length : Nat) : Int))
    obtain ⟨z, hz, _⟩ := atI_int (ns := n :: ns) h1 h2
    walk_at "rd"
    refine rd_ixL hS hz ?_
    walk_at "rd"
    rw [hlen]
    walk_at "rd"
    refine rd_ite (fun c => ?_) (fun c => ?_)
    · have c' := of_decide_eq_true c
      walk_at "rd"
      refine ⟨_, 60, rfl, ?_⟩
      generalize hm : (if (60 : Int) < k / ((n :: ns).length : Nat) then (60 : Int) else k / ((n :: ns).length : Nat)) = m
      have hm' : m ≤ 60 := by rw [← hm]; split <;> omega
      have hm0 : 0 ≤ m := by
        rw [← hm]
        split
        · omega
        · exact Int.ediv_nonneg hk (by omega)
      refine rd_rng (by omega) (by omega) ?_
      refine q_range (fun i σ H' => ∃ (c : Int) (x : Option V), σ = [some (.ref a), some (.int k), some (.int c), some (.int (k / ((n :: ns).length : Nat))), x] ∧ H' = H ∧ 0 ≤ c) ⟨z, none, rfl, rfl, Int.le_trans (by decide) c'⟩ ?_ ?_
      · rintro i σ H' hi ⟨c, x, rfl, rfl, hc⟩
        walk_at "rd"
        exact ⟨_, _, rfl, rfl, Int.ediv_nonneg hc (by decide)⟩
      · rintro σ H' ⟨c, x, rfl, rfl, hc⟩
        walk_at "rd"
        obtain ⟨d, e, hd⟩ := draw_lt (x := c) (m := 100003) (by decide) (by decide)
        rw [e]
        exact q d hd
    · walk_at "rd"
      obtain ⟨d, e, hd⟩ := draw_lt (x := (z * 48271 + k * 69621 + 13) % 2147483647 * 16807) (m := 2147483629) (by decide) (by decide)
      rw [e]
      exact q d hd
theorem rd_draw {a : Addr} {ns : List Int} {k : Int} {H : Hp} {Q : VK} {E : XK} (hS : SqL K H a (ns.map V.int)) (hl : ns.length ≤ 63) (hk : 0 ≤ k) (q : ∀ d : Nat, d < 2147483648 → Q (.int d) H) : sp_draw K ([.ref a, .int k] ++ []) H Q E := ⟨a, ns, k, rfl, hS, hl, hk, q⟩
end
/-! ### values: numbers and texts -/
abbrev Vl := Sum Int Str
def vv : Vl → V
  | .inl i => .int i
  | .inr x => .str x
def vd : Vl → PyData
  | .inl i => .int i
  | .inr x => .str x
/-- a text of at most n signs -/
def SOk (n : Nat) (x : Str) : Prop := x.length ≤ n ∧ ∀ c ∈ x.cps.toList, c < 1114112
theorem SOk.mono {n m : Nat} {x : Str} (h : SOk n x) (k : n ≤ m) : SOk m x := ⟨Nat.le_trans h.1 k, h.2⟩
theorem SOk.ok {n : Nat} {x : Str} (h : SOk n x) : PyData.strOk x = true := by
  unfold PyData.strOk
  rw [← Array.all_toList]
  exact List.all_eq_true.mpr fun c hc => decide_eq_true (h.2 c hc)
theorem app_cps (x y : Str) : (x ++ y).cps.toList = x.cps.toList ++ y.cps.toList := by
  show (x.cps ++ y.cps).toList = _
  simp
theorem SOk.app {n m : Nat} {x y : Str} (h : SOk n x) (k : SOk m y) : SOk (n + m) (x ++ y) := by
  refine ⟨?_, fun c hc => ?_⟩
  · rw [strLen_append]
    have := h.1
    have := k.1
    omega
  · rw [app_cps, List.mem_append] at hc
    rcases hc with hc | hc
    · exact h.2 c hc
    · exact k.2 c hc
theorem SOk.one {c : Nat} (h : c < 1114112) : SOk 1 ⟨#[c]⟩ := ⟨Nat.le_refl _, fun d hd => by
  have e : d = c := by simpa using hd
  rw [e]; exact h⟩
theorem SOk.cut {n : Nat} {x : Str} (h : SOk n x) (lo hi : Option Int) : SOk n (cutS x lo hi) := ⟨Nat.le_trans (cutS_length x lo hi) h.1, fun c hc => by
  have e : (cutS x lo hi).cps.toList = (x.cps.toList.drop (HT.sIx x.length 0 lo)).take (HT.sIx x.length x.length hi - HT.sIx x.length 0 lo) := rfl
  rw [e] at hc
  exact h.2 c (List.mem_of_mem_drop (List.mem_of_mem_take hc))⟩
theorem glued_cps : ∀ l : List Str, (Txt.join ⟨#[]⟩ l).cps.toList = (l.map fun x => x.cps.toList).flatten
  | [] => by
    show (Builtin.Str.glued ⟨#[]⟩ []).cps.toList = _
    rw [StrLaws.glued_eq_join]; rfl
  | [x] => by
    show (Builtin.Str.glued ⟨#[]⟩ [x]).cps.toList = _
    rw [StrLaws.glued_eq_join]
    show x.cps.toList = _
    simp
  | x :: y :: r => by
    have ih := glued_cps (y :: r)
    have e1 : Txt.join ⟨#[]⟩ (x :: y :: r) = Str.join ⟨#[]⟩ (x :: y :: r) := StrLaws.glued_eq_join _ _
    have e2 : Txt.join ⟨#[]⟩ (y :: r) = Str.join ⟨#[]⟩ (y :: r) := StrLaws.glued_eq_join _ _
    rw [e1, show Str.join ⟨#[]⟩ (x :: y :: r) = x ++ (⟨#[]⟩ : Str) ++ Str.join ⟨#[]⟩ (y :: r) from rfl, ← e2, app_cps, app_cps, ih]
    simp
theorem glued_ones (cs : List Nat) : (Txt.join ⟨#[]⟩ (cs.map fun c => (⟨#[c]⟩ : Str))).cps.toList = cs := by
  rw [glued_cps, List.map_map]
  induction cs with
  | nil => rfl
  | cons c cs ih => rw [List.map_cons, List.flatten_cons, ih]; rfl
theorem SOk.join {cs : List Nat} (h : ∀ c ∈ cs, c < 1114112) : SOk cs.length (Txt.join ⟨#[]⟩ (cs.map fun c => (⟨#[c]⟩ : Str))) := by
  refine ⟨?_, fun c hc => ?_⟩
  · show (Txt.join ⟨#[]⟩ (cs.map fun c => (⟨#[c]⟩ : Str))).cps.size ≤ _
    rw [← Array.length_toList, glued_ones]
    exact Nat.le_refl _
  · rw [glued_ones] at hc
    exact h c hc
def Sm (n : Nat) : Vl → Prop
  | .inl _ => True
  | .inr x => SOk n x
theorem Sm.mono {n m : Nat} {v : Vl} (h : Sm n v) (k : n ≤ m) : Sm m v := by
  cases v with
  | inl i => trivial
  | inr x => exact SOk.mono h k
theorem sh_vd {n m : Nat} {v : Vl} (h : Sm n v) : Sh m (vd v) := by
  cases v with
  | inl i => exact .int i
  | inr x => exact .str (SOk.ok h)
theorem is_vd {M : List Addr} {H : Hp} (v : Vl) : Is M H (vv v) (vd v) := by
  cases v with
  | inl i => exact .int i
  | inr x => exact .str x
theorem Is.vdI {M : List Addr} {H : Hp} {x : V} {v : Vl} (h : Is M H x (vd v)) : x = vv v := by
  cases v with
  | inl i => cases h; rfl
  | inr x => cases h; rfl
theorem IsAll.vdI {M : List Addr} {H : Hp} : ∀ {xs : List V} {vs : List Vl}, IsAll M H xs (vs.map vd) → xs = vs.map vv
  | _, [], h => by cases h; rfl
  | _, v :: vs, h => by
    cases h with
    | cons h r => rw [h.vdI, IsAll.vdI r]; rfl
theorem all_vd {M : List Addr} {H : Hp} : ∀ vs : List Vl, IsAll M H (vs.map vv) (vs.map vd)
  | [] => .nil
  | v :: vs => .cons (is_vd v) (all_vd vs)
/-! ### their order -/
def ci (i j : Int) : Ordering := if i < j then .lt else if j < i then .gt else .eq
def cs (x y : Str) : Ordering := if x.cps.toList < y.cps.toList then .lt else if y.cps.toList < x.cps.toList then .gt else .eq
def cv : Vl → Vl → Ordering
  | .inl i, .inl j => ci i j
  | .inl _, .inr _ => .lt
  | .inr _, .inl _ => .gt
  | .inr x, .inr y => cs x y
def cl : List Vl → List Vl → Ordering
  | [], [] => .eq
  | [], _ :: _ => .lt
  | _ :: _, [] => .gt
  | x :: xs, y :: ys => match cv x y with
    | .eq => cl xs ys
    | .lt => .lt
    | .gt => .gt
def oi : Ordering → Int
  | .lt => -1
  | .eq => 0
  | .gt => 1
theorem str_ext {x y : Str} (h : x.cps.toList = y.cps.toList) : x = y := by
  obtain ⟨⟨a⟩⟩ := x
  obtain ⟨⟨b⟩⟩ := y
  have e : a = b := h
  rw [e]
theorem ci_cm (i j : Int) : Cm (.int i) (.int j) (ci i j) := by
  unfold ci
  by_cases h : i < j
  · rw [if_pos h]; exact .ilt h
  · rw [if_neg h]
    by_cases k : j < i
    · rw [if_pos k]; exact .igt k
    · rw [if_neg k]
      have e : i = j := by omega
      subst e
      exact .ieq
theorem cs_cm (x y : Str) : Cm (.str x) (.str y) (cs x y) := by
  unfold cs
  by_cases h : x.cps.toList < y.cps.toList
  · rw [if_pos h]; exact .slt h
  · rw [if_neg h]
    by_cases k : y.cps.toList < x.cps.toList
    · rw [if_pos k]; exact .sgt k
    · rw [if_neg k]
      have e : x = y := str_ext (List.le_antisymm (List.not_lt.mp k) (List.not_lt.mp h))
      subst e
      exact .seq
def tg : Vl → PyData
  | .inl i => .tuple [.int 0, .int i]
  | .inr x => .tuple [.int 1, .str x]
theorem CmL.two {d e d' e' : PyData} {o : Ordering} (h : Cm d e .eq) (k : Cm d' e' o) : CmL [d, d'] [e, e'] o := by
  cases o with
  | eq => exact .same h (.same k .nn)
  | lt => exact .same h (.diff k (by simp))
  | gt => exact .same h (.diff k (by simp))
theorem tg_cm (x y : Vl) : Cm (tg x) (tg y) (cv x y) := by
  cases x with
  | inl i => cases y with
    | inl j => exact .tup (.two .ieq (ci_cm i j))
    | inr y => exact .tup (.diff (.ilt (by decide)) (fun z => nomatch z))
  | inr x => cases y with
    | inl j => exact .tup (.diff (.igt (by decide)) (fun z => nomatch z))
    | inr y => exact .tup (.two .ieq (cs_cm x y))
theorem CmL.cl {f : Vl → PyData} (hf : ∀ x y, Cm (f x) (f y) (cv x y)) : ∀ xs ys : List Vl, CmL (xs.map f) (ys.map f) (Z.cl xs ys)
  | [], [] => .nn
  | [], _ :: _ => .nc
  | _ :: _, [] => .cn
  | x :: xs, y :: ys => by
    have h := hf x y
    unfold Z.cl
    rw [List.map_cons, List.map_cons]
    cases e : cv x y with
    | eq => rw [e] at h; exact .same h (CmL.cl hf xs ys)
    | lt => rw [e] at h; exact .diff h (by simp)
    | gt => rw [e] at h; exact .diff h (by simp)
theorem row_cm (xs ys : List Vl) : Cm (.tuple (xs.map tg)) (.tuple (ys.map tg)) (cl xs ys) := .tup (CmL.cl tg_cm xs ys)
theorem sh_tg {n m : Nat} {v : Vl} (h : Sm n v) : Sh (m + 1) (tg v) := by
  cases v with
  | inl i =>
    exact Sh.tuple fun d hd => by
      simp only [List.mem_cons, List.not_mem_nil, or_false] at hd
      rcases hd with rfl | rfl
      · exact .int _
      · exact .int _
  | inr x =>
    exact Sh.tuple fun d hd => by
      simp only [List.mem_cons, List.not_mem_nil, or_false] at hd
      rcases hd with rfl | rfl
      · exact .int _
      · exact .str (SOk.ok h)
theorem sh_row {n m : Nat} {vs : List Vl} (h : ∀ v ∈ vs, Sm n v) : Sh (m + 1) (.tuple (vs.map vd)) := Sh.tuple fun d hd => by
  obtain ⟨v, hv, rfl⟩ := List.mem_map.mp hd
  exact sh_vd (h v hv)
theorem sh_rowT {n m : Nat} {vs : List Vl} (h : ∀ v ∈ vs, Sm n v) : Sh (m + 2) (.tuple (vs.map tg)) := Sh.tuple fun d hd => by
  obtain ⟨v, hv, rfl⟩ := List.mem_map.mp hd
  exact sh_tg (h v hv)
/-- the turn that tells them apart -/
theorem cl_eq {xs ys : List Vl} {k : Nat} {x y : Vl} (hx : xs[k]? = some x) (hy : ys[k]? = some y) (h : cv x y = .eq) : cl (xs.drop k) (ys.drop k) = cl (xs.drop (k + 1)) (ys.drop (k + 1)) := by
  obtain ⟨h1, e1⟩ := List.getElem?_eq_some_iff.mp hx
  obtain ⟨h2, e2⟩ := List.getElem?_eq_some_iff.mp hy
  rw [List.drop_eq_getElem_cons h1, List.drop_eq_getElem_cons h2, e1, e2, cl, h]
theorem cl_ne {xs ys : List Vl} {k : Nat} {x y : Vl} (hx : xs[k]? = some x) (hy : ys[k]? = some y) (h : cv x y ≠ .eq) : cl (xs.drop k) (ys.drop k) = cv x y := by
  obtain ⟨h1, e1⟩ := List.getElem?_eq_some_iff.mp hx
  obtain ⟨h2, e2⟩ := List.getElem?_eq_some_iff.mp hy
  rw [List.drop_eq_getElem_cons h1, List.drop_eq_getElem_cons h2, e1, e2, cl]
  cases e : cv x y with
  | eq => exact absurd e h
  | lt => rfl
  | gt => rfl
theorem cl_end {xs ys : List Vl} {k : Nat} (hk : k = min xs.length ys.length) : oi (cl (xs.drop k) (ys.drop k)) = (if xs.length > ys.length then 1 else 0) - (if xs.length < ys.length then 1 else 0) := by
  by_cases h1 : xs.length > ys.length
  · have e1 : k = ys.length := by omega
    rw [e1, List.drop_length, List.drop_eq_getElem_cons h1, if_pos h1, if_neg (by omega)]
    rfl
  · by_cases h2 : xs.length < ys.length
    · have e1 : k = xs.length := by omega
      rw [e1, List.drop_length, List.drop_eq_getElem_cons h2, if_neg h1, if_pos h2]
      rfl
    · have e1 : k = xs.length := by omega
      have e2 : k = ys.length := by omega
      rw [if_neg h1, if_neg h2]
      conv => lhs; rw [e1]
      rw [List.drop_length, ← e1, e2, List.drop_length]
      rfl
theorem cv_swap (x y : Vl) : (cv y x == .lt) = (cv x y == .gt) := by
  have a : ∀ i j : Int, (ci j i == .lt) = (ci i j == .gt) := fun i j => by
    unfold ci
    by_cases h : i < j
    · rw [if_neg (by omega), if_pos h, if_pos h]; rfl
    · by_cases k : j < i
      · rw [if_pos k, if_neg h, if_pos k]; rfl
      · rw [if_neg k, if_neg h, if_neg h, if_neg k]; rfl
  have b : ∀ x y : Str, (cs y x == .lt) = (cs x y == .gt) := fun x y => by
    unfold cs
    by_cases h : x.cps.toList < y.cps.toList
    · rw [if_neg (lt_not h), if_pos h, if_pos h]; rfl
    · by_cases k : y.cps.toList < x.cps.toList
      · rw [if_pos k, if_neg h, if_pos k]; rfl
      · rw [if_neg k, if_neg h, if_neg h, if_neg k]; rfl
  cases x with
  | inl i => cases y with
    | inl j => exact a i j
    | inr y => rfl
  | inr x => cases y with
    | inl j => rfl
    | inr y => exact b x y
/-! ### forms of data -/
mutual
def psz : PyData → Nat
  | .tuple ds => 1 + pszL ds
  | .list ds => 1 + pszL ds
  | _ => 1
def pszL : List PyData → Nat
  | [] => 0
  | d :: ds => psz d + pszL ds
end
mutual
def plD : PyData → Nat → Bool
  | .tuple ds, k => decide (0 < k) && plDL ds (k - 1)
  | .int i, _ => decide (i.natAbs < 10 ^ 60)
  | .bool _, _ => true
  | .str _, _ => true
  | .none, _ => true
  | _, _ => false
def plDL : List PyData → Nat → Bool
  | [], _ => true
  | d :: ds, k => plD d k && plDL ds k
end
inductive Gd : Nat → PyData → Prop
  | non {n : Nat} : Gd n .none
  | bl {n : Nat} (b : Bool) : Gd n (.bool b)
  | int {n : Nat} (i : Int) : Gd n (.int i)
  | str {n : Nat} {x : Str} : SOk 1000 x → Gd n (.str x)
  | tup {n : Nat} {ds : List PyData} : ds.length ≤ 12 → (∀ d ∈ ds, Gd n d) → Gd (n + 1) (.tuple ds)
  | lst {n : Nat} {ds : List PyData} : ds.length ≤ 12 → (∀ d ∈ ds, Gd n d) → Gd (n + 1) (.list ds)
theorem Gd.up {n m : Nat} {d : PyData} (h : Gd n d) : n ≤ m → Gd m d := by
  induction h generalizing m with
  | non => exact fun _ => .non
  | bl b => exact fun _ => .bl b
  | int i => exact fun _ => .int i
  | str h => exact fun _ => .str h
  | tup hl h ih =>
    intro k
    obtain ⟨j, rfl⟩ : ∃ j, m = j + 1 := ⟨m - 1, by omega⟩
    exact .tup hl fun d hd => ih d hd (by omega)
  | lst hl h ih =>
    intro k
    obtain ⟨j, rfl⟩ : ∃ j, m = j + 1 := ⟨m - 1, by omega⟩
    exact .lst hl fun d hd => ih d hd (by omega)
theorem Gd.sh {n : Nat} {d : PyData} (h : Gd n d) : Sh n d := by
  induction h with
  | non => exact .non
  | bl b => exact .bl b
  | int i => exact .int i
  | str h => exact .str h.ok
  | tup hl h ih => exact .tuple ih
  | lst hl h ih => exact .list ih
theorem pszL_le {B : Nat} : ∀ {ds : List PyData}, (∀ d ∈ ds, psz d ≤ B) → pszL ds ≤ ds.length * B
  | [], _ => by simp [pszL]
  | d :: ds, h => by
    have h1 := h d (List.mem_cons_self ..)
    have h2 := pszL_le (ds := ds) fun e he => h e (List.mem_cons_of_mem _ he)
    simp only [pszL, List.length_cons, Nat.succ_mul]
    omega
theorem Gd.sz {n : Nat} {d : PyData} (h : Gd n d) : psz d ≤ 13 ^ n := by
  have one : ∀ n : Nat, 1 ≤ 13 ^ n := fun n => Nat.pos_of_ne_zero (Nat.pow_pos (by decide) |> Nat.pos_iff_ne_zero.mp)
  induction h with
  | non => simp only [psz]; exact one _
  | bl b => simp only [psz]; exact one _
  | int i => simp only [psz]; exact one _
  | str h => simp only [psz]; exact one _
  | @tup n ds hl h ih =>
    have h1 := pszL_le ih
    have h2 : ds.length * 13 ^ n ≤ 12 * 13 ^ n := Nat.mul_le_mul_right _ hl
    have h3 := one n
    simp only [psz, Nat.pow_succ]
    omega
  | @lst n ds hl h ih =>
    have h1 := pszL_le ih
    have h2 : ds.length * 13 ^ n ≤ 12 * 13 ^ n := Nat.mul_le_mul_right _ hl
    have h3 := one n
    simp only [psz, Nat.pow_succ]
    omega
def isCnt (lo hi : Int) : PyData → Bool
  | .int i => decide (lo ≤ i) && decide (i ≤ hi)
  | _ => false
def isRow (lo hi : Int) : PyData → Bool
  | .tuple ds => decide (lo ≤ (ds.length : Int)) && decide ((ds.length : Int) ≤ hi)
  | _ => false
theorem isCnt_int (lo hi i : Int) : isCnt lo hi (.int i) = (decide (lo ≤ i) && decide (i ≤ hi)) := rfl
theorem isRow_tup (lo hi : Int) (ds : List PyData) : isRow lo hi (.tuple ds) = (decide (lo ≤ (ds.length : Int)) && decide ((ds.length : Int) ≤ hi)) := rfl
def badN (c : Nat) : Bool := !(decide (97 ≤ c) && decide (c ≤ 122))
def badV (c : Nat) : Bool := !(decide (32 ≤ c) && decide (c ≤ 126)) || decide (c = 37)
def isNm : PyData → Bool
  | .str x => decide (1 ≤ x.length) && decide (x.length ≤ 12) && (x.cps.toList.filter badN).isEmpty
  | _ => false
def isVal : PyData → Bool
  | .str x => decide (x.length ≤ 40) && (x.cps.toList.filter badV).isEmpty
  | d => isCnt (1 - 10 ^ 30) (10 ^ 30 - 1) d
def lenD : PyData → Nat
  | .tuple ds => ds.length
  | _ => 0
def itemsD : PyData → List PyData
  | .tuple ds => ds
  | _ => []
def badK (d : PyData) : Bool := !([PyData.str "integer", .str "text"].any fun z => PyData.eqv z d)
def isCr (n k c : PyData) : Bool := isNm n && isRow 1 5 k && ((itemsD k).filter badK).isEmpty && isCnt 1 (lenD k) c
def isIn (n r : PyData) : Bool := isNm n && isRow 1 5 r && ((itemsD r).filter fun d => !isVal d).isEmpty
def at' (ds : List PyData) (i : Nat) : PyData := ds.getD i .none
/-- what is a statement, its word and what is behind it -/
def isStW (w : Str) (ds : List PyData) : Bool :=
  if w = "create" then decide (ds.length = 3) && isCr (at' ds 0) (at' ds 1) (at' ds 2)
  else if w = "drop" then decide (ds.length = 1) && isNm (at' ds 0)
  else if w = "insert" then decide (ds.length = 2) && isIn (at' ds 0) (at' ds 1)
  else if w = "replace" then decide (ds.length = 2) && isCnt 0 9 (at' ds 0) && isCnt 1 999 (at' ds 1)
  else false
def isStm : PyData → Bool
  | .tuple (.str w :: ds) => decide (1 ≤ ds.length) && isStW w ds
  | _ => false
/-- what is never asked about words of other statements -/
def safe : PyData → Prop
  | .tuple (.str w :: ds) => (w = "delete" → ds.length = 2 → isNm (at' ds 0) = false) ∧ (w = "update" → ds.length = 3 → isNm (at' ds 0) = false) ∧ (w = "select" → ds.length ≠ 3)
  | _ => True
def sp_count : Sp := fun vs H Q _ => ∃ (M : List Addr) (x : V) (d : PyData) (lo hi : Int), vs = [x, .int lo, .int hi] ∧ Is M H x d ∧ Q (.bl (isCnt lo hi d)) H
def sp_rowof : Sp := fun vs H Q _ => ∃ (M : List Addr) (x : V) (d : PyData) (lo hi : Int), vs = [x, .int lo, .int hi] ∧ Is M H x d ∧ Q (.bl (isRow lo hi d)) H
def sp_is (f : PyData → Bool) : Sp := fun vs H Q _ => ∃ (M : List Addr) (n : Nat) (x : V) (d : PyData), vs = [x] ∧ Al M H ∧ Is M H x d ∧ Gd n d ∧ n ≤ 10 ∧ ∀ H', Ext [] H H' → Q (.bl (f d)) H'
section
variable {P : Program} {w : World} {K : PySem.W.Frag} {mg : Str → Option Value} {base : Heap}
theorem ok_is_count (T : Txt K mg) : Cal P w K mg base 1 "is_count" sp_count [] := by
  refine T.f_is_count.cal sc_is_count bd_is_count (fun vs H Q E h => ?_) fun f cdv A outer s H vs Q E hr h => ?_
  · obtain ⟨M, x, d, lo, hi, rfl, _⟩ := h; rfl
  obtain ⟨M, x, d, lo, hi, rfl, i, q⟩ := h
  refine ⟨_, (pss_one (ps_ret (pe_and (pe_callB (call_isK K) (by rfl) T.z_isinstance (by decide +kernel) (pa_cons (pv 0) (pa_cons (pe_bltn (v := .ty "int") (by rfl) T.z_int (by decide +kernel) rfl) pa_nil))) (pe_and (pe_not (pe_callB (call_isK K) (by rfl) T.z_isinstance (by decide +kernel) (pa_cons (pv 0) (pa_cons (pe_bltn (v := .ty "bool") (by rfl) T.z_bool (by decide +kernel) rfl) pa_nil)))) (pe_one (pe_chain op_le op_le (pv 1) (pv 0) (pv 2))))))), ?_⟩
  walk_at "k"
  cases i with
  | int i =>
    walk_at "rd"
    refine rd_ite (fun c => ?_) (fun c => ?_)
    · walk_at "rd"
      rw [isCnt_int, c, Bool.true_and] at q
      exact q
    · rw [isCnt_int, c, Bool.false_and] at q
      exact q
  | bl b =>
    walk_at "rd"
    exact q
  | non =>
    walk_at "rd"
    exact q
  | str x =>
    walk_at "rd"
    exact q
  | lst na h r =>
    walk_at "rd"
    exact q
  | tup na h r =>
    walk_at "rd"
    exact q
theorem ok_is_row_of (T : Txt K mg) : Cal P w K mg base 1 "is_row_of" sp_rowof [] := by
  refine T.f_is_row_of.cal sc_is_row_of bd_is_row_of (fun vs H Q E h => ?_) fun f cdv A outer s H vs Q E hr h => ?_
  · obtain ⟨M, x, d, lo, hi, rfl, _⟩ := h; rfl
  obtain ⟨M, x, d, lo, hi, rfl, i, q⟩ := h
  refine ⟨_, (pss_one (ps_ret (pe_and (pe_callB (call_isK K) (by rfl) T.z_isinstance (by decide +kernel) (pa_cons (pv 0) (pa_cons (pe_bltn (v := .ty "tuple") (by rfl) T.z_tuple (by decide +kernel) rfl) pa_nil))) (pe_one (pe_chain op_le op_le (pv 1) (pe_callB (call_lenK K) (by rfl) T.z_len (by decide +kernel) (pa_cons (pv 0) pa_nil)) (pv 2)))))), ?_⟩
  walk_at "k"
  cases i with
  | tup na h r =>
    have hz := r.length
    rw [isRow_tup, ← hz] at q
    walk_at "rd"
    refine rd_ite (fun c => ?_) (fun c => ?_)
    · walk_at "rd"
      rw [c, Bool.true_and] at q
      exact q
    · rw [c, Bool.false_and] at q
      exact q
  | bl b =>
    walk_at "rd"
    exact q
  | non =>
    walk_at "rd"
    exact q
  | str x =>
    walk_at "rd"
    exact q
  | lst na h r =>
    walk_at "rd"
    exact q
  | int i =>
    walk_at "rd"
    exact q
/-- an empty list, compared -/
theorem rd_eqE {M : List Addr} {H : Hp} {Q : VK} {x y : V} {ds : List PyData} {n : Nat} (h : Is M H x (.list ds)) (k : Is M H y (.list [])) (s1 : Sh n (.list ds)) (hn : n ≤ 64) (q : Q (.bl ds.isEmpty) H) : rEqD K x y H Q := by
  refine rd_eqD h k (s1.ok hn) (by decide) ?_
  have e : PyData.eqv (.list ds) (.list []) = ds.isEmpty := by
    cases ds with
    | nil => simp [PyData.eqv, PyData.eqvAll]
    | cons d ds => simp [PyData.eqv, PyData.eqvAll]
  rw [e]
  exact q
theorem sh_signs {x : Str} {p : Nat → Bool} {n : Nat} (h : SOk n x) : Sh 1 (.list ((x.cps.toList.filter p).map fun c => .str ⟨#[c]⟩)) := Sh.list fun d hd => by
  obtain ⟨c, hc, rfl⟩ := List.mem_map.mp hd
  exact .str (SOk.one (h.2 c (List.mem_filter.mp hc).1)).ok
theorem emp_map {α β : Type} (f : α → β) (l : List α) : (l.map f).isEmpty = l.isEmpty := by cases l <;> rfl
theorem ok_is_name (T : Txt K mg) : Cal P w K mg base 1 "is_name" (sp_is isNm) [] := by
  refine T.f_is_name.cal sc_is_name bd_is_name (fun vs H Q E h => ?_) fun f cdv A outer s H vs Q E hr h => ?_
  · obtain ⟨M, n, x, d, rfl, _⟩ := h; rfl
  obtain ⟨M, n, x, d, rfl, s0, i, g, hn, q⟩ := h
  refine ⟨_, (pss_cons (ps_if (PW.pt (pw_or (pt_not (pt_val (pe_callB (call_isK K) (by rfl) T.z_isinstance (by decide +kernel) (pa_cons (pv 0) (pa_cons (pe_bltn (v := .ty "str") (by rfl) T.z_str (by decide +kernel) rfl) pa_nil))))) (pw_or1 (pt_not (pt_chain op_le op_le pe_int (pe_callB call_lenSq (by rfl) T.z_len (by decide +kernel) (pa_cons (pv 0) pa_nil)) pe_int))))) (pss_one (ps_ret pe_bl)) pss_nil)
      (pss_one (ps_ret (pe_cmpR (op_eqDK K hr.units) (pe_lc (own := [("sign", 1)]) (g := gName 1) rfl sc_is_name.nd (pi_str (pv 0)) (blkOk_by (own := [("sign", 1)]) (N := nm_is_name) (sc := defScope s_is_name) (by decide +kernel)) (fun _ _ _ _ _ => (pg_name (i := 1) sc_is_name.nd rfl (Or.inl rfl))) (fun _ _ _ _ _ => pts_one (pt_not (pt_chain op_leSt op_leSt pe_str (pv 1) pe_str))) (fun _ _ _ _ _ => (pv 1))) (pe_lst pa_nil) (nomark _))))), ?_⟩
  walk_at "k"
  cases i with
  | str x =>
    have hx : SOk 1000 x := by cases g; assumption
    have hxl := hx.1
    have enm : isNm (.str x) = (decide (1 ≤ x.length) && decide (x.length ≤ 12) && (x.cps.toList.filter badN).isEmpty) := rfl
    walk_at "rd"
    refine rd_lenS (by omega) ?_
    walk_at "rd"
    refine rd_ite (fun c => ?_) (fun c => ?_)
    · have c1 := of_decide_eq_true c
      walk_at "rd"
      refine rd_ite (fun c => ?_) (fun c => ?_)
      · have c2 := not_t c
        rw [enm, decide_eq_false (show ¬ x.length ≤ 12 by omega), Bool.and_false, Bool.false_and] at q
        walk_at "rd"
        exact q _ .refl
      · have c2 := not_f c
        rw [enm, decide_eq_true (show 1 ≤ x.length by omega), decide_eq_true (show x.length ≤ 12 by omega), Bool.true_and, Bool.true_and] at q
        walk_at "rd"
        refine ⟨x, rfl, ?_⟩
        intro D hD
        refine q_lcS (M := M) badN s0 hD (by omega) (fun _ => rfl) (fun c H' hc sD e R k => ?_) (fun c H' R k => ?_) fun H1 e1 i1 => ?_
        · walk_at "rd"
          refine rd_leA ?_
          walk_at "rd"
          refine rd_ite (fun c3 => ?_) (fun c3 => ?_)
          · walk_at "rd"
            refine rd_leZ ?_
            walk_at "rd"
            have e2 : badN c = !decide (c ≤ 122) := by unfold badN; rw [c3, Bool.true_and]
            rw [← e2]
            exact k _ .refl
          · walk_at "rd"
            have e2 : badN c = true := by unfold badN; rw [c3, Bool.false_and]; rfl
            rw [e2] at k
            exact k _ .refl
        · walk_at "rd"
          exact k
        · walk_at "rd"
          refine rd_newL (M := M) (by walk_at "at") (by walk_at "all") (by simp) fun p H2 hp e2 _ i2 => ?_
          walk_at "rd"
          refine rd_eqE (at_is0 e2 i1) i2 (sh_signs hx) (by decide) ?_
          rw [emp_map]
          exact q _ (e1.trans e2)
    · have c1 := of_decide_eq_false c
      rw [enm, decide_eq_false (show ¬ 1 ≤ x.length by omega), Bool.false_and, Bool.false_and] at q
      walk_at "rd"
      exact q _ .refl
  | bl b =>
    walk_at "rd"
    exact q _ .refl
  | non =>
    walk_at "rd"
    exact q _ .refl
  | int x =>
    walk_at "rd"
    exact q _ .refl
  | lst na h r =>
    walk_at "rd"
    exact q _ .refl
  | tup na h r =>
    walk_at "rd"
    exact q _ .refl
theorem ok_is_value (T : Txt K mg) : Cal P w K mg base 2 "is_value" (sp_is isVal) [] := by
  refine T.f_is_value.cal sc_is_value bd_is_value (fun vs H Q E h => ?_) fun f cdv A outer s H vs Q E hr h => ?_
  · obtain ⟨M, n, x, d, rfl, _⟩ := h; rfl
  obtain ⟨M, n, x, d, rfl, s0, i, g, hn, q⟩ := h
  refine ⟨_, (pss_cons (ps_if (pt_val (pe_callB (call_isK K) (by rfl) T.z_isinstance (by decide +kernel) (pa_cons (pv 0) (pa_cons (pe_bltn (v := .ty "str") (by rfl) T.z_str (by decide +kernel) rfl) pa_nil)))) (pss_cons (ps_setLc (i := 1) (own := [("sign", 2)]) (g := gName 2) rfl sc_is_value.nd rfl rfl (sw_true rfl rfl rfl (by decide +kernel)) (pi_str (pv 0)) (blkOk_by (own := [("sign", 2)]) (N := nm_is_value) (sc := defScope s_is_value) (by decide +kernel)) (fun _ _ _ _ _ => (pg_name (i := 2) sc_is_value.nd rfl (Or.inl rfl))) (fun _ _ _ _ _ => pts_one (PW.pt (pw_or (pt_not (pt_chain op_le op_le pe_int (pe_callB call_ordq (by rfl) T.z_ord (by decide +kernel) (pa_cons (pv 2) pa_nil)) pe_int)) (pw_or1 (pt_cmpR op_eq (pe_callB call_ordq (by rfl) T.z_ord (by decide +kernel) (pa_cons (pv 2) pa_nil)) pe_int (nomark _)))))) (fun _ _ _ _ _ => (pv 2)))
      (pss_one (ps_ret (pe_and (pe_cmpR op_le (pe_callB call_lenSq (by rfl) T.z_len (by decide +kernel) (pa_cons (pv 0) pa_nil)) pe_int (nomark _)) (pe_one (pe_cmpR (op_eqDK K hr.units) (pv 1) (pe_lst pa_nil) (nomark _))))))) pss_nil)
      (pss_one (ps_ret (pe_c (ok_is_count T) hr (by decide) rfl (pa_cons (pv 0) (pa_cons (pe_op op_sub pe_int (pe_gc (by rfl) T.g_MOST_VALUE)) (pa_cons (pe_op op_sub (pe_gc (by rfl) T.g_MOST_VALUE) pe_int) pa_nil))))))), ?_⟩
  walk_at "k"
  cases i with
  | str x =>
    have hx : SOk 1000 x := by cases g; assumption
    have hxl := hx.1
    have ev : isVal (.str x) = (decide (x.length ≤ 40) && (x.cps.toList.filter badV).isEmpty) := rfl
    walk_at "rd"
    refine ⟨x, rfl, ?_⟩
    intro D hD
    refine q_lcS (M := M) badV s0 hD (by omega) (fun _ => rfl) (fun c H' hc sD e R k => ?_) (fun c H' R k => ?_) fun H1 e1 i1 => ?_
    · walk_at "rd"
      refine rd_ite (fun c3 => ?_) (fun c3 => ?_)
      · have c3' := of_decide_eq_true c3
        walk_at "rd"
        refine rd_ite (fun c4 => ?_) (fun c4 => ?_)
        · have e2 : badV c = true := by
            unfold badV
            rw [decide_eq_true (show 32 ≤ c by omega), decide_eq_false (show ¬ c ≤ 126 by have := not_t c4; omega)]
            rfl
          rw [e2] at k
          exact k _ .refl
        · walk_at "rd"
          have c4' := not_f c4
          have e2 : badV c = decide ((c : Int) = 37) := by
            unfold badV
            rw [decide_eq_true (show 32 ≤ c by omega), decide_eq_true (show c ≤ 126 by omega)]
            show decide (c = 37) = _
            exact decide_eq_decide.mpr (by omega)
          rw [← e2]
          exact k _ .refl
      · have c3' := of_decide_eq_false c3
        walk_at "rd"
        have e2 : badV c = true := by
          unfold badV
          rw [decide_eq_false (show ¬ 32 ≤ c by omega)]
          rfl
        rw [e2] at k
        exact k _ .refl
    · walk_at "rd"
      exact k
    · walk_at "rd"
      refine rd_lenS (by omega) ?_
      walk_at "rd"
      refine rd_ite (fun c => ?_) (fun c => ?_)
      · have c' := of_decide_eq_true c
        rw [ev, decide_eq_true (show x.length ≤ 40 by omega), Bool.true_and] at q
        walk_at "rd"
        refine rd_newL (M := M) (by walk_at "at") (by walk_at "all") (by simp) fun p H2 hp e2 _ i2 => ?_
        walk_at "rd"
        refine rd_eqE (at_is0 e2 i1) i2 (sh_signs hx) (by decide) ?_
        rw [emp_map]
        exact q _ (e1.trans e2)
      · have c' := of_decide_eq_false c
        rw [ev, decide_eq_false (show ¬ x.length ≤ 40 by omega), Bool.false_and] at q
        exact q _ e1
  | bl b =>
    walk_at "rd"
    exact ⟨M, _, _, _, _, rfl, .bl b, q _ .refl⟩
  | non =>
    walk_at "rd"
    exact ⟨M, _, _, _, _, rfl, .non, q _ .refl⟩
  | int x =>
    walk_at "rd"
    exact ⟨M, _, _, _, _, rfl, .int x, q _ .refl⟩
  | lst na h r =>
    walk_at "rd"
    exact ⟨M, _, _, _, _, rfl, .lst na h r, q _ .refl⟩
  | tup na h r =>
    walk_at "rd"
    exact ⟨M, _, _, _, _, rfl, .tup na h r, q _ .refl⟩
/-- the parts of a tuple by their places -/
theorem rd_atT {M : List Addr} {H : Hp} {Q : VK} {a : Addr} {ds : List PyData} {i : Int} (j : Nat) (h : Is M H (.ref a) (.tuple ds)) (hj : i = (j : Int)) (hl : j < ds.length) (q : ∀ v, Is M H v (at' ds j) → Q v H) : rIxT K (.ref a) (.int i) H Q :=
  rd_dixT h hj (List.getElem?_eq_getElem hl) fun v iv => q v (by unfold at'; rw [List.getD_eq_getElem?_getD, List.getElem?_eq_getElem hl]; exact iv)
theorem gd_at {n : Nat} {ds : List PyData} (g : Gd (n + 1) (.tuple ds)) (j : Nat) : Gd n (at' ds j) := by
  cases g with
  | tup hl h =>
    unfold at'
    rw [List.getD_eq_getElem?_getD]
    cases e : ds[j]? with
    | none => exact .non
    | some d => exact h d (List.mem_of_getElem? e)
theorem gd_items {n : Nat} {d : PyData} (g : Gd n d) : ∀ e ∈ itemsD d, Gd n e ∧ (itemsD d).length ≤ 12 := by
  cases g with
  | tup hl h => exact fun e he => ⟨(h e he).up (Nat.le_succ _), hl⟩
  | _ => exact fun e he => nomatch he
def sp_tp (f : List PyData → Bool) : Sp := fun vs H Q _ => ∃ (M : List Addr) (n : Nat) (a : Addr) (w : PyData) (ds : List PyData), vs = [.ref a] ∧ Al M H ∧ Is M H (.ref a) (.tuple (w :: ds)) ∧ Gd (n + 1) (.tuple (w :: ds)) ∧ n ≤ 9 ∧ 1 ≤ ds.length ∧ ∀ H', Ext [] H H' → Q (.bl (f ds)) H'
theorem at_s (w : PyData) (ds : List PyData) (j : Nat) : at' (w :: ds) (j + 1) = at' ds j := rfl
theorem sh_filt {n : Nat} {ds : List PyData} {p : PyData → Bool} (h : ∀ d ∈ ds, Gd n d) : Sh (n + 1) (.list (ds.filter p)) := Sh.list fun d hd => (h d (List.mem_filter.mp hd).1).sh
theorem sh_kinds : Sh 1 (.tuple [.str "integer", .str "text"]) := Sh.tuple fun d hd => by
  simp only [List.mem_cons, List.not_mem_nil, or_false] at hd
  rcases hd with rfl | rfl
  · exact .str (show SOk 1000 ("integer" : Str) from ⟨by decide, by decide⟩).ok
  · exact .str (show SOk 1000 ("text" : Str) from ⟨by decide, by decide⟩).ok
theorem ok_is_create (T : Txt K mg) : Cal P w K mg base 2 "is_create" (sp_tp fun ds => decide (ds.length = 3) && isCr (at' ds 0) (at' ds 1) (at' ds 2)) [] := by
  refine T.f_is_create.cal sc_is_create bd_is_create (fun vs H Q E h => ?_) fun f cdv A outer s H vs Q E hr h => ?_
  · obtain ⟨M, n, a, w, ds, rfl, _⟩ := h; rfl
  obtain ⟨M, n, a, w, ds, rfl, s0, i, g, hn, hl, q⟩ := h
  have q : ∀ H', Ext [] H H' → Q (.bl (decide (ds.length = 3) && isCr (at' ds 0) (at' ds 1) (at' ds 2))) H' := q
  refine ⟨_, (pss_cons (ps_if (PW.pt (pw_or (pt_cmpR op_ne (pe_callB (call_lenK K) (by rfl) T.z_len (by decide +kernel) (pa_cons (pv 0) pa_nil)) pe_int (nomark _)) (pw_or (pt_not (pt_val (pe_c (ok_is_name T) hr (by decide) rfl (pa_cons (pe_ix (ix_tupK K) (pv 0) pe_int (fun _ _ => rfl)) pa_nil)))) (pw_or1 (pt_not (pt_val (pe_c (ok_is_row_of T) hr (by decide) rfl (pa_cons (pe_ix (ix_tupK K) (pv 0) pe_int (fun _ _ => rfl)) (pa_cons pe_int (pa_cons pe_int pa_nil)))))))))) (pss_one (ps_ret pe_bl)) pss_nil)
      (pss_cons (ps_setLc (i := 1) (own := [("kind", 2)]) (g := gName 2) rfl sc_is_create.nd rfl rfl (sw_true rfl rfl rfl (by decide +kernel)) (pi_tupK K (pe_ix (ix_tupK K) (pv 0) pe_int (fun _ _ => rfl))) (blkOk_by (own := [("kind", 2)]) (N := nm_is_create) (sc := defScope s_is_create) (by decide +kernel)) (fun _ _ _ _ _ => (pg_name (i := 2) sc_is_create.nd rfl (Or.inl rfl))) (fun _ _ _ _ _ => pts_one (pt_cmpR (op_notInDT (u70 hr) K) (pv 2) (pe_tup (pa_cons pe_str (pa_cons pe_str pa_nil))) rfl)) (fun _ _ _ _ _ => (pv 2)))
      (pss_one (ps_ret (pe_and (pe_cmpR (op_eqDK K hr.units) (pv 1) (pe_lst pa_nil) (nomark _)) (pe_one (pe_c (ok_is_count T) hr (by decide) rfl (pa_cons (pe_ix (ix_tupK K) (pv 0) pe_int (fun _ _ => rfl)) (pa_cons pe_int (pa_cons (pe_callB (call_lenK K) (by rfl) T.z_len (by decide +kernel) (pa_cons (pe_ix (ix_tupK K) (pv 0) pe_int (fun _ _ => rfl)) pa_nil)) pa_nil)))))))))), ?_⟩
  walk_at "k"
  obtain ⟨us, na, ha, ra⟩ := i.tuple
  have hz := ra.length
  rw [List.length_cons] at hz
  have hd12 : (w :: ds).length ≤ 12 := by cases g; assumption
  walk_at "rd"
  refine rd_ite (fun c => ?_) (fun c => ?_)
  · have c' := not_t c
    walk_at "rd"
    rw [decide_eq_false (show ¬ ds.length = 3 by omega), Bool.false_and] at q
    exact q _ .refl
  have c' := not_f c
  have hl3 : ds.length = 3 := by omega
  rw [decide_eq_true hl3, Bool.true_and] at q
  walk_at "rd"
  refine rd_atT 1 i rfl (by rw [List.length_cons]; omega) fun v1 i1 => ?_
  rw [at_s] at i1
  have g1 := gd_at g 1
  rw [at_s] at g1
  walk_at "rd"
  refine ⟨M, n, v1, _, rfl, s0, i1, g1, by omega, fun H1 e1 => ?_⟩
  have ecr : isCr (at' ds 0) (at' ds 1) (at' ds 2) = (isNm (at' ds 0) && isRow 1 5 (at' ds 1) && ((itemsD (at' ds 1)).filter badK).isEmpty && isCnt 1 (lenD (at' ds 1)) (at' ds 2)) := rfl
  rw [ecr] at q
  cases hnm : isNm (at' ds 0) with
  | false =>
    rw [hnm] at q
    walk_at "rd"
    exact q _ e1
  | true =>
    rw [hnm, Bool.true_and] at q
    walk_at "rd"
    have iH1 : Is M H1 (.ref a) (.tuple (w :: ds)) := by walk_at "at"
    refine rd_atT 2 iH1 rfl (by rw [List.length_cons]; omega) fun v2 i2 => ?_
    rw [at_s] at i2
    have g2 := gd_at g 2
    rw [at_s] at g2
    walk_at "rd"
    refine ⟨M, v2, _, 1, 5, rfl, i2, ?_⟩
    cases hrw : isRow 1 5 (at' ds 1) with
    | false =>
      rw [hrw] at q
      walk_at "rd"
      exact q _ e1
    | true =>
      rw [hrw, Bool.true_and] at q
      obtain ⟨ks, eks⟩ : ∃ ks, at' ds 1 = .tuple ks := by
        cases e : at' ds 1 with
        | tuple ks => exact ⟨ks, rfl⟩
        | _ => rw [e] at hrw; cases hrw
      rw [eks] at i2 g2 q
      obtain ⟨pk, zs, rfl, _⟩ := i2.tupleV
      walk_at "rd"
      refine rd_atT 2 iH1 rfl (by rw [List.length_cons]; omega) fun v3 i3 => ?_
      rw [at_s, eks] at i3
      obtain ⟨pk2, zs2, rfl, _⟩ := i3.tupleV
      walk_at "rd"
      intro D hD
      have hit := gd_items g2
      have hit' : ∀ e ∈ ks, Gd n e ∧ ks.length ≤ 12 := hit
      have hk12 : ks.length ≤ 12 := by cases g2; assumption
      refine q_lcFT (M := M) badK (by walk_at "at") hD i3 (by omega) (fun _ => rfl) (fun x d H' hd sD e ix R k => ?_) (fun x H' R k => ?_) fun H2 e2 j2 => ?_
      · walk_at "rd"
        refine rd_newT (M := D :: M) sD (by walk_at "all") (by simp) fun pt H3 hpt e3 _ i4 => ?_
        refine rd_notInDT (at_is0 e3 ix) i4.dp ((hit' d hd).1.sh.ok (by omega)) sh_kinds.ok ?_
        have eb : (!([PyData.str "integer", .str "text"].any fun z => PyData.eqv z d)) = badK d := rfl
        rw [eb]
        walk_at "rd"
        exact k _ e3
      · walk_at "rd"
        exact k
      · walk_at "rd"
        refine rd_newL (M := M) (by walk_at "at") (by walk_at "all") (by simp) fun p H3 hp e3 _ i4 => ?_
        walk_at "rd"
        refine rd_eqE (n := n + 1) (at_is0 e3 j2) i4 (sh_filt fun d hd => (hit' d hd).1) (by omega) ?_
        cases hem : (ks.filter badK).isEmpty with
        | false =>
          rw [show (itemsD (.tuple ks)).filter badK = ks.filter badK from rfl, hem] at q
          walk_at "rd"
          exact q _ (e1.trans (e2.trans e3))
        | true =>
          rw [show (itemsD (.tuple ks)).filter badK = ks.filter badK from rfl, hem, Bool.true_and] at q
          walk_at "rd"
          have iH3 : Is M H3 (.ref a) (.tuple (w :: ds)) := by walk_at "at"
          refine rd_atT 3 iH3 rfl (by rw [List.length_cons]; omega) fun v5 i5 => ?_
          rw [at_s] at i5
          walk_at "rd"
          refine rd_atT 2 iH3 rfl (by rw [List.length_cons]; omega) fun v6 i6 => ?_
          rw [at_s, eks] at i6
          obtain ⟨pk6, zs6, rfl, _⟩ := i6.tupleV
          walk_at "rd"
          exact ⟨M, v5, _, 1, _, rfl, i5, q _ (e1.trans (e2.trans e3))⟩
theorem ok_is_insert (T : Txt K mg) : Cal P w K mg base 3 "is_insert" (sp_tp fun ds => decide (ds.length = 2) && isIn (at' ds 0) (at' ds 1)) [] := by
  refine T.f_is_insert.cal sc_is_insert bd_is_insert (fun vs H Q E h => ?_) fun f cdv A outer s H vs Q E hr h => ?_
  · obtain ⟨M, n, a, w, ds, rfl, _⟩ := h; rfl
  obtain ⟨M, n, a, w, ds, rfl, s0, i, g, hn, hl, q⟩ := h
  have q : ∀ H', Ext [] H H' → Q (.bl (decide (ds.length = 2) && isIn (at' ds 0) (at' ds 1))) H' := q
  refine ⟨_, (pss_cons (ps_if (PW.pt (pw_or (pt_cmpR op_ne (pe_callB (call_lenK K) (by rfl) T.z_len (by decide +kernel) (pa_cons (pv 0) pa_nil)) pe_int (nomark _)) (pw_or (pt_not (pt_val (pe_c (ok_is_name T) hr (by decide) rfl (pa_cons (pe_ix (ix_tupK K) (pv 0) pe_int (fun _ _ => rfl)) pa_nil)))) (pw_or1 (pt_not (pt_val (pe_c (ok_is_row_of T) hr (by decide) rfl (pa_cons (pe_ix (ix_tupK K) (pv 0) pe_int (fun _ _ => rfl)) (pa_cons pe_int (pa_cons pe_int pa_nil)))))))))) (pss_one (ps_ret pe_bl)) pss_nil)
      (pss_one (ps_ret (pe_cmpR (op_eqDK K hr.units) (pe_lc (own := [("part", 1)]) (g := gName 1) rfl sc_is_insert.nd (pi_tupK K (pe_ix (ix_tupK K) (pv 0) pe_int (fun _ _ => rfl))) (blkOk_by (own := [("part", 1)]) (N := nm_is_insert) (sc := defScope s_is_insert) (by decide +kernel)) (fun _ _ _ _ _ => (pg_name (i := 1) sc_is_insert.nd rfl (Or.inl rfl))) (fun _ _ _ _ _ => pts_one (pt_not (pt_val (pe_c (ok_is_value T) hr (by decide) rfl (pa_cons (pv 1) pa_nil))))) (fun _ _ _ _ _ => (pv 1))) (pe_lst pa_nil) (nomark _))))), ?_⟩
  walk_at "k"
  obtain ⟨us, na, ha, ra⟩ := i.tuple
  have hz := ra.length
  rw [List.length_cons] at hz
  have hd12 : (w :: ds).length ≤ 12 := by cases g; assumption
  walk_at "rd"
  refine rd_ite (fun c => ?_) (fun c => ?_)
  · have c' := not_t c
    walk_at "rd"
    rw [decide_eq_false (show ¬ ds.length = 2 by omega), Bool.false_and] at q
    exact q _ .refl
  have c' := not_f c
  have hl3 : ds.length = 2 := by omega
  rw [decide_eq_true hl3, Bool.true_and] at q
  walk_at "rd"
  refine rd_atT 1 i rfl (by rw [List.length_cons]; omega) fun v1 i1 => ?_
  rw [at_s] at i1
  have g1 := gd_at g 1
  rw [at_s] at g1
  walk_at "rd"
  refine ⟨M, n, v1, _, rfl, s0, i1, g1, by omega, fun H1 e1 => ?_⟩
  have ecr : isIn (at' ds 0) (at' ds 1) = (isNm (at' ds 0) && isRow 1 5 (at' ds 1) && ((itemsD (at' ds 1)).filter fun d => !isVal d).isEmpty) := rfl
  rw [ecr] at q
  cases hnm : isNm (at' ds 0) with
  | false =>
    rw [hnm] at q
    walk_at "rd"
    exact q _ e1
  | true =>
    rw [hnm, Bool.true_and] at q
    walk_at "rd"
    have iH1 : Is M H1 (.ref a) (.tuple (w :: ds)) := by walk_at "at"
    refine rd_atT 2 iH1 rfl (by rw [List.length_cons]; omega) fun v2 i2 => ?_
    rw [at_s] at i2
    have g2 := gd_at g 2
    rw [at_s] at g2
    walk_at "rd"
    refine ⟨M, v2, _, 1, 5, rfl, i2, ?_⟩
    cases hrw : isRow 1 5 (at' ds 1) with
    | false =>
      rw [hrw] at q
      walk_at "rd"
      exact q _ e1
    | true =>
      rw [hrw, Bool.true_and] at q
      obtain ⟨ks, eks⟩ : ∃ ks, at' ds 1 = .tuple ks := by
        cases e : at' ds 1 with
        | tuple ks => exact ⟨ks, rfl⟩
        | _ => rw [e] at hrw; cases hrw
      rw [eks] at i2 g2 q
      obtain ⟨pk, zs, rfl, _⟩ := i2.tupleV
      walk_at "rd"
      refine rd_atT 2 iH1 rfl (by rw [List.length_cons]; omega) fun v3 i3 => ?_
      rw [at_s, eks] at i3
      obtain ⟨pk2, zs2, rfl, _⟩ := i3.tupleV
      walk_at "rd"
      intro D hD
      have hit := gd_items g2
      have hit' : ∀ e ∈ ks, Gd n e ∧ ks.length ≤ 12 := hit
      have hk12 : ks.length ≤ 12 := by cases g2; assumption
      refine q_lcFT (M := M) (fun d => !isVal d) (by walk_at "at") hD i3 (by omega) (fun _ => rfl) (fun x d H' hd sD e ix R k => ?_) (fun x H' R k => ?_) fun H2 e2 j2 => ?_
      · walk_at "rd"
        exact ⟨D :: M, n, x, d, rfl, sD, ix, (hit' d hd).1, by omega, fun H3 e3 => by
          walk_at "rd"
          exact k _ e3⟩
      · walk_at "rd"
        exact k
      · walk_at "rd"
        refine rd_newL (M := M) (by walk_at "at") (by walk_at "all") (by simp) fun p H3 hp e3 _ i4 => ?_
        walk_at "rd"
        refine rd_eqE (n := n + 1) (at_is0 e3 j2) i4 (sh_filt fun d hd => (hit' d hd).1) (by omega) ?_
        exact q _ (e1.trans (e2.trans e3))
end
/-! ### plain values -/
theorem pszL_pos : ∀ d : PyData, 1 ≤ psz d := fun d => by cases d <;> simp only [psz] <;> omega
theorem pszL_app : ∀ ds es : List PyData, pszL (ds ++ es) = pszL ds + pszL es
  | [], es => by simp [pszL]
  | d :: ds, es => by
    have := pszL_app ds es
    simp only [List.cons_append, pszL, this]
    omega
theorem len_psz : ∀ ds : List PyData, ds.length ≤ pszL ds
  | [] => by simp [pszL]
  | d :: ds => by
    have h1 := len_psz ds
    have h2 := pszL_pos d
    simp only [pszL, List.length_cons]
    omega
abbrev td (t : PyData × Nat) : PyData := .tuple [t.1, .int (t.2 : Int)]
def tsz (ts : List (PyData × Nat)) : Nat := pszL (ts.map (·.1))
def allPl (ts : List (PyData × Nat)) : Prop := ∀ t ∈ ts, plD t.1 (30 - t.2) = true
theorem plDL_all : ∀ {ds : List PyData} {k : Nat}, plDL ds k = true → ∀ d ∈ ds, plD d k = true
  | [], _, _, d, hd => nomatch hd
  | e :: ds, k, h, d, hd => by
    simp only [plDL, Bool.and_eq_true] at h
    rcases List.mem_cons.mp hd with rfl | hd
    · exact h.1
    · exact plDL_all h.2 d hd
def sp_plain : Sp := fun vs H Q _ => ∃ (M : List Addr) (n : Nat) (x : V) (d : PyData), vs = [x] ∧ Al M H ∧ Is M H x d ∧ Gd n d ∧ n ≤ 4 ∧ ∀ (b : Bool) H', Ext [] H H' → (plD d 30 = true → b = true) → Q (.bl b) H'
def sp_within : Sp := fun vs H Q _ => ∃ (M : List Addr) (n : Nat) (x : V) (d : PyData), vs = [x, .int 30] ∧ Al M H ∧ Is M H x d ∧ Gd n d ∧ n ≤ 4 ∧ ∀ (b : Bool) H', Ext [] H H' → (plD d 30 = true → b = true) → Q (.bl b) H'
theorem IsAll.dropLast {M : List Addr} {H : Hp} {xs : List V} {ds : List PyData} (h : IsAll M H xs ds) : IsAll M H xs.dropLast ds.dropLast := by
  rw [List.dropLast_eq_take, List.dropLast_eq_take, h.length]
  exact h.take _
section
variable {P : Program} {w : World} {K : PySem.W.Frag} {mg : Str → Option Value} {base : Heap}
theorem ok_is_within (T : Txt K mg) : Cal P w K mg base 1 "is_within" sp_within [] := by
  refine T.f_is_within.cal sc_is_within bd_is_within (fun vs H Q E h => ?_) fun f cdv A outer s H vs Q E hr h => ?_
  · obtain ⟨M, n, x, d, rfl, _⟩ := h; rfl
  obtain ⟨M, n, x, d0, rfl, s0, i, g, hn, q⟩ := h
  refine ⟨_, (pss_cons (ps_set (i := 2) sc_is_within.nd rfl (Or.inl rfl) (pe_lst (pa_cons (pe_tup (pa_cons (pv 0) (pa_cons pe_int pa_nil))) pa_nil)))
      (pss_cons (ps_while PassesOwn.never (pt_truthK K (pv 2) (by intro _; rfl)) (pss_cons (ps_asg (pe_bm0 PySem.F.plainAttrs_list PySem.F.slot_list_pop PySem.F.type_list_pop mt_pop (pv 2)) (pg_tupK K rfl (pgs_cons (pg_name (i := 3) sc_is_within.nd rfl (Or.inl rfl)) (pgs_cons (pg_name (i := 4) sc_is_within.nd rfl (Or.inr rfl)) pgs_nil))))
      (pss_one (ps_if (pt_val (pe_callB (call_isK K) (by rfl) T.z_isinstance (by decide +kernel) (pa_cons (pv 3) (pa_cons (pe_bltn (v := .ty "tuple") (by rfl) T.z_tuple (by decide +kernel) rfl) pa_nil)))) (pss_cons (ps_if (pt_cmpR op_ge (pv 4) (pv 1) (nomark _)) (pss_one (ps_ret pe_bl)) pss_nil)
      (pss_one (ps_expr (pe_bm PySem.F.plainAttrs_list PySem.F.slot_list_extend PySem.F.type_list_extend mt_extend (pv 2) (pa_cons (pe_lc (own := [("each", 5)]) (g := gName 5) (tt := tYes) rfl sc_is_within.nd (pi_tupK K (pv 3)) (blkOk_by (own := [("each", 5)]) (N := nm_is_within) (sc := defScope s_is_within) (by decide +kernel)) (fun _ _ _ _ _ => (pg_name (i := 5) sc_is_within.nd rfl (Or.inl rfl))) (fun _ _ _ _ _ => pts_nil) (fun _ _ _ _ _ => (pe_tup (pa_cons (pv 5) (pa_cons (pe_op op_add (pv 4) pe_int) pa_nil))))) pa_nil))))) (pss_one (ps_if (pt_val (pe_callB (call_isK K) (by rfl) T.z_isinstance (by decide +kernel) (pa_cons (pv 3) (pa_cons (pe_bltn (v := .ty "int") (by rfl) T.z_int (by decide +kernel) rfl) pa_nil)))) (pss_one (ps_if (pt_cmpR op_ge (pe_callB call_absq (by rfl) T.z_abs (by decide +kernel) (pa_cons (pv 3) pa_nil)) (pe_gc (by rfl) T.g_MOST_INTEGER) (nomark _)) (pss_one (ps_ret pe_bl)) pss_nil)) (pss_one (ps_if (PW.pt (pw_and (pt_cmpR op_notNq (pv 3) pe_non (nomark _)) (pw_and1 (pt_not (pt_val (pe_callB (call_isK K) (by rfl) T.z_isinstance (by decide +kernel) (pa_cons (pv 3) (pa_cons (pe_bltn (v := .ty "str") (by rfl) T.z_str (by decide +kernel) rfl) pa_nil)))))))) (pss_one (ps_ret pe_bl)) pss_nil))))))))
      (pss_one (ps_ret pe_bl)))), ?_⟩
  walk_at "k"
  have hsz : psz d0 ≤ 28561 := Nat.le_trans g.sz (Nat.le_trans (Nat.pow_le_pow_right (by decide) hn) (by decide))
  walk_at "rd"
  refine rd_newT (M := M) s0 (by walk_at "all") (by simp) fun p1 H1 hp1 e1 _ i1 => ?_
  walk_at "rd"
  refine ⟨szl (by simp), fun D hD => ?_⟩
  walk_at "rd"
  have a1 : Al M H1 := s0.ext e1
  have i1' : Is (D :: M) (upd H1 D (.lst [.ref p1])) (.ref p1) (td (d0, 0)) := i1.beside hD
  refine ⟨fun m σ H' => ∃ (u3 u4 u5 : Option V) (ts : List (PyData × Nat)) (xs : List V), σ = [some x, some (.int 30), some (.ref D), u3, u4, u5] ∧ H' D = some (.lst xs) ∧ IsAll (D :: M) H' xs (ts.map td) ∧ (plD d0 30 = true → allPl ts) ∧ tsz ts ≤ 28561 ∧ m = tsz ts ∧ Ext [] H1 H', ⟨_, none, none, none, [(d0, 0)], [.ref p1], rfl, upd_same, .one i1', fun h t ht => by rw [List.mem_singleton.mp ht]; exact h, by show psz d0 + 0 ≤ 28561; omega, rfl, .new hD⟩, ?_⟩
  rintro m σ H2 ⟨u3, u4, u5, ts, xs, rfl, hx, rx, hpl, htz, rfl, e2⟩
  have nD : D ∉ M := a1.fresh hD
  have aD : Al (D :: M) H2 := .cons (some_ne hx) (a1.ext e2)
  walk_at "rd"
  rcases List.eq_nil_or_concat ts with rfl | ⟨ts', t, ets⟩
  · cases rx
    refine ⟨false, .inl ⟨_, SqL.of hx, rfl⟩, ?_⟩
    refine iteF ?_
    walk_at "rd"
    exact q true _ (e1.trans e2) fun _ => rfl
  rw [List.concat_eq_append] at ets
  subst ets
  rw [List.map_append] at rx
  obtain ⟨xs', v, rfl, rx', iv⟩ := rx.snocI
  refine ⟨true, .inl ⟨_, SqL.of hx, by simp⟩, ?_⟩
  refine iteT ⟨_, fun σ' H' h => h, ?_⟩
  walk_at "rd"
  refine ⟨.inl ⟨rfl, _, SqL.of hx⟩, D, xs' ++ [v], v, rfl, rfl, hx, by simp, ?_⟩
  rw [List.dropLast_concat]
  have set3 : Ext (D :: M) H2 (upd H2 D (.lst xs')) := .set (List.mem_cons_self ..)
  have e3 : Ext [] H1 (upd H2 D (.lst xs')) := e2.mut hD
  have hx3 : (upd H2 D (.lst xs')) D = some (.lst xs') := upd_same
  have rx3 := rx'.mono set3
  have iv3 := iv.mono set3
  have aD3 := aD.ext set3
  generalize upd H2 D (.lst xs') = H3 at e3 hx3 rx3 iv3 aD3 ⊢
  obtain ⟨pv, us, rfl, nv, hv, rv⟩ := iv3.tupleV
  cases rv with
  | @cons vp vr _ _ ip rv =>
  cases rv with
  | cons ik rv =>
  cases rv
  cases ik
  have hts : tsz (ts' ++ [t]) = tsz ts' + psz t.1 := by
    unfold tsz
    rw [List.map_append, pszL_app]
    simp [pszL]
  have hpl' : plD d0 30 = true → allPl ts' := fun h z hz => hpl h z (List.mem_append_left _ hz)
  have hplt : plD d0 30 = true → plD t.1 (30 - t.2) = true := fun h => hpl h t (by simp)
  have hpos := pszL_pos t.1
  obtain ⟨dt, kt⟩ := t
  simp only at ip hv hts hplt hpos
  walk_at "rd"
  have go : ∀ {H' : Hp} (u : Option V), Ext [] H1 H' → H' D = some (.lst xs') → IsAll (D :: M) H' xs' (ts'.map td) → ∃ m', m' < tsz (ts' ++ [(dt, kt)]) ∧ ∃ (u3 u4 u5 : Option V) (ts : List (PyData × Nat)) (xs : List V), [some x, some (.int 30), some (.ref D), some vp, some (.int (kt : Int)), u] = [some x, some (.int 30), some (.ref D), u3, u4, u5] ∧ H' D = some (.lst xs) ∧ IsAll (D :: M) H' xs (ts.map td) ∧ (plD d0 30 = true → allPl ts) ∧ tsz ts ≤ 28561 ∧ m' = tsz ts ∧ Ext [] H1 H' :=
    fun {H'} u e h r => ⟨tsz ts', by omega, _, _, _, ts', xs', rfl, h, r, hpl', by omega, rfl, e⟩
  cases ip with
  | non =>
    walk_at "rd"
    exact go _ e3 hx3 rx3
  | str z =>
    walk_at "rd"
    exact go _ e3 hx3 rx3
  | bl b =>
    walk_at "rd"
    refine iteDn (by cases b <;> decide) ?_
    walk_at "rd"
    exact go _ e3 hx3 rx3
  | int z =>
    walk_at "rd"
    refine rd_ite (fun c => ?_) (fun c => ?_)
    · have c' := of_decide_eq_true c
      walk_at "rd"
      refine q false _ (e1.trans e3) fun hp => ?_
      have zz := hplt hp
      simp only [plD, decide_eq_true_eq] at zz
      exfalso
      have e10 : (10 : Nat) ^ 60 = 1000000000000000000000000000000000000000000000000000000000000 := by decide
      rw [e10] at zz
      split at c' <;> omega
    · walk_at "rd"
      exact go _ e3 hx3 rx3
  | lst na h r =>
    walk_at "rd"
    exact q false _ (e1.trans e3) fun hp => by
      have z := hplt hp
      simp only [plD] at z
      cases z
  | @tup a vs ds na h r =>
    walk_at "rd"
    refine rd_ite (fun c => ?_) (fun c => ?_)
    · have c' := of_decide_eq_true c
      walk_at "rd"
      refine q false _ (e1.trans e3) fun hp => ?_
      have zz := hplt hp
      simp only [plD, Bool.and_eq_true, decide_eq_true_eq] at zz
      omega
    have c' := of_decide_eq_false c
    have hds : psz (.tuple ds) = 1 + pszL ds := by simp only [psz]
    rw [hds] at hts hpos
    have hdl := len_psz ds
    walk_at "rd"
    refine ⟨.inl ⟨rfl, _, SqL.of hx3⟩, ?_⟩
    walk_at "rd"
    refine rd_itt ⟨_, SqT.of h⟩ ?_
    intro D2 hD2
    have ip3 : Is (D :: M) H3 (.ref a) (.tuple (ds.map id)) := by rw [List.map_id]; exact .tup na h r
    refine q_lcTM (M := D :: M) (fun d => td (d, kt + 1)) aD3 hD2 ip3 (by omega) (fun _ => rfl) (fun x y H' hy sD e ix R k => ?_) fun H4 e4 i4 => ?_
    · walk_at "rd"
      have ek : (kt : Int) + 1 = ((kt + 1 : Nat) : Int) := by omega
      rw [ek]
      refine rd_newT (M := D2 :: D :: M) sD (by walk_at "all") (by simp) fun p H'' hp e2 _ i2 => ?_
      exact k _ _ e2 i2
    · obtain ⟨zs, _, hz, rz⟩ := i4.list
      have hx4 := e4.keep _ _ (by simp) hx3
      have l1 := rx3.length
      have l2 := rz.length
      rw [List.length_map] at l1 l2
      have l3 := len_psz (ts'.map (·.1))
      rw [List.length_map] at l3
      have l4 : tsz ts' = pszL (ts'.map (·.1)) := rfl
      walk_at "rd"
      refine ⟨D, D2, xs', zs, rfl, rfl, hx4, hz, szL (by omega), ?_⟩
      have rx4 := rx3.mono (e4.any : Ext (D :: M) H3 H4)
      have rall : IsAll (D :: M) H4 (xs' ++ zs) ((ts' ++ ds.map fun d => (d, kt + 1)).map td) := by
        rw [List.map_append, List.map_map]
        exact rx4.append rz
      have hnew : tsz (ts' ++ ds.map fun d => (d, kt + 1)) = tsz ts' + pszL ds := by
        unfold tsz
        rw [List.map_append, pszL_app, List.map_map]
        have : (ds.map ((fun x : PyData × Nat => x.1) ∘ fun d => (d, kt + 1))) = ds := by
          rw [show ((fun x : PyData × Nat => x.1) ∘ fun d : PyData => (d, kt + 1)) = id from rfl, List.map_id]
        rw [this]
      refine ⟨tsz (ts' ++ ds.map fun d => (d, kt + 1)), by omega, _, _, _, _, xs' ++ zs, rfl, upd_same, rall.mono (.set (List.mem_cons_self ..)), fun hp z hz => ?_, by omega, rfl, (e3.trans e4).mut hD⟩
      rcases List.mem_append.mp hz with hz | hz
      · exact hpl' hp z hz
      · obtain ⟨d, hd, rfl⟩ := List.mem_map.mp hz
        have zz := hplt hp
        simp only [plD, Bool.and_eq_true, decide_eq_true_eq] at zz
        have w := plDL_all zz.2 d hd
        have ek : 30 - kt - 1 = 30 - (kt + 1) := by omega
        rw [ek] at w
        exact w
theorem ok_is_plain (T : Txt K mg) : Cal P w K mg base 2 "is_plain" sp_plain [] := by
  refine T.f_is_plain.cal sc_is_plain bd_is_plain (fun vs H Q E h => ?_) fun f cdv A outer s H vs Q E hr h => ?_
  · obtain ⟨M, n, x, d, rfl, _⟩ := h; rfl
  obtain ⟨M, n, x, d, rfl, s0, i, g, hn, q⟩ := h
  refine ⟨_, (pss_one (ps_ret (pe_c (ok_is_within T) hr (by decide) rfl (pa_cons (pv 0) (pa_cons (pe_gc (by rfl) T.g_MOST_DEEP) pa_nil))))), ?_⟩
  walk_at "k"
  walk_at "rd"
  exact ⟨M, n, x, d, rfl, s0, i, g, hn, q⟩
def sp_no : Sp := fun _ _ _ _ => False
theorem no_cal {x : Str} {st : Stmt} {ps : List Str} (g : GFun K mg x st) (b : BindAll x x st ps) : Cal P w K mg base 1 x sp_no [] := by
  obtain ⟨f, fd, F, hm⟩ := g.ex
  exact ⟨f, fd, ps, [], ⟨fun _ _ _ _ h => h.elim, fun _ _ _ _ _ _ _ _ _ _ _ _ _ h => h.elim⟩, hm, F.kp, F.bindsN b, .nil⟩
def sp_sel : Sp := fun vs H Q _ => ∃ (M : List Addr) (a : Addr) (ds : List PyData), vs = [.ref a] ∧ Is M H (.ref a) (.tuple ds) ∧ ds.length ≠ 4 ∧ Q (.bl false) H
theorem ok_is_select (T : Txt K mg) : Cal P w K mg base 2 "is_select" sp_sel [] := by
  refine T.f_is_select.cal sc_is_select bd_is_select (fun vs H Q E h => ?_) fun f cdv A outer s H vs Q E hr h => ?_
  · obtain ⟨M, a, ds, rfl, _⟩ := h; rfl
  obtain ⟨M, a, ds, rfl, i, hl, q⟩ := h
  refine ⟨_, (pss_cons (ps_if (PW.pt (pw_or (pt_cmpR op_ne (pe_callB (call_lenK K) (by rfl) T.z_len (by decide +kernel) (pa_cons (pv 0) pa_nil)) pe_int (nomark _)) (pw_or (pt_not (pt_val (pe_c (no_cal T.f_is_output bd_is_output) hr (by decide) rfl (pa_cons (pe_ix (ix_tupK K) (pv 0) pe_int (fun _ _ => rfl)) pa_nil)))) (pw_or1 (pt_not (pt_val (pe_c (ok_is_row_of T) hr (by decide) rfl (pa_cons (pe_ix (ix_tupK K) (pv 0) pe_int (fun _ _ => rfl)) (pa_cons pe_int (pa_cons pe_int pa_nil)))))))))) (pss_one (ps_ret pe_bl)) pss_nil)
      pss_never), ?_⟩
  walk_at "k"
  obtain ⟨us, na, ha, ra⟩ := i.tuple
  have hz := ra.length
  walk_at "rd"
  refine iteNS' (by omega) ?_
  walk_at "rd"
  exact q
def sp_stm : Sp := fun vs H Q _ => ∃ (M : List Addr) (n : Nat) (x : V) (d : PyData), vs = [x] ∧ Al M H ∧ Is M H x d ∧ Gd n d ∧ n ≤ 4 ∧ safe d ∧ ∀ (b : Bool) H', Ext [] H H' → (b = true → isStm d = true) → (plD d 30 = true → isStm d = true → b = true) → Q (.bl b) H'
theorem ok_is_statement (T : Txt K mg) : Cal P w K mg base 4 "is_statement" sp_stm [] := by
  refine T.f_is_statement.cal sc_is_statement bd_is_statement (fun vs H Q E h => ?_) fun f cdv A outer s H vs Q E hr h => ?_
  · obtain ⟨M, n, x, d, rfl, _⟩ := h; rfl
  obtain ⟨M, n, x, d, rfl, s0, i, g, hn, sf, q⟩ := h
  refine ⟨_, (pss_cons (ps_if (PW.pt (pw_or (pt_not (pt_val (pe_c (ok_is_plain T) hr (by decide) rfl (pa_cons (pv 0) pa_nil)))) (pw_or (pt_not (pt_val (pe_callB (call_isK K) (by rfl) T.z_isinstance (by decide +kernel) (pa_cons (pv 0) (pa_cons (pe_bltn (v := .ty "tuple") (by rfl) T.z_tuple (by decide +kernel) rfl) pa_nil))))) (pw_or (pt_cmpR op_lt (pe_callB (call_lenK K) (by rfl) T.z_len (by decide +kernel) (pa_cons (pv 0) pa_nil)) pe_int (nomark _)) (pw_or1 (pt_not (pt_val (pe_callB (call_isK K) (by rfl) T.z_isinstance (by decide +kernel) (pa_cons (pe_ix (ix_tupK K) (pv 0) pe_int (fun _ _ => rfl)) (pa_cons (pe_bltn (v := .ty "str") (by rfl) T.z_str (by decide +kernel) rfl) pa_nil)))))))))) (pss_one (ps_ret pe_bl)) pss_nil)
      (pss_cons (ps_set (i := 1) sc_is_statement.nd rfl (Or.inl rfl) (pe_ix (ix_tupK K) (pv 0) pe_int (fun _ _ => rfl)))
      (pss_cons (ps_if (pt_cmpR op_eq (pv 1) pe_str (nomark _)) (pss_one (ps_ret (pe_c (ok_is_create T) hr (by decide) rfl (pa_cons (pv 0) pa_nil)))) pss_nil)
      (pss_cons (ps_if (pt_cmpR op_eq (pv 1) pe_str (nomark _)) (pss_one (ps_ret (pe_and (pe_cmpR op_eq (pe_callB (call_lenK K) (by rfl) T.z_len (by decide +kernel) (pa_cons (pv 0) pa_nil)) pe_int (nomark _)) (pe_one (pe_c (ok_is_name T) hr (by decide) rfl (pa_cons (pe_ix (ix_tupK K) (pv 0) pe_int (fun _ _ => rfl)) pa_nil)))))) pss_nil)
      (pss_cons (ps_if (pt_cmpR op_eq (pv 1) pe_str (nomark _)) (pss_one (ps_ret (pe_c (ok_is_insert T) hr (by decide) rfl (pa_cons (pv 0) pa_nil)))) pss_nil)
      (pss_cons (ps_if (pt_cmpR op_eq (pv 1) pe_str (nomark _)) (pss_one (ps_ret (pe_and (pe_cmpR op_eq (pe_callB (call_lenK K) (by rfl) T.z_len (by decide +kernel) (pa_cons (pv 0) pa_nil)) pe_int (nomark _)) (pe_and (pe_c (ok_is_name T) hr (by decide) rfl (pa_cons (pe_ix (ix_tupK K) (pv 0) pe_int (fun _ _ => rfl)) pa_nil)) (pe_one (pe_c (no_cal T.f_are_conditions bd_are_conditions) hr (by decide) rfl (pa_cons (pe_ix (ix_tupK K) (pv 0) pe_int (fun _ _ => rfl)) pa_nil))))))) pss_nil)
      (pss_cons (ps_if (pt_cmpR op_eq (pv 1) pe_str (nomark _)) (pss_one (ps_ret (pe_and (pe_cmpR op_eq (pe_callB (call_lenK K) (by rfl) T.z_len (by decide +kernel) (pa_cons (pv 0) pa_nil)) pe_int (nomark _)) (pe_and (pe_c (ok_is_name T) hr (by decide) rfl (pa_cons (pe_ix (ix_tupK K) (pv 0) pe_int (fun _ _ => rfl)) pa_nil)) (pe_and (pe_c (no_cal T.f_are_settings bd_are_settings) hr (by decide) rfl (pa_cons (pe_ix (ix_tupK K) (pv 0) pe_int (fun _ _ => rfl)) pa_nil)) (pe_one (pe_c (no_cal T.f_are_conditions bd_are_conditions) hr (by decide) rfl (pa_cons (pe_ix (ix_tupK K) (pv 0) pe_int (fun _ _ => rfl)) pa_nil)))))))) pss_nil)
      (pss_cons (ps_if (pt_cmpR op_eq (pv 1) pe_str (nomark _)) (pss_one (ps_ret (pe_c (ok_is_select T) hr (by decide) rfl (pa_cons (pv 0) pa_nil)))) pss_nil)
      (pss_one (ps_ret (pe_and (pe_cmpR op_eq (pv 1) pe_str (nomark _)) (pe_and (pe_cmpR op_eq (pe_callB (call_lenK K) (by rfl) T.z_len (by decide +kernel) (pa_cons (pv 0) pa_nil)) pe_int (nomark _)) (pe_and (pe_c (ok_is_count T) hr (by decide) rfl (pa_cons (pe_ix (ix_tupK K) (pv 0) pe_int (fun _ _ => rfl)) (pa_cons pe_int (pa_cons pe_int pa_nil)))) (pe_one (pe_c (ok_is_count T) hr (by decide) rfl (pa_cons (pe_ix (ix_tupK K) (pv 0) pe_int (fun _ _ => rfl)) (pa_cons pe_int (pa_cons pe_int pa_nil)))))))))))))))))), ?_⟩
  walk_at "k"
  walk_at "rd"
  refine ⟨M, n, x, d, rfl, s0, i, g, hn, fun b1 H1 e1 hb1 => ?_⟩
  walk_at "rd"
  cases b1 with
  | false =>
    walk_at "rd"
    exact q false _ e1 (fun z => nomatch z) fun hp _ => hb1 hp
  | true =>
  have iH1 : Is M H1 x d := by walk_at "at"
  have a1 : Al M H1 := by walk_at "at"
  have qf : isStm d = false → ∀ H', Ext [] H H' → Q (.bl false) H' := fun h H' e => q false H' e (fun z => nomatch z) fun _ z => by rw [h] at z; cases z
  walk_at "rd"
  cases iH1 with
  | non =>
    walk_at "rd"
    exact qf rfl _ e1
  | bl b =>
    walk_at "rd"
    exact qf rfl _ e1
  | int b =>
    walk_at "rd"
    exact qf rfl _ e1
  | str b =>
    walk_at "rd"
    exact qf rfl _ e1
  | lst na h r =>
    walk_at "rd"
    exact qf rfl _ e1
  | @tup a us ds na h r =>
  have hz := r.length
  have iH1 : Is M H1 (.ref a) (.tuple ds) := .tup na h r
  walk_at "rd"
  refine rd_ite (fun c => ?_) (fun c => ?_)
  · have c' := of_decide_eq_true c
    walk_at "rd"
    refine qf ?_ _ e1
    cases ds with
    | nil => rfl
    | cons w ds =>
      cases ds with
      | nil => cases w <;> rfl
      | cons _ _ => rw [List.length_cons, List.length_cons] at hz; omega
  have c' := of_decide_eq_false c
  cases r with
  | nil => rw [List.length_nil] at c'; omega
  | @cons v0 vr w ds i0 r =>
  obtain ⟨m, rfl⟩ : ∃ m, n = m + 1 := by cases g; exact ⟨_, rfl⟩
  rw [List.length_cons] at c' hz
  rw [List.length_cons] at hz
  have hl1 : 1 ≤ ds.length := by omega
  walk_at "rd"
  cases i0 with
  | non =>
    walk_at "rd"
    exact qf rfl _ e1
  | bl b =>
    walk_at "rd"
    exact qf rfl _ e1
  | int b =>
    walk_at "rd"
    exact qf rfl _ e1
  | lst na h r =>
    walk_at "rd"
    exact qf rfl _ e1
  | tup na h r =>
    walk_at "rd"
    exact qf rfl _ e1
  | str w =>
  have est : isStm (.tuple (.str w :: ds)) = isStW w ds := by
    show (decide (1 ≤ ds.length) && isStW w ds) = _
    rw [decide_eq_true hl1, Bool.true_and]
  have qx : ∀ H', Ext [] H H' → Q (.bl (isStW w ds)) H' := fun H' e => q _ H' e (fun z => by rw [est]; exact z) fun _ z => by rw [est] at z; exact z
  have g0 : Gd m (at' ds 0) := gd_at g 1
  have ix1 : ∀ {R : VK}, (∀ v, Is M H1 v (at' ds 0) → R v H1) → rIxT K (.ref a) (.int 1) H1 R := fun k => rd_atT 1 iH1 rfl (by rw [List.length_cons]; omega) k
  walk_at "rd"
  refine rd_ite (fun c => ?_) (fun c => ?_)
  · have e := V.str.inj (of_decide_eq_true c)
    subst e
    walk_at "rd"
    refine ⟨M, m, a, _, ds, rfl, a1, iH1, g, by omega, hl1, fun H2 e2 => ?_⟩
    exact qx _ (e1.trans e2)
  have n1 : w ≠ "create" := fun z => of_decide_eq_false c (congrArg V.str z)
  walk_at "rd"
  refine rd_ite (fun c => ?_) (fun c => ?_)
  · have e := V.str.inj (of_decide_eq_true c)
    subst e
    have e2 : isStW "drop" ds = (decide (ds.length = 1) && isNm (at' ds 0)) := rfl
    rw [e2] at qx
    walk_at "rd"
    refine rd_ite (fun c => ?_) (fun c => ?_)
    · have c' := of_decide_eq_true c
      rw [List.length_cons] at c'
      rw [decide_eq_true (show ds.length = 1 by omega), Bool.true_and] at qx
      walk_at "rd"
      refine ix1 fun v1 j1 => ?_
      walk_at "rd"
      exact ⟨M, m, v1, _, rfl, a1, j1, g0, by omega, fun H2 e2 => qx _ (e1.trans e2)⟩
    · have c' := of_decide_eq_false c
      rw [List.length_cons] at c'
      rw [decide_eq_false (show ¬ ds.length = 1 by omega), Bool.false_and] at qx
      exact qx _ e1
  have n2 : w ≠ "drop" := fun z => of_decide_eq_false c (congrArg V.str z)
  walk_at "rd"
  refine rd_ite (fun c => ?_) (fun c => ?_)
  · have e := V.str.inj (of_decide_eq_true c)
    subst e
    walk_at "rd"
    refine ⟨M, m, a, _, ds, rfl, a1, iH1, g, by omega, hl1, fun H2 e2 => ?_⟩
    exact qx _ (e1.trans e2)
  have n3 : w ≠ "insert" := fun z => of_decide_eq_false c (congrArg V.str z)
  have enot : ∀ z : Str, z ≠ "replace" → w = z → isStW w ds = false := fun z hz e => by
    unfold isStW
    rw [if_neg n1, if_neg n2, if_neg n3, if_neg (by rw [e]; exact hz)]
  walk_at "rd"
  refine rd_ite (fun c => ?_) (fun c => ?_)
  · have e := V.str.inj (of_decide_eq_true c)
    rw [enot _ (by decide) e] at qx
    walk_at "rd"
    refine rd_ite (fun c => ?_) (fun c => ?_)
    · have c' := of_decide_eq_true c
      rw [List.length_cons] at c'
      have hb : isNm (at' ds 0) = false := sf.1 e (by omega)
      walk_at "rd"
      refine ix1 fun v1 j1 => ?_
      walk_at "rd"
      refine ⟨M, m, v1, _, rfl, a1, j1, g0, by omega, fun H2 e2 => ?_⟩
      rw [hb]
      walk_at "rd"
      exact qx _ (e1.trans e2)
    · exact qx _ e1
  walk_at "rd"
  refine rd_ite (fun c => ?_) (fun c => ?_)
  · have e := V.str.inj (of_decide_eq_true c)
    rw [enot _ (by decide) e] at qx
    walk_at "rd"
    refine rd_ite (fun c => ?_) (fun c => ?_)
    · have c' := of_decide_eq_true c
      rw [List.length_cons] at c'
      have hb : isNm (at' ds 0) = false := sf.2.1 e (by omega)
      walk_at "rd"
      refine ix1 fun v1 j1 => ?_
      walk_at "rd"
      refine ⟨M, m, v1, _, rfl, a1, j1, g0, by omega, fun H2 e2 => ?_⟩
      rw [hb]
      walk_at "rd"
      exact qx _ (e1.trans e2)
    · exact qx _ e1
  walk_at "rd"
  refine rd_ite (fun c => ?_) (fun c => ?_)
  · have e := V.str.inj (of_decide_eq_true c)
    rw [enot _ (by decide) e] at qx
    have hb := sf.2.2 e
    walk_at "rd"
    exact ⟨M, a, _, rfl, iH1, by rw [List.length_cons]; omega, qx _ e1⟩
  walk_at "rd"
  refine rd_ite (fun c => ?_) (fun c => ?_)
  · have e := V.str.inj (of_decide_eq_true c)
    have e2 : isStW w ds = (decide (ds.length = 2) && isCnt 0 9 (at' ds 0) && isCnt 1 999 (at' ds 1)) := by
      subst e
      rfl
    rw [e2] at qx
    walk_at "rd"
    refine rd_ite (fun c => ?_) (fun c => ?_)
    · have c' := of_decide_eq_true c
      rw [List.length_cons] at c'
      rw [decide_eq_true (show ds.length = 2 by omega), Bool.true_and] at qx
      walk_at "rd"
      refine ix1 fun v1 j1 => ?_
      walk_at "rd"
      refine ⟨M, v1, _, 0, 9, rfl, j1, ?_⟩
      walk_at "rd"
      refine rd_ite (fun c5 => ?_) (fun c5 => ?_)
      · rw [c5, Bool.true_and] at qx
        walk_at "rd"
        refine rd_atT 2 iH1 rfl (by rw [List.length_cons]; omega) fun v2 j2 => ?_
        rw [at_s] at j2
        walk_at "rd"
        exact ⟨M, v2, _, 1, 999, rfl, j2, qx _ e1⟩
      · rw [c5, Bool.false_and] at qx
        walk_at "rd"
        exact qx _ e1
    · have c' := of_decide_eq_false c
      rw [List.length_cons] at c'
      rw [decide_eq_false (show ¬ ds.length = 2 by omega), Bool.false_and, Bool.false_and] at qx
      exact qx _ e1
  · have n4 : w ≠ "replace" := fun z => of_decide_eq_false c (congrArg V.str z)
    have e2 : isStW w ds = false := by
      unfold isStW
      rw [if_neg n1, if_neg n2, if_neg n3, if_neg n4]
    rw [e2] at qx
    exact qx _ e1
end
/-! ### what is drawn -/
def lowS (x : Str) : Prop := ∀ c ∈ x.cps.toList, 97 ≤ c ∧ c ≤ 122
def sgnS (x : Str) : Prop := ∀ c ∈ x.cps.toList, 32 ≤ c ∧ c ≤ 126 ∧ c ≠ 37
theorem filt_nil {p : Nat → Bool} {l : List Nat} (h : ∀ c ∈ l, p c = false) : (l.filter p).isEmpty = true := by
  rw [List.isEmpty_iff, List.filter_eq_nil_iff]
  exact fun c hc => by rw [h c hc]; exact Bool.false_ne_true
theorem low_nm {x : Str} (h1 : 1 ≤ x.length) (h2 : x.length ≤ 12) (h : lowS x) : isNm (.str x) = true := by
  show (decide (1 ≤ x.length) && decide (x.length ≤ 12) && (x.cps.toList.filter badN).isEmpty) = true
  rw [decide_eq_true h1, decide_eq_true h2, filt_nil fun c hc => by unfold badN; rw [decide_eq_true (h c hc).1, decide_eq_true (h c hc).2]; rfl]
  rfl
theorem sgn_val {x : Str} (h2 : x.length ≤ 40) (h : sgnS x) : isVal (.str x) = true := by
  show (decide (x.length ≤ 40) && (x.cps.toList.filter badV).isEmpty) = true
  rw [decide_eq_true h2, filt_nil fun c hc => by
    obtain ⟨a, b, d⟩ := h c hc
    unfold badV; rw [decide_eq_true a, decide_eq_true b, decide_eq_false d]; rfl]
  rfl
theorem lowS.ok {x : Str} (h : lowS x) (n : Nat) (hn : x.length ≤ n) : SOk n x := ⟨hn, fun c hc => by have := h c hc; omega⟩
theorem sgnS.ok {x : Str} (h : sgnS x) (n : Nat) (hn : x.length ≤ n) : SOk n x := ⟨hn, fun c hc => by have := h c hc; omega⟩
theorem mem_one {c d : Nat} (h : c ∈ (⟨#[d]⟩ : Str).cps.toList) : c = d := by simpa using h
def sp_nm : Sp := fun vs H Q _ => ∃ n : Nat, vs = [.int n] ∧ ∀ x : Str, 1 ≤ x.length → x.length ≤ 12 → lowS x → Q (.str x) H
def sp_vl : Sp := fun vs H Q _ => ∃ n : Nat, vs = [.int n] ∧ n < 2147483648 ∧ ∀ (x : Vl) H', Ext [] H H' → isVal (vd x) = true → Sm 40 x → Q (vv x) H'
def sp_eqb : Sp := fun vs H Q _ => ∃ a b : Bool, vs = [.bl a, .bl b] ∧ Q (.bl (a == b)) H
def LOW : Str := "abcdefghijklmnopqrstuvwxyz"
theorem low_get {j : Nat} (h : j < 26) : ∃ c, LOW.cps.toList[j]? = some c ∧ 97 ≤ c ∧ c ≤ 122 := by
  have hl : j < LOW.cps.toList.length := by show j < 26; exact h
  exact ⟨_, List.getElem?_eq_getElem hl, (by decide +kernel : ∀ c ∈ LOW.cps.toList, 97 ≤ c ∧ c ≤ 122) _ (List.getElem_mem hl)⟩
def SGN : Str := " !\"#$&'()*+,-./0123456789:;<=>?@ABCDEFGHIJKLMNOPQRSTUVWXYZ[\\]^_`abcdefghijklmnopqrstuvwxyz{|}~"
theorem sgn_len : SGN.length = 94 := by decide +kernel
theorem sgn_get {j : Nat} (h : j < 94) : ∃ c, SGN.cps.toList[j]? = some c ∧ 32 ≤ c ∧ c ≤ 126 ∧ c ≠ 37 := by
  have hl : j < SGN.cps.toList.length := by
    have e : SGN.cps.toList.length = 94 := by rw [Array.length_toList]; exact sgn_len
    omega
  exact ⟨_, List.getElem?_eq_getElem hl, (by decide +kernel : ∀ c ∈ SGN.cps.toList, 32 ≤ c ∧ c ≤ 126 ∧ c ≠ 37) _ (List.getElem_mem hl)⟩
theorem rd_addSt {H : Hp} {Q : VK} {i j : Str} (hz : i.length + j.length ≤ 100000) (q : Q (.str (i ++ j)) H) : rAddSt (.str i) (.str j) H Q := ⟨i, j, rfl, rfl, szL hz, q⟩
section
variable {P : Program} {w : World} {K : PySem.W.Frag} {mg : Str → Option Value} {base : Heap}
theorem ok_law_name (T : Txt K mg) : Cal P w K mg base 1 "_law_name" sp_nm [] := by
  refine T.f_law_name.cal sc_law_name bd_law_name (fun vs H Q E h => ?_) fun f cdv A outer s H vs Q E hr h => ?_
  · obtain ⟨n, rfl, _⟩ := h; rfl
  obtain ⟨n, rfl, q⟩ := h
  refine ⟨_, (pss_cons (ps_set (i := 1) sc_law_name.nd rfl (Or.inl rfl) pe_str)
      (pss_cons (ps_set (i := 2) sc_law_name.nd rfl (Or.inl rfl) pe_str)
      (pss_cons (ps_for PassesOwn.never rfl (pi_range1 rfl T.z_range (pa_cons (pe_op op_add pe_int (pe_op op_mod (pv 0) pe_int)) pa_nil)) (pg_name (i := 3) sc_law_name.nd rfl (Or.inl rfl))
      (pss_one (ps_set (i := 2) sc_law_name.nd rfl (Or.inl rfl) (pe_op op_addSt (pv 2) (pe_ix ix_str (pv 1) (pe_op op_mod (pe_op op_add (pe_op op_fdiv (pv 0) (pe_op op_add (pv 3) pe_int)) (pe_op op_mul pe_int (pv 3))) pe_int) (fun _ _ => rfl))))))
      (pss_one (ps_ret (pv 2)))))), ?_⟩
  walk_at "k"
  walk_at "rd"
  have er : ((1 : Int) + (n : Int) % 12).toNat = 1 + n % 12 := by omega
  rw [er]
  refine q_range (fun i σ H' => ∃ (u : Option V) (x : Str), σ = [some (.int n), some (.str LOW), some (.str x), u] ∧ H' = H ∧ x.length = i ∧ lowS x) ⟨none, "", rfl, rfl, rfl, fun c hc => nomatch hc⟩ ?_ ?_
  · rintro i σ H' hi ⟨u, x, rfl, rfl, hx, hlow⟩
    walk_at "rd"
    obtain ⟨c, hc, hc1, hc2⟩ := low_get (j := ((n : Int) / (0 + (i : Int) + 1) + 7 * (0 + (i : Int))).toNat % 26) (Nat.mod_lt _ (by decide))
    have h0 : 0 ≤ (n : Int) / (0 + (i : Int) + 1) := Int.ediv_nonneg (by omega) (by omega)
    refine rd_ixS (by decide) (by omega : ((n : Int) / (0 + (i : Int) + 1) + 7 * (0 + (i : Int))) % 26 = ((((n : Int) / (0 + (i : Int) + 1) + 7 * (0 + (i : Int))).toNat % 26 : Nat) : Int)) hc ?_
    refine rd_addSt (by show x.length + 1 ≤ _; omega) ?_
    walk_at "rd"
    refine ⟨_, _, rfl, rfl, by rw [strLen_append]; show x.length + 1 = i + 1; omega, fun d hd => ?_⟩
    rw [app_cps, List.mem_append] at hd
    rcases hd with hd | hd
    · exact hlow d hd
    · rw [mem_one hd]; exact ⟨hc1, hc2⟩
  · rintro σ H' ⟨u, x, rfl, rfl, hx, hlow⟩
    walk_at "rd"
    exact q x (by omega) (by omega) hlow
theorem ok_law_value (T : Txt K mg) : Cal P w K mg base 1 "_law_value" sp_vl [] := by
  refine T.f_law_value.cal sc_law_value bd_law_value (fun vs H Q E h => ?_) fun f cdv A outer s H vs Q E hr h => ?_
  · obtain ⟨n, rfl, _⟩ := h; rfl
  obtain ⟨n, rfl, hn, q⟩ := h
  refine ⟨_, (pss_cons (ps_if (pt_cmpR op_eq (pe_op op_mod (pv 0) pe_int) pe_int (nomark _)) (pss_one (ps_ret (pe_ix (ix_listK K) (pe_lst (pa_cons pe_int (pa_cons (pe_op op_sub (pe_op op_pow pe_int pe_int) pe_int) (pa_cons (pe_op op_sub pe_int (pe_op op_pow pe_int pe_int)) (pa_cons (pv 0) (pa_cons (pe_op op_sub pe_int (pv 0)) pa_nil)))))) (pe_op op_mod (pe_op op_fdiv (pv 0) pe_int) pe_int) (fun _ _ => rfl)))) pss_nil)
      (pss_cons (ps_set (i := 1) sc_law_value.nd rfl (Or.inl rfl) pe_str)
      (pss_cons (ps_set (i := 2) sc_law_value.nd rfl (Or.inl rfl) pe_str)
      (pss_cons (ps_for PassesOwn.never rfl (pi_range1 rfl T.z_range (pa_cons (pe_op op_mod (pe_op op_fdiv (pv 0) pe_int) pe_int) pa_nil)) (pg_name (i := 3) sc_law_value.nd rfl (Or.inl rfl))
      (pss_one (ps_set (i := 2) sc_law_value.nd rfl (Or.inl rfl) (pe_op op_addSt (pv 2) (pe_ix ix_str (pv 1) (pe_op op_mod (pe_op op_add (pe_op op_fdiv (pv 0) (pe_op op_add (pv 3) pe_int)) (pv 3)) (pe_callB call_lenSq (by rfl) T.z_len (by decide +kernel) (pa_cons (pv 1) pa_nil))) (fun _ _ => rfl))))))
      (pss_one (ps_ret (pv 2))))))), ?_⟩
  walk_at "k"
  walk_at "rd"
  refine rd_ite (fun c => ?_) (fun c => ?_)
  · walk_at "rd"
    refine rd_newL (M := []) .nil (by walk_at "all") (by simp) fun r H1 hr1 e1 h1 _ => ?_
    walk_at "rd"
    refine rd_pickV (P := fun x => ∃ z : Int, x = .int z ∧ 1 - 10 ^ 30 ≤ z ∧ z ≤ 10 ^ 30 - 1) h1 (j := n / 2 % 5) (by omega) (by simp; omega) (fun x hx => ?_) ?_
    · simp only [List.mem_cons, List.not_mem_nil, or_false] at hx
      rcases hx with rfl | rfl | rfl | rfl | rfl
      · exact ⟨_, rfl, by decide, by decide⟩
      · exact ⟨_, rfl, by decide, by decide⟩
      · exact ⟨_, rfl, by decide, by decide⟩
      · exact ⟨_, rfl, by omega, by omega⟩
      · exact ⟨_, rfl, by omega, by omega⟩
    · rintro x ⟨z, rfl, h1, h2⟩
      walk_at "rd"
      exact q (.inl z) H1 e1 (by show (decide _ && decide _) = true; rw [decide_eq_true h1, decide_eq_true h2]; rfl) trivial
  walk_at "rd"
  have er : ((n : Int) / 2 % 41).toNat = n / 2 % 41 := by omega
  rw [er]
  refine q_range (fun i σ H' => ∃ (u : Option V) (x : Str), σ = [some (.int n), some (.str SGN), some (.str x), u] ∧ H' = H ∧ x.length = i ∧ sgnS x) ⟨none, "", rfl, rfl, rfl, fun c hc => nomatch hc⟩ ?_ ?_
  · rintro i σ H' hi ⟨u, x, rfl, rfl, hx, hlow⟩
    walk_at "rd"
    refine rd_lenS (by rw [sgn_len]; decide) ?_
    rw [sgn_len]
    walk_at "rd"
    obtain ⟨c, hc, hc1⟩ := sgn_get (j := ((n : Int) / (0 + (i : Int) + 3) + (0 + (i : Int))).toNat % 94) (Nat.mod_lt _ (by decide))
    have h0 : 0 ≤ (n : Int) / (0 + (i : Int) + 3) := Int.ediv_nonneg (by omega) (by omega)
    refine rd_ixS (by rw [sgn_len]; decide) (by omega : ((n : Int) / (0 + (i : Int) + 3) + (0 + (i : Int))) % (94 : Nat) = ((((n : Int) / (0 + (i : Int) + 3) + (0 + (i : Int))).toNat % 94 : Nat) : Int)) hc ?_
    refine rd_addSt (by show x.length + 1 ≤ _; omega) ?_
    walk_at "rd"
    refine ⟨_, _, rfl, rfl, by rw [strLen_append]; show x.length + 1 = i + 1; omega, fun d hd => ?_⟩
    rw [app_cps, List.mem_append] at hd
    rcases hd with hd | hd
    · exact hlow d hd
    · rw [mem_one hd]; exact hc1
  · rintro σ H' ⟨u, x, rfl, rfl, hx, hlow⟩
    walk_at "rd"
    exact q (.inr x) H' .refl (sgn_val (by omega) hlow) (hlow.ok 40 (by omega))
theorem ok_law_is (T : Txt K mg) : Cal P w K mg base 1 "_law_is" sp_eqb [] := by
  refine T.f_law_is.cal sc_law_is bd_law_is (fun vs H Q E h => ?_) fun f cdv A outer s H vs Q E hr h => ?_
  · obtain ⟨a, b, rfl, _⟩ := h; rfl
  obtain ⟨a, b, rfl, q⟩ := h
  refine ⟨_, (pss_one (ps_ret (pe_and (pe_callB (call_isK K) (by rfl) T.z_isinstance (by decide +kernel) (pa_cons (pv 0) (pa_cons (pe_bltn (v := .ty "bool") (by rfl) T.z_bool (by decide +kernel) rfl) pa_nil))) (pe_one (pe_cmpR op_eq (pv 0) (pv 1) (nomark _)))))), ?_⟩
  walk_at "k"
  walk_at "rd"
  have e : decide (V.bl a = V.bl b) = (a == b) := by cases a <;> cases b <;> rfl
  rw [e]
  exact q
def sp_odds (f : PyData → Bool) : Sp := fun vs H Q _ => vs = [] ∧ ∀ (r : Addr) (es : List PyData) H', Ext [] H H' → Is [] H' (.ref r) (.list es) → (∀ e ∈ es, f e = false ∧ Gd 1 e) → Q (.ref r) H'
def OTH : Str := " !\"#$&'()*+,-./0123456789:;<=>?@ABCDEFGHIJKLMNOPQRSTUVWXYZ[\\]^_`{|}~"
theorem oth_len : OTH.length = 68 := by decide +kernel
theorem oth_get {j : Nat} (h : j < 68) : ∃ c, OTH.cps.toList[j]? = some c ∧ badN c = true ∧ c < 1114112 := by
  have hl : j < OTH.cps.toList.length := by
    have e : OTH.cps.toList.length = 68 := by rw [Array.length_toList]; exact oth_len
    omega
  exact ⟨_, List.getElem?_eq_getElem hl, (by decide +kernel : ∀ c ∈ OTH.cps.toList, badN c = true ∧ c < 1114112) _ (List.getElem_mem hl)⟩
theorem bad_nm {x : Str} {c : Nat} (h : c ∈ x.cps.toList) (hb : badN c = true) : isNm (.str x) = false := by
  show (decide (1 ≤ x.length) && decide (x.length ≤ 12) && (x.cps.toList.filter badN).isEmpty) = false
  have e : (x.cps.toList.filter badN).isEmpty = false := by
    rw [List.isEmpty_eq_false_iff]
    exact fun z => by
      have := List.filter_eq_nil_iff.mp z c h
      exact this hb
  rw [e, Bool.and_false]
theorem rd_slS {H : Hp} {Q : VK} {z : Str} {lo hi : Option Int} (hz : z.length ≤ 100000) (q : Q (.str (cutS z lo hi)) H) : rSlS (.str z) lo hi H Q := ⟨z, rfl, szL hz, q⟩
theorem ok_law_odd_names (T : Txt K mg) : Cal P w K mg base 1 "_law_odd_names" (sp_odds isNm) [] := by
  refine T.f_law_odd_names.cal sc_law_odd_names bd_law_odd_names (fun vs H Q E h => ?_) fun f cdv A outer s H vs Q E hr h => ?_
  · obtain ⟨rfl, _⟩ := h; rfl
  obtain ⟨rfl, q⟩ := h
  refine ⟨_, (pss_cons (ps_set (i := 0) sc_law_odd_names.nd rfl (Or.inl rfl) (pe_lst (pa_cons pe_str (pa_cons pe_str (pa_cons pe_str (pa_cons pe_str (pa_cons pe_str (pa_cons pe_str (pa_cons pe_str (pa_cons pe_non (pa_cons pe_int (pa_cons (pe_tup (pa_cons pe_str pa_nil)) (pa_cons pe_bl pa_nil)))))))))))))
      (pss_cons (ps_set (i := 0) sc_law_odd_names.nd rfl (Or.inl rfl) (pe_op op_cat (pv 0) (pe_lst (pa_cons pe_str (pa_cons pe_str (pa_cons pe_str (pa_cons pe_str pa_nil)))))))
      (pss_cons (ps_set (i := 1) sc_law_odd_names.nd rfl (Or.inr rfl) pe_str)
      (pss_one (ps_ret (pe_op op_cat (pv 0) (pe_lc (own := [("k", 2)]) (g := gName 2) (tt := tYes) rfl sc_law_odd_names.nd (pi_range1 rfl T.z_range (pa_cons (pe_callB call_lenSq (by rfl) T.z_len (by decide +kernel) (pa_cons (pv 1) pa_nil)) pa_nil)) (blkOk_by (own := [("k", 2)]) (N := nm_law_odd_names) (sc := defScope s_law_odd_names) (by decide +kernel)) (fun _ _ _ _ _ => (pg_name (i := 2) sc_law_odd_names.nd rfl (Or.inl rfl))) (fun _ _ _ _ _ => pts_nil) (fun _ _ _ _ _ => (pe_op op_addSt (pe_op op_addSt (pe_slice sl_str pe_str po_none (po_some (pe_op op_mod (pv 2) pe_int))) (pe_ix ix_str (pv 1) (pv 2) (fun _ _ => rfl))) (pe_slice sl_str pe_str po_none (po_some (pe_op op_mod (pv 2) pe_int)))))))))))), ?_⟩
  walk_at "k"
  walk_at "rd"
  refine rd_newT (M := []) .nil (by walk_at "all") (by simp) fun r1 H1 hr1 e1 _ i1 => ?_
  walk_at "rd"
  refine rd_newL (M := []) .nil (by walk_at "all") (by simp) fun r2 H2 hr2 e2 _ i2 => ?_
  walk_at "rd"
  refine rd_newL (M := []) .nil (by walk_at "all") (by simp) fun r3 H3 hr3 e3 _ i3 => ?_
  refine rd_dcat (M := []) .nil (at_is0 e3 i2) i3 (by decide) fun r4 H4 hr4 e4 _ i4 => ?_
  walk_at "rd"
  refine rd_lenS (by show OTH.length ≤ _; rw [oth_len]; decide) ?_
  rw [show (Str.ofString " !\"#$&'()*+,-./0123456789:;<=>?@ABCDEFGHIJKLMNOPQRSTUVWXYZ[\\]^_`{|}~").length = 68 from oth_len]
  walk_at "rd"
  intro D hD
  refine q_lcAR (N := []) (M := []) (fun _ => True) (fun _ e => isNm e = false ∧ Gd 1 e) (by simp) .nil hD (by decide) (fun _ => rfl) trivial (fun _ _ _ => trivial) (fun i H' hi sD e _ _ R k => ?_) fun H5 es e5 _ r5 i5 => ?_
  · have hi' : i < 68 := hi
    walk_at "rd"
    refine rd_slS (by decide) ?_
    obtain ⟨c, hc, hb, hc2⟩ := oth_get hi'
    walk_at "rd"
    refine rd_ixS (j := i) (by show OTH.length ≤ _; rw [oth_len]; decide) (by omega) hc ?_
    have o1 := (show SOk 3 ("abc" : Str) from ⟨by decide, by decide⟩).cut none (some ((0 + (i : Int)) % 4))
    have o2 := (show SOk 3 ("xyz" : Str) from ⟨by decide, by decide⟩).cut none (some ((0 + (i : Int)) % 3))
    refine rd_addSt (by have := o1.1; show _ + 1 ≤ _; omega) ?_
    walk_at "rd"
    refine rd_slS (by decide) ?_
    have o3 := o1.app (.one hc2)
    refine rd_addSt (by have := o3.1; have := o2.1; omega) ?_
    refine k _ _ _ .refl trivial (.str _) ⟨bad_nm (c := c) ?_ hb, .str ((o3.app o2).mono (by decide))⟩
    rw [app_cps, app_cps]
    simp
  · refine rd_dcat (M := []) .nil (at_is0 e5 i4) i5 (by
      have z := r5.length
      rw [List.length_range] at z
      rw [← z]
      decide) fun r6 H6 hr6 e6 _ i6 => ?_
    refine q r6 _ H6 (e1.trans (e2.trans (e3.trans (e4.trans (e5.trans e6))))) i6 fun e he => ?_
    rcases List.mem_append.mp he with he | he
    · rcases List.mem_append.mp he with he | he
      · simp only [List.mem_cons, List.not_mem_nil, or_false] at he
        rcases he with rfl | rfl | rfl | rfl | rfl | rfl | rfl | rfl | rfl | rfl | rfl
        · exact ⟨by decide +kernel, .str ⟨by decide, by decide⟩⟩
        · exact ⟨by decide +kernel, .str ⟨by decide, by decide⟩⟩
        · exact ⟨by decide +kernel, .str ⟨by decide, by decide⟩⟩
        · exact ⟨by decide +kernel, .str ⟨by decide, by decide⟩⟩
        · exact ⟨by decide +kernel, .str ⟨by decide, by decide⟩⟩
        · exact ⟨by decide +kernel, .str ⟨by decide, by decide⟩⟩
        · exact ⟨by decide +kernel, .str ⟨by decide, by decide⟩⟩
        · exact ⟨rfl, .non⟩
        · exact ⟨rfl, .int _⟩
        · exact ⟨rfl, .tup (by decide) fun d hd => by rw [List.mem_singleton.mp hd]; exact .str ⟨by decide, by decide⟩⟩
        · exact ⟨rfl, .bl _⟩
      · simp only [List.mem_cons, List.not_mem_nil, or_false] at he
        rcases he with rfl | rfl | rfl | rfl
        · exact ⟨by decide +kernel, .str ⟨by decide, by decide⟩⟩
        · exact ⟨by decide +kernel, .str ⟨by decide, by decide⟩⟩
        · exact ⟨by decide +kernel, .str ⟨by decide, by decide⟩⟩
        · exact ⟨by decide +kernel, .str ⟨by decide, by decide⟩⟩
    · obtain ⟨_, _, h⟩ := r5.mem he
      exact h
theorem rd_mulS' {H : Hp} {Q : VK} {z : Str} {n : Nat} (h : MulOk z n) (q : Q (.str (Txt.mul z n)) H) : rMulS (.str z) (.int (n : Int)) H Q := ⟨z, _, rfl, rfl, h, q⟩
theorem ok_law_odd_values (T : Txt K mg) : Cal P w K mg base 1 "_law_odd_values" (sp_odds isVal) [] := by
  refine T.f_law_odd_values.cal sc_law_odd_values bd_law_odd_values (fun vs H Q E h => ?_) fun f cdv A outer s H vs Q E hr h => ?_
  · obtain ⟨rfl, _⟩ := h; rfl
  obtain ⟨rfl, q⟩ := h
  refine ⟨_, (pss_cons (ps_set (i := 0) sc_law_odd_values.nd rfl (Or.inl rfl) (pe_lst (pa_cons pe_str (pa_cons pe_str (pa_cons pe_str (pa_cons pe_str (pa_cons pe_str (pa_cons (pe_op op_mulS pe_str pe_int) (pa_cons (pe_op op_addSt (pe_op op_mulS pe_str pe_int) pe_str) pa_nil)))))))))
      (pss_one (ps_ret (pe_op op_cat (pe_lst (pa_cons pe_non (pa_cons pe_bl (pa_cons (pe_op op_pow pe_int pe_int) (pa_cons (pe_op op_sub pe_int (pe_op op_pow pe_int pe_int)) (pa_cons (pe_tup (pa_cons pe_int pa_nil)) (pa_cons (pe_lst (pa_cons pe_int pa_nil)) (pa_cons pe_str (pa_cons pe_str (pa_cons pe_str (pa_cons pe_str pa_nil))))))))))) (pv 0))))), ?_⟩
  walk_at "k"
  walk_at "rd"
  refine rd_mulS ⟨by decide, fun _ _ => by decide, fun _ _ => by decide⟩ ?_
  walk_at "rd"
  refine rd_mulS ⟨by decide, fun _ _ => by decide, fun _ _ => by decide⟩ ?_
  walk_at "rd"
  refine rd_addSt (by decide) ?_
  walk_at "rd"
  refine rd_newL (M := []) .nil (by walk_at "all") (by simp) fun r1 H1 hr1 e1 _ i1 => ?_
  walk_at "rd"
  refine rd_newT (M := []) .nil (by walk_at "all") (by simp) fun r2 H2 hr2 e2 _ i2 => ?_
  walk_at "rd"
  refine rd_newL (M := []) .nil (by walk_at "all") (by simp) fun r3 H3 hr3 e3 _ i3 => ?_
  walk_at "rd"
  refine rd_newL (M := []) .nil (by walk_at "all") (by simp) fun r4 H4 hr4 e4 _ i4 => ?_
  walk_at "rd"
  have i1' : Is [] H4 (.ref r1) _ := at_is0 e4 (at_is0 e3 (at_is0 e2 i1))
  refine rd_dcat (M := []) .nil i4 i1' (by decide) fun r5 H5 hr5 e5 _ i5 => ?_
  refine q r5 _ H5 (e1.trans (e2.trans (e3.trans (e4.trans e5)))) i5 fun e he => ?_
  rcases List.mem_append.mp he with he | he
  · simp only [List.mem_cons, List.not_mem_nil, or_false] at he
    rcases he with rfl | rfl | rfl | rfl | rfl | rfl | rfl | rfl | rfl | rfl
    · exact ⟨rfl, .non⟩
    · exact ⟨rfl, .bl _⟩
    · exact ⟨by decide +kernel, .int _⟩
    · exact ⟨by decide +kernel, .int _⟩
    · exact ⟨rfl, .tup (by decide) fun d hd => by rw [List.mem_singleton.mp hd]; exact .int _⟩
    · exact ⟨rfl, .lst (by decide) fun d hd => by rw [List.mem_singleton.mp hd]; exact .int _⟩
    · exact ⟨by decide +kernel, .str ⟨by decide, by decide⟩⟩
    · exact ⟨by decide +kernel, .str ⟨by decide, by decide⟩⟩
    · exact ⟨by decide +kernel, .str ⟨by decide, by decide⟩⟩
    · exact ⟨by decide +kernel, .str ⟨by decide, by decide⟩⟩
  · simp only [List.mem_cons, List.not_mem_nil, or_false] at he
    rcases he with rfl | rfl | rfl | rfl | rfl | rfl | rfl
    · exact ⟨by decide +kernel, .str ⟨by decide, by decide⟩⟩
    · exact ⟨by decide +kernel, .str ⟨by decide, by decide⟩⟩
    · exact ⟨by decide +kernel, .str ⟨by decide, by decide⟩⟩
    · exact ⟨by decide +kernel, .str ⟨by decide, by decide⟩⟩
    · exact ⟨by decide +kernel, .str ⟨by decide, by decide⟩⟩
    · exact ⟨by decide +kernel, .str ⟨by decide +kernel, by decide +kernel⟩⟩
    · exact ⟨by decide +kernel, .str ⟨by decide +kernel, by decide +kernel⟩⟩
/-- one part turned -/
def tur (ds : List PyData) (p : Nat) (o : PyData) : List PyData := ds.take p ++ [o] ++ ds.drop (p + 1)
def sp_tur : Sp := fun vs H Q _ => ∃ (M : List Addr) (a : Addr) (p : Nat) (x : V) (ds : List PyData) (o : PyData), vs = [.ref a, .int p, x] ∧ Al M H ∧ Is M H (.ref a) (.tuple ds) ∧ Is M H x o ∧ p < ds.length ∧ ds.length ≤ 12 ∧ ∀ r H', Ext [] H H' → Is M H' (.ref r) (.tuple (tur ds p o)) → Q (.ref r) H'
theorem ok_law_turned (T : Txt K mg) : Cal P w K mg base 1 "_law_turned" sp_tur [] := by
  refine T.f_law_turned.cal sc_law_turned bd_law_turned (fun vs H Q E h => ?_) fun f cdv A outer s H vs Q E hr h => ?_
  · obtain ⟨M, a, p, x, ds, o, rfl, _⟩ := h; rfl
  obtain ⟨M, a, p, x, ds, o, rfl, s0, i, io, hp, hl, q⟩ := h
  refine ⟨_, (pss_one (ps_ret (pe_op (op_catT0 K) (pe_op (op_catT0 K) (pe_slice (sl_tupAK K) (pv 0) po_none (po_some (pv 1))) (pe_tup (pa_cons (pv 2) pa_nil))) (pe_slice (sl_tupAK K) (pv 0) (po_some (pe_op op_add (pv 1) pe_int)) po_none)))), ?_⟩
  walk_at "k"
  walk_at "rd"
  refine rd_tcutA s0 i fun r1 H1 e1 i1 => ?_
  rw [cutD_take] at i1
  walk_at "rd"
  refine rd_newT (M := M) (by walk_at "at") (by walk_at "all") (by simp) fun r2 H2 hr2 e2 _ i2 => ?_
  refine rd_dcatT0 (M := M) (by walk_at "at") (at_is0 e2 i1) i2 (by rw [List.length_take, List.length_singleton]; omega) fun r3 H3 e3 i3 => ?_
  have i3' : Is M H3 (.ref a) (.tuple ds) := by walk_at "at"
  walk_at "rd"
  refine rd_tcutA (by walk_at "at") i3' fun r4 H4 e4 i4 => ?_
  have ep : (p : Int) + 1 = ((p + 1 : Nat) : Int) := by omega
  rw [ep, cutD_drop] at i4
  refine rd_dcatT0 (M := M) (by walk_at "at") (at_is0 e4 i3) i4 (by rw [List.length_append, List.length_take, List.length_singleton, List.length_drop]; omega) fun r5 H5 e5 i5 => ?_
  exact q r5 H5 (e1.trans (e2.trans (e3.trans (e4.trans e5)))) i5
/-- none is a statement, and all may be asked -/
def Non (d : PyData) : Prop := isStm d = false ∧ Gd 4 d ∧ safe d
def sp_ref : Sp := fun vs H Q _ => ∃ (a : Addr) (p : Nat) (b : Addr) (ds es : List PyData), vs = [.ref a, .int p, .ref b] ∧ Is [] H (.ref a) (.tuple ds) ∧ Is [] H (.ref b) (.list es) ∧ p < ds.length ∧ ds.length ≤ 12 ∧ (∀ o ∈ es, Non (.tuple (tur ds p o))) ∧ ∀ H', Ext [] H H' → Q (.bl true) H'
theorem ok_law_refuses (T : Txt K mg) : Cal P w K mg base 5 "_law_refuses" sp_ref [] := by
  refine T.f_law_refuses.cal sc_law_refuses bd_law_refuses (fun vs H Q E h => ?_) fun f cdv A outer s H vs Q E hr h => ?_
  · obtain ⟨a, p, b, ds, es, rfl, _⟩ := h; rfl
  obtain ⟨a, p, b, ds, es, rfl, i, ib, hp, hl, hn, q⟩ := h
  refine ⟨_, (pss_cons (ps_for PassesOwn.never rfl (pi_listK K (pv 2)) (pg_name (i := 3) sc_law_refuses.nd rfl (Or.inl rfl))
      (pss_one (ps_if (pt_not (pt_val (pe_c (ok_law_is T) hr (by decide) rfl (pa_cons (pe_c (ok_is_statement T) hr (by decide) rfl (pa_cons (pe_c (ok_law_turned T) hr (by decide) rfl (pa_cons (pv 0) (pa_cons (pv 1) (pa_cons (pv 3) pa_nil)))) pa_nil)) (pa_cons pe_bl pa_nil))))) (pss_one (ps_ret pe_bl)) pss_nil)))
      (pss_one (ps_ret pe_bl))), ?_⟩
  walk_at "k"
  walk_at "rd"
  have ib' : Is [] H (.ref b) (.list (es.map id)) := by rw [List.map_id]; exact ib
  refine q_dataM (M := []) (L := es) ib' (fun j σ H' => ∃ u, σ = [some (.ref a), some (.int p), some (.ref b), u] ∧ Ext [] H H') ⟨none, rfl, .refl⟩ (fun j σ H' h => by obtain ⟨_, _, e⟩ := h; exact e) ?_ ?_
  · rintro j o v σ H1 ho io ⟨u, rfl, e1⟩
    obtain ⟨n1, n2, n3⟩ := hn o (List.mem_of_getElem? ho)
    have io1 : Is [] H1 v o := io
    have i1 : Is [] H1 (.ref a) (.tuple ds) := at_is0 e1 i
    walk_at "rd"
    refine ⟨[], a, p, v, ds, o, rfl, .nil, i1, io1, hp, hl, fun r H2 e2 i2 => ?_⟩
    walk_at "rd"
    refine ⟨[], 4, .ref r, _, rfl, .nil, i2, n2, by decide, n3, fun b H3 e3 h1 _ => ?_⟩
    have hb : b = false := by
      cases b with
      | false => rfl
      | true => rw [n1] at h1; exact absurd (h1 rfl) Bool.false_ne_true
    subst hb
    walk_at "rd"
    refine ⟨false, false, rfl, ?_⟩
    refine ⟨true, rfl, ?_⟩
    walk_at "rd"
    exact ⟨_, rfl, e1.trans (e2.trans e3)⟩
  · rintro σ H1 ⟨u, rfl, e1⟩
    walk_at "rd"
    exact q _ e1
end
/-! ### good statements, and what is none beside them -/
inductive GoodS : List PyData → Prop
  | c {nm : Str} {ks : List PyData} {c : Int} : isNm (.str nm) = true → SOk 12 nm → (∀ k ∈ ks, k = .str "integer" ∨ k = .str "text") → 1 ≤ ks.length → ks.length ≤ 5 → 1 ≤ c → c ≤ ks.length → GoodS [.str "create", .str nm, .tuple ks, .int c]
  | d {nm : Str} : isNm (.str nm) = true → SOk 12 nm → GoodS [.str "drop", .str nm]
  | i {nm : Str} {rs : List Vl} : isNm (.str nm) = true → SOk 12 nm → (∀ v ∈ rs, isVal (vd v) = true ∧ Sm 40 v) → 1 ≤ rs.length → rs.length ≤ 5 → GoodS [.str "insert", .str nm, .tuple (rs.map vd)]
  | r {a b : Int} : 0 ≤ a → a ≤ 9 → 1 ≤ b → b ≤ 999 → GoodS [.str "replace", .int a, .int b]
theorem ok_word {x : Str} (h : SOk 1000 x) {n : Nat} : Gd n (.str x) := .str h
theorem gd_vd {v : Vl} {n : Nat} (h : Sm 40 v) : Gd n (vd v) := by
  cases v with
  | inl i => exact .int i
  | inr x => exact .str (SOk.mono h (by decide))
theorem badK_int : badK (.str "integer") = false := by simp [badK, PyData.eqv]
theorem badK_text : badK (.str "text") = false := by simp [badK, PyData.eqv]
theorem filtD_nil {p : PyData → Bool} {l : List PyData} (h : ∀ c ∈ l, p c = false) : (l.filter p).isEmpty = true := by
  rw [List.isEmpty_iff, List.filter_eq_nil_iff]
  exact fun c hc => by rw [h c hc]; exact Bool.false_ne_true
theorem filtD_bad {p : PyData → Bool} {l : List PyData} {c : PyData} (h : c ∈ l) (hb : p c = true) : (l.filter p).isEmpty = false := by
  rw [List.isEmpty_eq_false_iff]
  exact fun z => List.filter_eq_nil_iff.mp z c h hb
theorem kinds_ok {ks : List PyData} (h : ∀ k ∈ ks, k = .str "integer" ∨ k = .str "text") : (ks.filter badK).isEmpty = true := filtD_nil fun k hk => by
  rcases h k hk with rfl | rfl
  · exact badK_int
  · exact badK_text
theorem gd_kinds {ks : List PyData} {n : Nat} (h : ∀ k ∈ ks, k = .str "integer" ∨ k = .str "text") : ∀ k ∈ ks, Gd n k := fun k hk => by
  rcases h k hk with rfl | rfl
  · exact .str ⟨by decide, by decide⟩
  · exact .str ⟨by decide, by decide⟩
theorem GoodS.stm {ds : List PyData} (g : GoodS ds) : isStm (.tuple ds) = true := by
  cases g with
  | @c nm ks c h1 h2 h3 h4 h5 h6 h7 =>
    show isCr (.str nm) (.tuple ks) (.int c) = true
    show (isNm (.str nm) && (decide (1 ≤ (ks.length : Int)) && decide ((ks.length : Int) ≤ 5)) && (ks.filter badK).isEmpty && (decide (1 ≤ c) && decide (c ≤ (ks.length : Nat)))) = true
    rw [h1, kinds_ok h3, decide_eq_true (by omega), decide_eq_true (by omega), decide_eq_true h6, decide_eq_true h7]
    rfl
  | d h1 h2 => exact h1
  | @i nm rs h1 h2 h3 h4 h5 =>
    show (isNm (.str nm) && (decide (1 ≤ ((rs.map vd).length : Int)) && decide (((rs.map vd).length : Int) ≤ 5)) && ((rs.map vd).filter fun d => !isVal d).isEmpty) = true
    rw [h1, List.length_map, decide_eq_true (by omega), decide_eq_true (by omega), filtD_nil fun d hd => by
      obtain ⟨v, hv, rfl⟩ := List.mem_map.mp hd
      rw [(h3 v hv).1]
      rfl]
    rfl
  | @r a b h1 h2 h3 h4 =>
    show ((decide (0 ≤ a) && decide (a ≤ 9)) && (decide (1 ≤ b) && decide (b ≤ 999))) = true
    rw [decide_eq_true h1, decide_eq_true h2, decide_eq_true h3, decide_eq_true h4]
    rfl
theorem mem2 {P : PyData → Prop} {a b : PyData} (h1 : P a) (h2 : P b) : ∀ d ∈ [a, b], P d := fun d hd => by
  simp only [List.mem_cons, List.not_mem_nil, or_false] at hd
  rcases hd with rfl | rfl
  · exact h1
  · exact h2
theorem memC {P : PyData → Prop} {a : PyData} {l : List PyData} (h1 : P a) (h2 : ∀ d ∈ l, P d) : ∀ d ∈ a :: l, P d := fun d hd => by
  rcases List.mem_cons.mp hd with rfl | hd
  · exact h1
  · exact h2 d hd
theorem plDL_of {k : Nat} : ∀ {ds : List PyData}, (∀ d ∈ ds, plD d k = true) → plDL ds k = true
  | [], _ => rfl
  | d :: ds, h => by
    simp only [plDL, Bool.and_eq_true]
    exact ⟨h d (List.mem_cons_self ..), plDL_of fun e he => h e (List.mem_cons_of_mem _ he)⟩
theorem plD_str (x : Str) (k : Nat) : plD (.str x) k = true := by simp only [plD]
theorem plD_small {i : Int} (k : Nat) (h1 : -(10 ^ 59) < i) (h2 : i < 10 ^ 59) : plD (.int i) k = true := by
  simp only [plD, decide_eq_true_eq]
  omega
theorem plD_vd {v : Vl} (k : Nat) (h : isVal (vd v) = true) : plD (vd v) k = true := by
  cases v with
  | inr x => exact plD_str x k
  | inl i =>
    have h' : (decide (1 - 10 ^ 30 ≤ i) && decide (i ≤ 10 ^ 30 - 1)) = true := h
    simp only [Bool.and_eq_true, decide_eq_true_eq] at h'
    exact plD_small k (by omega) (by omega)
theorem GoodS.pl {ds : List PyData} (g : GoodS ds) : plD (.tuple ds) 30 = true := by
  cases g with
  | @c nm ks c h1 h2 h3 h4 h5 h6 h7 =>
    have hk : plD (.tuple ks) 29 = true := by
      simp only [plD, Bool.and_eq_true]
      exact ⟨by decide, plDL_of fun k hk => by rcases h3 k hk with rfl | rfl <;> exact plD_str _ _⟩
    have hc : plD (.int c) 29 = true := plD_small _ (by omega) (by omega)
    simp only [plD.eq_1, Bool.and_eq_true]
    exact ⟨by decide, plDL_of (memC (plD_str _ _) (memC (plD_str _ _) (mem2 hk hc)))⟩
  | d h1 h2 =>
    simp only [plD.eq_1, Bool.and_eq_true]
    exact ⟨by decide, plDL_of (mem2 (plD_str _ _) (plD_str _ _))⟩
  | @i nm rs h1 h2 h3 h4 h5 =>
    have hk : plD (.tuple (rs.map vd)) 29 = true := by
      simp only [plD, Bool.and_eq_true]
      exact ⟨by decide, plDL_of fun k hk => by
        obtain ⟨v, hv, rfl⟩ := List.mem_map.mp hk
        exact plD_vd _ (h3 v hv).1⟩
    simp only [plD.eq_1, Bool.and_eq_true]
    exact ⟨by decide, plDL_of (memC (plD_str _ _) (mem2 (plD_str _ _) hk))⟩
  | @r a b h1 h2 h3 h4 =>
    have ha : plD (.int a) 29 = true := plD_small _ (by omega) (by omega)
    have hb : plD (.int b) 29 = true := plD_small _ (by omega) (by omega)
    simp only [plD.eq_1, Bool.and_eq_true]
    exact ⟨by decide, plDL_of (memC (plD_str _ _) (mem2 ha hb))⟩
theorem GoodS.len {ds : List PyData} (g : GoodS ds) : 2 ≤ ds.length ∧ ds.length ≤ 4 := by cases g <;> exact ⟨by simp, by simp⟩
theorem GoodS.all {ds : List PyData} (g : GoodS ds) : ∀ d ∈ ds, Gd 1 d := by
  cases g with
  | @c nm ks c h1 h2 h3 h4 h5 h6 h7 => exact memC (.str ⟨by decide, by decide⟩) (memC (.str (h2.mono (by decide))) (mem2 (.tup (by omega) (gd_kinds h3)) (.int _)))
  | d h1 h2 => exact mem2 (.str ⟨by decide, by decide⟩) (.str (h2.mono (by decide)))
  | @i nm rs h1 h2 h3 h4 h5 =>
    refine memC (.str ⟨by decide, by decide⟩) (mem2 (.str (h2.mono (by decide))) (.tup (by rw [List.length_map]; omega) fun d hd => ?_))
    obtain ⟨v, hv, rfl⟩ := List.mem_map.mp hd
    exact gd_vd (h3 v hv).2
  | @r a b h1 h2 h3 h4 => exact memC (.str ⟨by decide, by decide⟩) (mem2 (.int _) (.int _))
theorem GoodS.gd {ds : List PyData} (g : GoodS ds) : Gd 2 (.tuple ds) := .tup (by have := g.len; omega) g.all
/-- a word of the four -/
def W4 (w : Str) : Prop := w ≠ "delete" ∧ w ≠ "update" ∧ w ≠ "select"
theorem safe4 {w : Str} {ds : List PyData} (h : W4 w) : safe (.tuple (.str w :: ds)) := ⟨fun e => absurd e h.1, fun e => absurd e h.2.1, fun e => absurd e h.2.2⟩
theorem GoodS.head {ds : List PyData} (g : GoodS ds) : ∃ w r, ds = .str w :: r ∧ W4 w := by
  cases g with
  | c => exact ⟨_, _, rfl, by decide, by decide, by decide⟩
  | d => exact ⟨_, _, rfl, by decide, by decide, by decide⟩
  | i => exact ⟨_, _, rfl, by decide, by decide, by decide⟩
  | r => exact ⟨_, _, rfl, by decide, by decide, by decide⟩
theorem GoodS.sf {ds : List PyData} (g : GoodS ds) : safe (.tuple ds) := by
  obtain ⟨w, r, rfl, h⟩ := g.head
  exact safe4 h
/-- nothing begins so -/
theorem stW_bad {w : Str} {ds : List PyData} (h1 : isNm (at' ds 0) = false) (h2 : isCnt 0 9 (at' ds 0) = false) : isStW w ds = false := by
  unfold isStW isCr isIn
  rw [h1, h2]
  simp
theorem gd_app {ds es : List PyData} {n : Nat} (h1 : ∀ d ∈ ds, Gd n d) (h2 : ∀ d ∈ es, Gd n d) (hl : ds.length + es.length ≤ 12) : Gd (n + 1) (.tuple (ds ++ es)) :=
  .tup (by rw [List.length_append]; exact hl) fun d hd => by
    rcases List.mem_append.mp hd with hd | hd
    · exact h1 d hd
    · exact h2 d hd
theorem stm_tail {v : PyData} {ds : List PyData} (h1 : isNm (at' ds 0) = false) (h2 : isCnt 0 9 (at' ds 0) = false) : isStm (.tuple (v :: ds)) = false := by
  cases v with
  | str w => show (decide (1 ≤ ds.length) && isStW w ds) = false; rw [stW_bad h1 h2, Bool.and_false]
  | _ => rfl
theorem GoodS.e1 {ds : List PyData} (g : GoodS ds) : Non (.tuple (ds ++ [.int 1])) := by
  refine ⟨?_, (gd_app g.all (fun d hd => by rw [List.mem_singleton.mp hd]; exact .int _) (by have := g.len; show _ + 1 ≤ _; omega)).up (by decide), ?_⟩
  · cases g with
    | c => rfl
    | d => rfl
    | i => rfl
    | r => rfl
  · obtain ⟨w, r, rfl, h⟩ := g.head
    exact safe4 h
theorem GoodS.e2 {ds : List PyData} (g : GoodS ds) : Non (.tuple ds.dropLast) := by
  refine ⟨?_, (Gd.tup (n := 1) (by rw [List.length_dropLast]; have := g.len; omega) fun d hd => g.all d (List.dropLast_subset _ hd)).up (by decide), ?_⟩
  · cases g with
    | c => rfl
    | d => rfl
    | i => rfl
    | r => rfl
  · have hl := g.len
    obtain ⟨w, r, rfl, h⟩ := g.head
    cases r with
    | nil => simp at hl
    | cons x r => exact safe4 h
theorem GoodS.e3 {ds : List PyData} (g : GoodS ds) : Non (.tuple (ds.take 1)) := by
  obtain ⟨w, r, rfl, h⟩ := g.head
  exact ⟨rfl, (Gd.tup (n := 1) (by simp) fun d hd => g.all d (List.mem_of_mem_take hd)).up (by decide), safe4 h⟩
theorem GoodS.e4 {ds : List PyData} (g : GoodS ds) : Non (.list ds) := ⟨rfl, (Gd.lst (n := 1) (by have := g.len; omega) g.all).up (by decide), trivial⟩
theorem GoodS.e5 {ds : List PyData} (g : GoodS ds) : Non (.tuple [.tuple ds]) := ⟨rfl, (Gd.tup (n := 2) (by simp) fun d hd => by rw [List.mem_singleton.mp hd]; exact g.gd).up (by decide), trivial⟩
theorem GoodS.e6 {ds : List PyData} (g : GoodS ds) : Non (.tuple (ds.drop 1)) := by
  refine ⟨?_, (Gd.tup (n := 1) (by rw [List.length_drop]; have := g.len; omega) fun d hd => g.all d (List.mem_of_mem_drop hd)).up (by decide), ?_⟩
  · cases g with
    | c => exact stm_tail rfl rfl
    | d => rfl
    | i => exact stm_tail rfl rfl
    | r => rfl
  · cases g with
    | c => exact ⟨fun _ _ => rfl, (fun _ h => by cases h), (fun _ h => by cases h)⟩
    | d => exact ⟨(fun _ h => by cases h), (fun _ h => by cases h), (fun _ h => by cases h)⟩
    | i => exact ⟨(fun _ h => by cases h), (fun _ h => by cases h), (fun _ h => by cases h)⟩
    | r => trivial
theorem non_none : Non .none := ⟨rfl, .non, trivial⟩
theorem non_nil : Non (.tuple []) := ⟨rfl, .tup (n := 3) (by simp) (by simp), trivial⟩
def ODD0 : List PyData := [.str "", .str "Drop", .str "drops", .none, .int 0, .tuple [.str "drop"], .str "rows"]
theorem GoodS.e0 {ds : List PyData} (g : GoodS ds) : ∀ o ∈ ODD0, Non (.tuple (tur ds 0 o)) := fun o ho => by
  have ht : tur ds 0 o = o :: ds.drop 1 := rfl
  rw [ht]
  have hg : ∀ d ∈ ds.drop 1, Gd 1 d := fun d hd => g.all d (List.mem_of_mem_drop hd)
  have hl : (ds.drop 1).length ≤ 11 := by rw [List.length_drop]; have := g.len; omega
  have mk : ∀ {o}, Gd 1 o → Gd 4 (.tuple (o :: ds.drop 1)) := fun h => (Gd.tup (n := 1) (by rw [List.length_cons]; omega) (memC h hg)).up (by decide)
  have st : ∀ {w : Str}, w ≠ "create" → w ≠ "drop" → w ≠ "insert" → w ≠ "replace" → isStm (.tuple (.str w :: ds.drop 1)) = false := fun n1 n2 n3 n4 => by
    show (_ && isStW _ _) = false
    unfold isStW
    rw [if_neg n1, if_neg n2, if_neg n3, if_neg n4, Bool.and_false]
  simp only [ODD0, List.mem_cons, List.not_mem_nil, or_false] at ho
  rcases ho with rfl | rfl | rfl | rfl | rfl | rfl | rfl
  · exact ⟨st (by decide) (by decide) (by decide) (by decide), mk (.str ⟨by decide, by decide⟩), safe4 ⟨by decide, by decide, by decide⟩⟩
  · exact ⟨st (by decide) (by decide) (by decide) (by decide), mk (.str ⟨by decide, by decide⟩), safe4 ⟨by decide, by decide, by decide⟩⟩
  · exact ⟨st (by decide) (by decide) (by decide) (by decide), mk (.str ⟨by decide, by decide⟩), safe4 ⟨by decide, by decide, by decide⟩⟩
  · exact ⟨rfl, mk .non, trivial⟩
  · exact ⟨rfl, mk (.int _), trivial⟩
  · exact ⟨rfl, mk (.tup (n := 0) (by simp) fun d hd => by rw [List.mem_singleton.mp hd]; exact .str ⟨by decide, by decide⟩), trivial⟩
  · exact ⟨st (by decide) (by decide) (by decide) (by decide), mk (.str ⟨by decide, by decide⟩), safe4 ⟨by decide, by decide, by decide⟩⟩
def sp_edge : Sp := fun vs H Q _ => ∃ (a : Addr) (ds : List PyData), vs = [.ref a] ∧ Is [] H (.ref a) (.tuple ds) ∧ GoodS ds ∧ ∀ H', Ext [] H H' → Q (.bl true) H'
section
variable {P : Program} {w : World} {K : PySem.W.Frag} {mg : Str → Option Value} {base : Heap}
theorem ok_law_edges (T : Txt K mg) : Cal P w K mg base 6 "_law_edges" sp_edge [] := by
  refine T.f_law_edges.cal sc_law_edges bd_law_edges (fun vs H Q E h => ?_) fun f cdv A outer s H vs Q E hr h => ?_
  · obtain ⟨a, ds, rfl, _⟩ := h; rfl
  obtain ⟨a, ds, rfl, i, g, q⟩ := h
  have hl := g.len
  refine ⟨_, (pss_cons (ps_set (i := 1) sc_law_edges.nd rfl (Or.inl rfl) (pe_lst (pa_cons (pe_op (op_catT0 K) (pv 0) (pe_tup (pa_cons pe_int pa_nil))) (pa_cons (pe_slice (sl_tupAK K) (pv 0) po_none (po_some (pe_un un_neg pe_int))) (pa_cons (pe_slice (sl_tupAK K) (pv 0) po_none (po_some pe_int)) (pa_cons (pe_callTy (call_listK K) (by rfl) T.z_list (by decide +kernel) (pa_cons (pv 0) pa_nil)) (pa_cons (pe_tup (pa_cons (pv 0) pa_nil)) (pa_cons (pe_slice (sl_tupAK K) (pv 0) (po_some pe_int) po_none) (pa_cons pe_non (pa_cons (pe_tup pa_nil) pa_nil))))))))))
      (pss_cons (ps_for PassesOwn.never rfl (pi_listK K (pv 1)) (pg_name (i := 2) sc_law_edges.nd rfl (Or.inl rfl))
      (pss_one (ps_if (pt_not (pt_val (pe_c (ok_law_is T) hr (by decide) rfl (pa_cons (pe_c (ok_is_statement T) hr (by decide) rfl (pa_cons (pv 2) pa_nil)) (pa_cons pe_bl pa_nil))))) (pss_one (ps_ret pe_bl)) pss_nil)))
      (pss_one (ps_ret (pe_c (ok_law_refuses T) hr (by decide) rfl (pa_cons (pv 0) (pa_cons pe_int (pa_cons (pe_lst (pa_cons pe_str (pa_cons pe_str (pa_cons pe_str (pa_cons pe_non (pa_cons pe_int (pa_cons (pe_tup (pa_cons pe_str pa_nil)) (pa_cons pe_str pa_nil)))))))) pa_nil)))))))), ?_⟩
  walk_at "k"
  walk_at "rd"
  refine rd_newT (M := []) .nil (by walk_at "all") (by simp) fun r1 H1 hr1 e1 _ i1 => ?_
  refine rd_dcatT0 (M := []) .nil (at_is0 e1 i) i1 (by show _ + 1 ≤ _; omega) fun r2 H2 e2 i2 => ?_
  walk_at "rd"
  refine rd_tcutA (M := []) .nil (at_is0 e2 (at_is0 e1 i)) fun r3 H3 e3 i3 => ?_
  rw [cutD_last] at i3
  walk_at "rd"
  refine rd_tcutA (M := []) .nil (at_is0 e3 (at_is0 e2 (at_is0 e1 i))) fun r4 H4 e4 i4 => ?_
  rw [show (1 : Int) = ((1 : Nat) : Int) from rfl, cutD_take] at i4
  have iH4 : Is [] H4 (.ref a) (.tuple ds) := by walk_at "at"
  walk_at "rd"
  refine rd_dlistT (M := []) .nil iH4 fun r5 H5 hr5 e5 i5 => ?_
  have iH5 : Is [] H5 (.ref a) (.tuple ds) := by walk_at "at"
  walk_at "rd"
  refine rd_newT (M := []) .nil (by walk_at "all") (by simp) fun r6 H6 hr6 e6 _ i6 => ?_
  have iH6 : Is [] H6 (.ref a) (.tuple ds) := by walk_at "at"
  walk_at "rd"
  refine rd_tcutA (M := []) .nil iH6 fun r7 H7 e7 i7 => ?_
  rw [show (1 : Int) = ((1 : Nat) : Int) from rfl, cutD_drop] at i7
  walk_at "rd"
  refine rd_newT (M := []) .nil (by walk_at "all") (by simp) fun r8 H8 hr8 e8 _ i8 => ?_
  have iH8 : Is [] H8 (.ref a) (.tuple ds) := by walk_at "at"
  walk_at "rd"
  refine rd_newL (M := []) .nil (by walk_at "all") (by simp) fun r9 H9 hr9 e9 _ i9 => ?_
  have e09 : Ext [] H H9 := e1.trans (e2.trans (e3.trans (e4.trans (e5.trans (e6.trans (e7.trans (e8.trans e9)))))))
  have hN : ∀ d ∈ [PyData.tuple (ds ++ [.int 1]), .tuple ds.dropLast, .tuple (ds.take 1), .list ds, .tuple [.tuple ds], .tuple (ds.drop 1), .none, .tuple []], Non d := fun d hd => by
    simp only [List.mem_cons, List.not_mem_nil, or_false] at hd
    rcases hd with rfl | rfl | rfl | rfl | rfl | rfl | rfl | rfl
    · exact g.e1
    · exact g.e2
    · exact g.e3
    · exact g.e4
    · exact g.e5
    · exact g.e6
    · exact non_none
    · exact non_nil
  generalize [PyData.tuple (ds ++ [.int 1]), .tuple ds.dropLast, .tuple (ds.take 1), .list ds, .tuple [.tuple ds], .tuple (ds.drop 1), .none, .tuple []] = es at i9 hN
  have i9' : Is [] H9 (.ref r9) (.list (es.map id)) := by rw [List.map_id]; exact i9
  have iH9 : Is [] H9 (.ref a) (.tuple ds) := by walk_at "at"
  walk_at "rd"
  refine q_dataM (M := []) (L := es) i9' (fun j σ H' => ∃ u, σ = [some (.ref a), some (.ref r9), u] ∧ Ext [] H9 H') ⟨none, rfl, .refl⟩ (fun j σ H' h => by obtain ⟨_, _, e⟩ := h; exact e) ?_ ?_
  · rintro j o v σ H10 ho io ⟨u, rfl, e10⟩
    obtain ⟨n1, n2, n3⟩ := hN o (List.mem_of_getElem? ho)
    have io1 : Is [] H10 v o := io
    walk_at "rd"
    refine ⟨[], 4, v, _, rfl, .nil, io1, n2, by decide, n3, fun b H11 e11 h1 _ => ?_⟩
    have hb : b = false := by
      cases b with
      | false => rfl
      | true => rw [n1] at h1; exact absurd (h1 rfl) Bool.false_ne_true
    subst hb
    walk_at "rd"
    refine ⟨false, false, rfl, ?_⟩
    refine ⟨true, rfl, ?_⟩
    walk_at "rd"
    exact ⟨_, rfl, e10.trans e11⟩
  · rintro σ H10 ⟨u, rfl, e10⟩
    have iH10 : Is [] H10 (.ref a) (.tuple ds) := by walk_at "at"
    walk_at "rd"
    refine rd_newT (M := []) .nil (by walk_at "all") (by simp) fun r11 H11 hr11 e11 _ i11 => ?_
    walk_at "rd"
    refine rd_newL (M := []) .nil (by walk_at "all") (by simp) fun r12 H12 hr12 e12 _ i12 => ?_
    have iH12 : Is [] H12 (.ref a) (.tuple ds) := by walk_at "at"
    walk_at "rd"
    exact ⟨a, 0, r12, ds, ODD0, rfl, iH12, i12, by omega, by omega, g.e0, fun H13 e13 => q _ (e09.trans (e10.trans (e11.trans (e12.trans e13))))⟩
def KND : List Str := ["integer", "text"]
def sp_crt : Sp := fun vs H Q _ => ∃ n m : Nat, vs = [.int n, .int m] ∧ 1 ≤ m ∧ m ≤ 5 ∧ ∀ (r : Addr) (nm : Str) (ks : List PyData) (c : Int) H', isNm (.str nm) = true → SOk 12 nm → (∀ k ∈ ks, k = .str "integer" ∨ k = .str "text") → ks.length = m → 1 ≤ c → c ≤ m → Ext [] H H' → Is [] H' (.ref r) (.tuple [.str "create", .str nm, .tuple ks, .int c]) → Q (.ref r) H'
theorem ok_law_create (T : Txt K mg) : Cal P w K mg base 2 "_law_create" sp_crt [] := by
  refine T.f_law_create.cal sc_law_create bd_law_create (fun vs H Q E h => ?_) fun f cdv A outer s H vs Q E hr h => ?_
  · obtain ⟨n, m, rfl, _⟩ := h; rfl
  obtain ⟨n, m, rfl, h1, h5, q⟩ := h
  refine ⟨_, (pss_cons (ps_set (i := 2) sc_law_create.nd rfl (Or.inl rfl) (pe_callTy (call_tupK K) (by rfl) T.z_tuple (by decide +kernel) (pa_cons (pe_lc (own := [("k", 3)]) (g := gName 3) (tt := tYes) rfl sc_law_create.nd (pi_range1 rfl T.z_range (pa_cons (pv 1) pa_nil)) (blkOk_by (own := [("k", 3)]) (N := nm_law_create) (sc := defScope s_law_create) (by decide +kernel)) (fun _ _ _ _ _ => (pg_name (i := 3) sc_law_create.nd rfl (Or.inl rfl))) (fun _ _ _ _ _ => pts_nil) (fun _ _ _ _ _ => (pe_ix (ix_listK K) (pe_lst (pa_cons pe_str (pa_cons pe_str pa_nil))) (pe_op op_mod (pe_op op_fdiv (pv 0) (pe_op op_add pe_int (pv 3))) pe_int) (fun _ _ => rfl)))) pa_nil)))
      (pss_one (ps_ret (pe_tup (pa_cons pe_str (pa_cons (pe_c (ok_law_name T) hr (by decide) rfl (pa_cons (pv 0) pa_nil)) (pa_cons (pv 2) (pa_cons (pe_op op_add pe_int (pe_op op_mod (pv 0) (pv 1))) pa_nil)))))))), ?_⟩
  walk_at "k"
  walk_at "rd"
  intro D hD
  refine q_lcAR (N := []) (M := []) (fun _ => True) (fun _ e => e = .str "integer" ∨ e = .str "text") (by simp) .nil hD (by omega) (fun _ => rfl) trivial (fun _ _ _ => trivial) (fun i H' hi sD e _ _ R k => ?_) fun H1 es e1 _ r1 i1 => ?_
  · walk_at "rd"
    refine rd_newL (M := []) .nil (by walk_at "all") (by simp) fun r H2 hr2 e2 h2 _ => ?_
    walk_at "rd"
    have h0 : 0 ≤ (n : Int) / (1 + (0 + (i : Int))) := Int.ediv_nonneg (by omega) (by omega)
    refine rd_pickV (P := fun x => x = .str "integer" ∨ x = .str "text") h2 (j := ((n : Int) / (1 + (0 + (i : Int)))).toNat % 2) (by omega) (by simp; omega) (fun x hx => by simpa using hx) ?_
    rintro x (rfl | rfl)
    · exact k _ _ _ e2 trivial (.str _) (.inl rfl)
    · exact k _ _ _ e2 trivial (.str _) (.inr rfl)
  · have hl : es.length = m := by rw [← r1.length, List.length_range]; omega
    walk_at "rd"
    refine rd_dtuple .nil i1 fun r2 H2 hr2 e2 i2 => ?_
    walk_at "rd"
    refine ⟨n, rfl, fun nm l1 l2 low => ?_⟩
    walk_at "rd"
    refine rd_newT (M := []) .nil (by walk_at "all") (by simp) fun r3 H3 hr3 e3 _ i3 => ?_
    refine q r3 nm es _ H3 (low_nm l1 l2 low) (low.ok 12 l2) (fun k hk => ?_) hl ?_ ?_ (e1.trans (e2.trans e3)) i3
    · obtain ⟨_, _, h⟩ := r1.mem hk
      exact h
    · have := Int.emod_nonneg (n : Int) (b := (m : Int)) (by omega)
      omega
    · have := Int.emod_lt_of_pos (n : Int) (b := (m : Int)) (by omega)
      omega
end
theorem gd_tur {ds : List PyData} {p n : Nat} {o : PyData} (h : ∀ d ∈ ds, Gd n d) (ho : Gd n o) (hl : ds.length ≤ 11) : Gd (n + 1) (.tuple (tur ds p o)) := by
  refine .tup ?_ fun d hd => ?_
  · unfold tur
    rw [List.length_append, List.length_append, List.length_take, List.length_drop, List.length_singleton]
    omega
  · unfold tur at hd
    rcases List.mem_append.mp hd with hd | hd
    · rcases List.mem_append.mp hd with hd | hd
      · exact h d (List.mem_of_mem_take hd)
      · rw [List.mem_singleton.mp hd]; exact ho
    · exact h d (List.mem_of_mem_drop hd)
theorem mem_tur {ds : List PyData} {p : Nat} {o : PyData} : o ∈ tur ds p o := by unfold tur; simp
theorem stW_nm {w : Str} {ds : List PyData} (hw : w = "create" ∨ w = "drop" ∨ w = "insert") (h : isNm (at' ds 0) = false) : isStW w ds = false := by
  rcases hw with rfl | rfl | rfl
  · show (decide (ds.length = 3) && (isNm (at' ds 0) && _ && _ && _)) = false
    rw [h]; simp
  · show (decide (ds.length = 1) && isNm (at' ds 0)) = false
    rw [h]; simp
  · show (decide (ds.length = 2) && (isNm (at' ds 0) && _ && _)) = false
    rw [h]; simp
theorem non1 {w : Str} {x o : PyData} {r : List PyData} (hw : w = "create" ∨ w = "drop" ∨ w = "insert") (h : isNm o = false) (ho : Gd 1 o) (g : GoodS (.str w :: x :: r)) : Non (.tuple (tur (.str w :: x :: r) 1 o)) := by
  refine ⟨?_, (gd_tur g.all ho (by have := g.len; omega)).up (by decide), safe4 (ds := o :: r) ?_⟩
  · show (decide (1 ≤ (o :: r).length) && isStW w (o :: r)) = false
    rw [stW_nm (ds := o :: r) hw h, Bool.and_false]
  · rcases hw with rfl | rfl | rfl <;> exact ⟨by decide, by decide, by decide⟩
theorem nonC2 {nm : Str} {ks : List PyData} {c : Int} {o : PyData} (g : GoodS [.str "create", .str nm, .tuple ks, .int c]) (ho : Gd 2 o) (h : (isRow 1 5 o && ((itemsD o).filter badK).isEmpty) = false) : Non (.tuple (tur [.str "create", .str nm, .tuple ks, .int c] 2 o)) := by
  refine ⟨?_, (gd_tur (fun d hd => (g.all d hd).up (by decide)) ho (by simp)).up (by decide), safe4 (ds := [.str nm, o, .int c]) ⟨by decide, by decide, by decide⟩⟩
  show (isNm (.str nm) && isRow 1 5 o && ((itemsD o).filter badK).isEmpty && isCnt 1 (lenD o) (.int c)) = false
  rw [Bool.and_assoc (isNm (.str nm)), h]
  simp
theorem nonC3 {nm : Str} {ks : List PyData} {c : Int} {o : PyData} (g : GoodS [.str "create", .str nm, .tuple ks, .int c]) (ho : Gd 1 o) (h : isCnt 1 ks.length o = false) : Non (.tuple (tur [.str "create", .str nm, .tuple ks, .int c] 3 o)) := by
  refine ⟨?_, (gd_tur g.all ho (by simp)).up (by decide), safe4 (ds := [.str nm, .tuple ks, o]) ⟨by decide, by decide, by decide⟩⟩
  show (isNm (.str nm) && isRow 1 5 (.tuple ks) && (ks.filter badK).isEmpty && isCnt 1 (ks.length : Nat) o) = false
  rw [h, Bool.and_false]
theorem nonI2 {nm : Str} {x o : PyData} (g : GoodS [.str "insert", .str nm, x]) (ho : Gd 2 o) (h : (isRow 1 5 o && ((itemsD o).filter fun d => !isVal d).isEmpty) = false) : Non (.tuple (tur [.str "insert", .str nm, x] 2 o)) := by
  refine ⟨?_, (gd_tur (fun d hd => (g.all d hd).up (by decide)) ho (by simp)).up (by decide), safe4 (ds := [.str nm, o]) ⟨by decide, by decide, by decide⟩⟩
  show (isNm (.str nm) && isRow 1 5 o && ((itemsD o).filter fun d => !isVal d).isEmpty) = false
  rw [Bool.and_assoc, h, Bool.and_false]
theorem nonR1 {a b : Int} {o : PyData} (g : GoodS [.str "replace", .int a, .int b]) (ho : Gd 1 o) (h : isCnt 0 9 o = false) : Non (.tuple (tur [.str "replace", .int a, .int b] 1 o)) := by
  refine ⟨?_, (gd_tur g.all ho (by simp)).up (by decide), safe4 (ds := [o, .int b]) ⟨by decide, by decide, by decide⟩⟩
  show (isCnt 0 9 o && isCnt 1 999 (.int b)) = false
  rw [h, Bool.false_and]
theorem nonR2 {a b : Int} {o : PyData} (g : GoodS [.str "replace", .int a, .int b]) (ho : Gd 1 o) (h : isCnt 1 999 o = false) : Non (.tuple (tur [.str "replace", .int a, .int b] 2 o)) := by
  refine ⟨?_, (gd_tur g.all ho (by simp)).up (by decide), safe4 (ds := [.int a, o]) ⟨by decide, by decide, by decide⟩⟩
  show (isCnt 0 9 (.int a) && isCnt 1 999 o) = false
  rw [h, Bool.and_false]
def ODDK : List PyData := [.str "real", .none, .str "Text", .int 1, .tuple [.str "text"]]
theorem oddK {o : PyData} (h : o ∈ ODDK) : badK o = true ∧ Gd 1 o := by
  simp only [ODDK, List.mem_cons, List.not_mem_nil, or_false] at h
  have ss : ∀ x y : Str, x ≠ y → decide (x = y) = false := fun x y h => decide_eq_false h
  rcases h with rfl | rfl | rfl | rfl | rfl
  · exact ⟨by simp only [badK, List.any_cons, List.any_nil, PyData.eqv]; decide, .str ⟨by decide, by decide⟩⟩
  · exact ⟨by simp only [badK, List.any_cons, List.any_nil, PyData.eqv]; decide, .non⟩
  · exact ⟨by simp only [badK, List.any_cons, List.any_nil, PyData.eqv]; decide, .str ⟨by decide, by decide⟩⟩
  · exact ⟨by simp only [badK, List.any_cons, List.any_nil, PyData.eqv]; decide, .int _⟩
  · exact ⟨by simp only [badK, List.any_cons, List.any_nil, PyData.eqv]; decide, .tup (by simp) fun d hd => by rw [List.mem_singleton.mp hd]; exact .str ⟨by decide, by decide⟩⟩
theorem badT {ks : List PyData} {o : PyData} {p : Nat} (h : badK o = true) : (isRow 1 5 (.tuple (tur ks p o)) && ((itemsD (.tuple (tur ks p o))).filter badK).isEmpty) = false := by
  rw [show itemsD (.tuple (tur ks p o)) = tur ks p o from rfl, filtD_bad mem_tur h, Bool.and_false]
theorem badR {rs : List PyData} {o : PyData} {p : Nat} (h : isVal o = false) : (isRow 1 5 (.tuple (tur rs p o)) && ((itemsD (.tuple (tur rs p o))).filter fun d => !isVal d).isEmpty) = false := by
  rw [show itemsD (.tuple (tur rs p o)) = tur rs p o from rfl, filtD_bad mem_tur (by rw [h]; rfl), Bool.and_false]
theorem row6 {ks : List PyData} {b : Bool} (h : 1 ≤ ks.length) : (isRow 1 5 (.tuple ((List.replicate 6 ks).flatten.take 6)) && b) = false := by
  have e : ((List.replicate 6 ks).flatten.take 6).length = 6 := by
    rw [List.length_take, List.length_flatten, List.map_replicate, List.sum_replicate_nat]
    omega
  show ((decide (1 ≤ (_ : Int)) && decide ((_ : Int) ≤ 5)) && b) = false
  rw [e]
  rfl
theorem gd6 {ks : List PyData} {n : Nat} (h : ∀ d ∈ ks, Gd n d) : Gd (n + 1) (.tuple ((List.replicate 6 ks).flatten.take 6)) := by
  refine .tup (by rw [List.length_take]; omega) fun d hd => ?_
  obtain ⟨l, hl, hd⟩ := List.mem_flatten.mp (List.mem_of_mem_take hd)
  rw [(List.mem_replicate.mp hl).2] at hd
  exact h d hd
def sp_law (K : PySem.W.Frag) : Sp := fun vs H Q _ => ∃ (a : Addr) (ns : List Int), vs = [.ref a] ∧ SqL K H a (ns.map V.int) ∧ ns.length ≤ 63 ∧ Only H ∧ ∀ H', Q (.bl true) H'
section
variable {P : Program} {w : World} {K : PySem.W.Frag} {mg : Str → Option Value} {base : Heap}
theorem law_end {fa : Addr} (T : Txt K mg) (hmg : mg "law" = some (.ref fa)) :
    ∃ fd : FuncData, (∀ (s : Shared) (v : Value), BindsTo s fd ⟨[v], []⟩ [("script", v)]) ∧ ∀ base : Heap, FnOk P w K mg base CX0 7 fa fd ["script"] (sp_law K) := by
  refine T.f_law.law hmg sc_law bd_law (fun vs H Q E h => ?_) fun base f cdv A outer s H vs Q E hr h => ?_
  · obtain ⟨a, ns, rfl, _⟩ := h; rfl
  obtain ⟨a, ns, rfl, hS, hl63, hO, k⟩ := h
  refine ⟨_, (pss_cons (ps_set (i := 1) sc_law.nd rfl (Or.inl rfl) (pe_c (ok_law_draw T) hr (by decide) rfl (pa_cons (pv 0) (pa_cons pe_int pa_nil))))
      (pss_cons (ps_set (i := 2) sc_law.nd rfl (Or.inl rfl) (pe_op op_add pe_int (pe_op op_mod (pe_c (ok_law_draw T) hr (by decide) rfl (pa_cons (pv 0) (pa_cons pe_int pa_nil))) pe_int)))
      (pss_cons (ps_set (i := 3) sc_law.nd rfl (Or.inl rfl) (pe_c (ok_law_create T) hr (by decide) rfl (pa_cons (pv 1) (pa_cons (pv 2) pa_nil))))
      (pss_cons (ps_set (i := 4) sc_law.nd rfl (Or.inl rfl) (pe_callTy (call_tupK K) (by rfl) T.z_tuple (by decide +kernel) (pa_cons (pe_lc (own := [("k", 5)]) (g := gName 5) (tt := tYes) rfl sc_law.nd (pi_range1 rfl T.z_range (pa_cons (pv 2) pa_nil)) (blkOk_by (own := [("k", 5)]) (N := nm_law) (sc := defScope s_law) (by decide +kernel)) (fun _ _ _ _ _ => (pg_name (i := 5) sc_law.nd rfl (Or.inl rfl))) (fun _ _ _ _ _ => pts_nil) (fun _ _ _ _ _ => (pe_c (ok_law_value T) hr (by decide) rfl (pa_cons (pe_c (ok_law_draw T) hr (by decide) rfl (pa_cons (pv 0) (pa_cons (pe_op op_add pe_int (pv 5)) pa_nil))) pa_nil)))) pa_nil)))
      (pss_cons (ps_set (i := 6) sc_law.nd rfl (Or.inl rfl) (pe_tup (pa_cons pe_str (pa_cons (pe_c (ok_law_name T) hr (by decide) rfl (pa_cons (pe_c (ok_law_draw T) hr (by decide) rfl (pa_cons (pv 0) (pa_cons pe_int pa_nil))) pa_nil)) pa_nil))))
      (pss_cons (ps_set (i := 7) sc_law.nd rfl (Or.inl rfl) (pe_tup (pa_cons pe_str (pa_cons (pe_c (ok_law_name T) hr (by decide) rfl (pa_cons (pe_c (ok_law_draw T) hr (by decide) rfl (pa_cons (pv 0) (pa_cons pe_int pa_nil))) pa_nil)) (pa_cons (pv 4) pa_nil)))))
      (pss_cons (ps_set (i := 8) sc_law.nd rfl (Or.inl rfl) (pe_tup (pa_cons pe_str (pa_cons (pe_op op_mod (pe_c (ok_law_draw T) hr (by decide) rfl (pa_cons (pv 0) (pa_cons pe_int pa_nil))) pe_int) (pa_cons (pe_op op_add pe_int (pe_op op_mod (pv 1) pe_int)) pa_nil)))))
      (pss_cons (ps_for PassesOwn.never rfl (pi_listK K (pe_lst (pa_cons (pv 3) (pa_cons (pv 6) (pa_cons (pv 7) (pa_cons (pv 8) (pa_cons (pe_tup (pa_cons pe_str (pa_cons pe_int (pa_cons pe_int pa_nil)))) (pa_cons (pe_tup (pa_cons pe_str (pa_cons pe_int (pa_cons pe_int pa_nil)))) pa_nil)))))))) (pg_name (i := 9) sc_law.nd rfl (Or.inl rfl))
      (pss_one (ps_if (PW.pt (pw_or (pt_not (pt_val (pe_c (ok_law_is T) hr (by decide) rfl (pa_cons (pe_c (ok_is_statement T) hr (by decide) rfl (pa_cons (pv 9) pa_nil)) (pa_cons pe_bl pa_nil))))) (pw_or1 (pt_not (pt_val (pe_c (ok_law_edges T) hr (by decide) rfl (pa_cons (pv 9) pa_nil))))))) (pss_one (ps_ret pe_bl)) pss_nil)))
      (pss_cons (ps_for PassesOwn.never rfl (pi_listK K (pe_lst (pa_cons (pv 3) (pa_cons (pv 6) (pa_cons (pv 7) pa_nil))))) (pg_name (i := 9) sc_law.nd rfl (Or.inl rfl))
      (pss_one (ps_if (pt_not (pt_val (pe_c (ok_law_refuses T) hr (by decide) rfl (pa_cons (pv 9) (pa_cons pe_int (pa_cons (pe_c0 (ok_law_odd_names T) hr (by decide) rfl) pa_nil)))))) (pss_one (ps_ret pe_bl)) pss_nil)))
      (pss_cons (ps_set (i := 10) sc_law.nd rfl (Or.inr rfl) (pe_ix (ix_tupK K) (pv 3) pe_int (fun _ _ => rfl)))
      (pss_cons (ps_set (i := 11) sc_law.nd rfl (Or.inr rfl) (pe_op op_mod (pe_c (ok_law_draw T) hr (by decide) rfl (pa_cons (pv 0) (pa_cons pe_int pa_nil))) (pv 2)))
      (pss_cons (ps_setLc (i := 12) (own := [("odd", 13)]) (g := gName 13) (tt := tYes) rfl sc_law.nd rfl rfl (sw_true rfl rfl rfl (by decide +kernel)) (pi_listK K (pe_lst (pa_cons pe_str (pa_cons pe_non (pa_cons pe_str (pa_cons pe_int (pa_cons (pe_tup (pa_cons pe_str pa_nil)) pa_nil))))))) (blkOk_by (own := [("odd", 13)]) (N := nm_law) (sc := defScope s_law) (by decide +kernel)) (fun _ _ _ _ _ => (pg_name (i := 13) sc_law.nd rfl (Or.inl rfl))) (fun _ _ _ _ _ => pts_nil) (fun _ _ _ _ _ => (pe_op (op_catT0 K) (pe_op (op_catT0 K) (pe_slice (sl_tupAK K) (pv 10) po_none (po_some (pv 11))) (pe_tup (pa_cons (pv 13) pa_nil))) (pe_slice (sl_tupAK K) (pv 10) (po_some (pe_op op_add (pv 11) pe_int)) po_none))))
      (pss_cons (ps_if (pt_not (pt_val (pe_c (ok_law_refuses T) hr (by decide) rfl (pa_cons (pv 3) (pa_cons pe_int (pa_cons (pe_op op_cat (pv 12) (pe_lst (pa_cons (pe_tup pa_nil) (pa_cons (pe_slice (sl_tupAK K) (pe_op op_repT (pv 10) pe_int) po_none (po_some pe_int)) (pa_cons (pe_callTy (call_listK K) (by rfl) T.z_list (by decide +kernel) (pa_cons (pv 10) pa_nil)) (pa_cons pe_str pa_nil)))))) pa_nil)))))) (pss_one (ps_ret pe_bl)) pss_nil)
      (pss_cons (ps_if (pt_not (pt_val (pe_c (ok_law_refuses T) hr (by decide) rfl (pa_cons (pv 3) (pa_cons pe_int (pa_cons (pe_lst (pa_cons pe_int (pa_cons (pe_op op_add (pv 2) pe_int) (pa_cons (pe_un un_neg pe_int) (pa_cons pe_bl (pa_cons pe_str (pa_cons pe_non (pa_cons (pe_tup (pa_cons pe_int pa_nil)) pa_nil)))))))) pa_nil)))))) (pss_one (ps_ret pe_bl)) pss_nil)
      (pss_cons (ps_if (pt_not (pt_val (pe_c (ok_law_refuses T) hr (by decide) rfl (pa_cons (pv 7) (pa_cons pe_int (pa_cons (pe_lst (pa_cons (pe_tup pa_nil) (pa_cons (pe_slice (sl_tupAK K) (pe_op op_repT (pv 4) pe_int) po_none (po_some pe_int)) (pa_cons (pe_callTy (call_listK K) (by rfl) T.z_list (by decide +kernel) (pa_cons (pv 4) pa_nil)) (pa_cons pe_str (pa_cons pe_non pa_nil)))))) pa_nil)))))) (pss_one (ps_ret pe_bl)) pss_nil)
      (pss_cons (ps_set (i := 14) sc_law.nd rfl (Or.inl rfl) (pe_op op_mod (pe_c (ok_law_draw T) hr (by decide) rfl (pa_cons (pv 0) (pa_cons pe_int pa_nil))) (pv 2)))
      (pss_cons (ps_for PassesOwn.never rfl (pi_listK K (pe_c0 (ok_law_odd_values T) hr (by decide) rfl)) (pg_name (i := 13) sc_law.nd rfl (Or.inl rfl))
      (pss_one (ps_if (pt_not (pt_val (pe_c (ok_law_is T) hr (by decide) rfl (pa_cons (pe_c (ok_is_statement T) hr (by decide) rfl (pa_cons (pe_c (ok_law_turned T) hr (by decide) rfl (pa_cons (pv 7) (pa_cons pe_int (pa_cons (pe_c (ok_law_turned T) hr (by decide) rfl (pa_cons (pv 4) (pa_cons (pv 14) (pa_cons (pv 13) pa_nil)))) pa_nil)))) pa_nil)) (pa_cons pe_bl pa_nil))))) (pss_one (ps_ret pe_bl)) pss_nil)))
      (pss_cons (ps_if (pt_not (pt_val (pe_c (ok_law_refuses T) hr (by decide) rfl (pa_cons (pv 8) (pa_cons pe_int (pa_cons (pe_lst (pa_cons (pe_un un_neg pe_int) (pa_cons pe_int (pa_cons pe_bl (pa_cons pe_str (pa_cons pe_non (pa_cons (pe_tup (pa_cons pe_int pa_nil)) pa_nil))))))) pa_nil)))))) (pss_one (ps_ret pe_bl)) pss_nil)
      (pss_one (ps_ret (pe_c (ok_law_refuses T) hr (by decide) rfl (pa_cons (pv 8) (pa_cons pe_int (pa_cons (pe_lst (pa_cons pe_int (pa_cons pe_int (pa_cons (pe_un un_neg pe_int) (pa_cons pe_bl (pa_cons pe_str (pa_cons pe_non pa_nil))))))) pa_nil)))))))))))))))))))))))), ?_⟩
  walk_at "k"
  walk_at "rd"
  refine rd_draw hS hl63 (by decide) fun n hn => ?_
  walk_at "rd"
  refine rd_draw hS hl63 (by decide) fun n1 hn1 => ?_
  walk_at "rd"
  have ec : (1 : Int) + (n1 : Int) % 5 = ((1 + n1 % 5 : Nat) : Int) := by omega
  rw [ec]
  obtain ⟨m, hm⟩ : ∃ m, m = 1 + n1 % 5 := ⟨_, rfl⟩
  rw [← hm]
  have m1 : 1 ≤ m := by omega
  have m5 : m ≤ 5 := by omega
  clear hm ec
  refine ⟨n, m, rfl, m1, m5, fun rc nm ks c H1 hnm onm hks hkl hc1 hc2 e1 iC => ?_⟩
  have gC : GoodS [.str "create", .str nm, .tuple ks, .int c] := .c hnm onm hks (by omega) (by omega) hc1 (by omega)
  walk_at "rd"
  intro D hD
  refine q_lcAR (N := []) (M := []) (fun _ => True) (fun _ e => ∃ x : Vl, e = vd x ∧ isVal (vd x) = true ∧ Sm 40 x) (by simp) .nil hD (by omega) (fun _ => rfl) trivial (fun _ _ _ => trivial) (fun i H' hi sD e _ _ R kk => ?_) fun H2 es e2 _ r2 i2 => ?_
  · walk_at "rd"
    refine rd_draw (sql_e hS (e1.trans e)) hl63 (by omega) fun n2 hn2 => ?_
    walk_at "rd"
    exact ⟨n2, rfl, hn2, fun x H'' e' h1 h2 => kk _ _ _ e' trivial (is_vd x) ⟨x, rfl, h1, h2⟩⟩
  obtain ⟨rs, rfl, rrc⟩ := r2.pick
  have hrl : rs.length = m := by rw [← rrc.length, List.length_range]; omega
  have hrs : ∀ v ∈ rs, isVal (vd v) = true ∧ Sm 40 v := fun v hv => by obtain ⟨_, _, h⟩ := rrc.mem hv; exact h
  clear rrc r2
  walk_at "rd"
  refine rd_dtuple .nil i2 fun rr H3 hr3 e3 iR0 => ?_
  have iC3 : Is [] H3 (.ref rc) (.tuple [.str "create", .str nm, .tuple ks, .int c]) := by walk_at "at"
  have e03 : Ext [] H H3 := e1.trans (e2.trans e3)
  walk_at "rd"
  refine rd_draw (sql_e hS e03) hl63 (by decide) fun n4 hn4 => ?_
  walk_at "rd"
  refine ⟨n4, rfl, fun nmD d1 d2 d3 => ?_⟩
  have gD : GoodS [.str "drop", .str nmD] := .d (low_nm d1 d2 d3) (d3.ok 12 d2)
  walk_at "rd"
  refine rd_newT (M := []) .nil (by walk_at "all") (by simp) fun rD H4 hr4 e4 _ iD => ?_
  walk_at "rd"
  refine rd_draw (sql_e hS (e03.trans e4)) hl63 (by decide) fun n5 hn5 => ?_
  walk_at "rd"
  refine ⟨n5, rfl, fun nmI d1 d2 d3 => ?_⟩
  have gI : GoodS [.str "insert", .str nmI, .tuple (rs.map vd)] := .i (low_nm d1 d2 d3) (d3.ok 12 d2) hrs (by omega) (by omega)
  walk_at "rd"
  refine rd_newT (M := []) .nil (by walk_at "all") (by simp) fun rI H5 hr5 e5 _ iI => ?_
  walk_at "rd"
  refine rd_draw (sql_e hS (e03.trans (e4.trans e5))) hl63 (by decide) fun n6 hn6 => ?_
  walk_at "rd"
  have gR : GoodS [.str "replace", .int ((n6 : Int) % 10), .int (1 + (n : Int) % 999)] := .r (by omega) (by omega) (by omega) (by omega)
  refine rd_newT (M := []) .nil (by walk_at "all") (by simp) fun rp H6 hr6 e6 _ iP => ?_
  have iC6 : Is [] H6 (.ref rc) (.tuple [.str "create", .str nm, .tuple ks, .int c]) := by walk_at "at"
  have iD6 : Is [] H6 (.ref rD) (.tuple [.str "drop", .str nmD]) := by walk_at "at"
  have iI6 : Is [] H6 (.ref rI) (.tuple [.str "insert", .str nmI, .tuple (rs.map vd)]) := by walk_at "at"
  have iR6 : Is [] H6 (.ref rr) (.tuple (rs.map vd)) := by walk_at "at"
  have e06 : Ext [] H H6 := e03.trans (e4.trans (e5.trans e6))
  clear iC iC3 iD iI iR0 e1 e2 e3 e4 e5 e6 e03 d1 d2 d3 i2
  walk_at "rd"
  have gR1 : GoodS [.str "replace", .int 0, .int 999] := .r (by decide) (by decide) (by decide) (by decide)
  have gR2 : GoodS [.str "replace", .int 9, .int 1] := .r (by decide) (by decide) (by decide) (by decide)
  refine rd_newT (M := []) .nil (by walk_at "all") (by simp) fun rq H7 hr7 e7 _ iQ => ?_
  walk_at "rd"
  refine rd_newT (M := []) .nil (by walk_at "all") (by simp) fun rs8 H8 hr8 e8 _ iS => ?_
  walk_at "rd"
  refine rd_newL (M := []) .nil (by walk_at "all") (by simp) fun rl H9 hr9 e9 _ iL => ?_
  have iC9 : Is [] H9 (.ref rc) (.tuple [.str "create", .str nm, .tuple ks, .int c]) := by walk_at "at"
  have iD9 : Is [] H9 (.ref rD) (.tuple [.str "drop", .str nmD]) := by walk_at "at"
  have iI9 : Is [] H9 (.ref rI) (.tuple [.str "insert", .str nmI, .tuple (rs.map vd)]) := by walk_at "at"
  have iR9 : Is [] H9 (.ref rr) (.tuple (rs.map vd)) := by walk_at "at"
  have iP9 : Is [] H9 (.ref rp) (.tuple [.str "replace", .int ((n6 : Int) % 10), .int (1 + (n : Int) % 999)]) := by walk_at "at"
  have e09 : Ext [] H H9 := e06.trans (e7.trans (e8.trans e9))
  clear iC6 iD6 iI6 iR6 iP iQ iS e06 e7 e8 e9
  have hG : ∀ d ∈ [[PyData.str "create", .str nm, .tuple ks, .int c], [.str "drop", .str nmD], [.str "insert", .str nmI, .tuple (rs.map vd)], [.str "replace", .int ((n6 : Int) % 10), .int (1 + (n : Int) % 999)], [.str "replace", .int 0, .int 999], [.str "replace", .int 9, .int 1]], GoodS d := fun d hd => by
    simp only [List.mem_cons, List.not_mem_nil, or_false] at hd
    rcases hd with rfl | rfl | rfl | rfl | rfl | rfl
    · exact gC
    · exact gD
    · exact gI
    · exact gR
    · exact gR1
    · exact gR2
  have iL' : Is [] H9 (.ref rl) (.list ([[PyData.str "create", .str nm, .tuple ks, .int c], [.str "drop", .str nmD], [.str "insert", .str nmI, .tuple (rs.map vd)], [.str "replace", .int ((n6 : Int) % 10), .int (1 + (n : Int) % 999)], [.str "replace", .int 0, .int 999], [.str "replace", .int 9, .int 1]].map PyData.tuple)) := iL
  generalize [[PyData.str "create", .str nm, .tuple ks, .int c], [.str "drop", .str nmD], [.str "insert", .str nmI, .tuple (rs.map vd)], [.str "replace", .int ((n6 : Int) % 10), .int (1 + (n : Int) % 999)], [.str "replace", .int 0, .int 999], [.str "replace", .int 9, .int 1]] = LG at iL' hG
  walk_at "rd"
  refine q_dataM (M := []) (L := LG) iL' (fun j σ H' => ∃ u9, σ = [some (.ref a), some (.int n), some (.int m), some (.ref rc), some (.ref rr), none, some (.ref rD), some (.ref rI), some (.ref rp), u9, none, none, none, none, none] ∧ Ext [] H9 H') ⟨_, rfl, .refl⟩ (fun j σ H' h => by obtain ⟨_, _, e⟩ := h; exact e) ?_ ?_
  · rintro j ds v σ H10 hd id ⟨u9, rfl, e10⟩
    have g := hG ds (List.mem_of_getElem? hd)
    obtain ⟨pd, zs, rfl, _⟩ := id.tupleV
    walk_at "rd"
    refine ⟨[], 2, .ref pd, _, rfl, .nil, id, g.gd, by decide, g.sf, fun b H11 e11 _ h2 => ?_⟩
    have hb : b = true := h2 g.pl g.stm
    subst hb
    walk_at "rd"
    refine ⟨true, true, rfl, ?_⟩
    refine ⟨true, rfl, ?_⟩
    walk_at "rd"
    refine ⟨pd, ds, rfl, at_is0 e11 id, g, fun H12 e12 => ?_⟩
    walk_at "rd"
    exact ⟨_, rfl, e10.trans (e11.trans e12)⟩
  rintro σ H20 ⟨u9, rfl, e20⟩
  have iC20 : Is [] H20 (.ref rc) (.tuple [.str "create", .str nm, .tuple ks, .int c]) := at_is0 e20 iC9
  have iD20 : Is [] H20 (.ref rD) (.tuple [.str "drop", .str nmD]) := at_is0 e20 iD9
  have iI20 : Is [] H20 (.ref rI) (.tuple [.str "insert", .str nmI, .tuple (rs.map vd)]) := at_is0 e20 iI9
  have iR20 : Is [] H20 (.ref rr) (.tuple (rs.map vd)) := at_is0 e20 iR9
  have iP20 : Is [] H20 (.ref rp) (.tuple [.str "replace", .int ((n6 : Int) % 10), .int (1 + (n : Int) % 999)]) := at_is0 e20 iP9
  have e020 : Ext [] H H20 := e09.trans e20
  clear iC9 iD9 iI9 iR9 iP9 iL iL' hG e09 e20
  walk_at "rd"
  refine rd_newL (M := []) .nil (by walk_at "all") (by simp) fun rl2 H21 hr21 e21 _ iL => ?_
  have hG : ∀ d ∈ [[PyData.str "create", .str nm, .tuple ks, .int c], [.str "drop", .str nmD], [.str "insert", .str nmI, .tuple (rs.map vd)]], ∃ w x r, d = .str w :: x :: r ∧ (w = "create" ∨ w = "drop" ∨ w = "insert") ∧ GoodS d := fun d hd => by
    simp only [List.mem_cons, List.not_mem_nil, or_false] at hd
    rcases hd with rfl | rfl | rfl
    · exact ⟨_, _, _, rfl, .inl rfl, gC⟩
    · exact ⟨_, _, _, rfl, .inr (.inl rfl), gD⟩
    · exact ⟨_, _, _, rfl, .inr (.inr rfl), gI⟩
  have iL' : Is [] H21 (.ref rl2) (.list ([[PyData.str "create", .str nm, .tuple ks, .int c], [.str "drop", .str nmD], [.str "insert", .str nmI, .tuple (rs.map vd)]].map PyData.tuple)) := iL
  generalize [[PyData.str "create", .str nm, .tuple ks, .int c], [.str "drop", .str nmD], [.str "insert", .str nmI, .tuple (rs.map vd)]] = LG2 at iL' hG
  walk_at "rd"
  refine q_dataM (M := []) (L := LG2) iL' (fun j σ H' => ∃ u9, σ = [some (.ref a), some (.int n), some (.int m), some (.ref rc), some (.ref rr), none, some (.ref rD), some (.ref rI), some (.ref rp), u9, none, none, none, none, none] ∧ Ext [] H21 H') ⟨_, rfl, .refl⟩ (fun j σ H' h => by obtain ⟨_, _, e⟩ := h; exact e) ?_ ?_
  · rintro j ds v σ H22 hd id ⟨u9, rfl, e22⟩
    obtain ⟨w, x, r, rfl, hw, g⟩ := hG ds (List.mem_of_getElem? hd)
    obtain ⟨pd, zs, rfl, _⟩ := id.tupleV
    walk_at "rd"
    refine ⟨rfl, fun ro es H23 e23 i23 hes => ?_⟩
    walk_at "rd"
    refine ⟨pd, 1, ro, _, es, rfl, at_is0 e23 id, i23, by have := g.len; omega, by have := g.len; omega, fun o ho => non1 hw (hes o ho).1 (hes o ho).2 g, fun H24 e24 => ?_⟩
    walk_at "rd"
    exact ⟨_, rfl, e22.trans (e23.trans e24)⟩
  rintro σ H30 ⟨u9b, rfl, e30⟩
  have e2130 := e21.trans e30
  have iC30 : Is [] H30 (.ref rc) (.tuple [.str "create", .str nm, .tuple ks, .int c]) := at_is0 e2130 iC20
  have iI30 : Is [] H30 (.ref rI) (.tuple [.str "insert", .str nmI, .tuple (rs.map vd)]) := at_is0 e2130 iI20
  have iR30 : Is [] H30 (.ref rr) (.tuple (rs.map vd)) := at_is0 e2130 iR20
  have iP30 : Is [] H30 (.ref rp) (.tuple [.str "replace", .int ((n6 : Int) % 10), .int (1 + (n : Int) % 999)]) := at_is0 e2130 iP20
  have e030 : Ext [] H H30 := e020.trans e2130
  clear iC20 iD20 iI20 iR20 iP20 iL iL' hG e020 e21 e30 e2130
  walk_at "rd"
  refine rd_dixT iC30 (j := 2) rfl rfl fun vk ik30 => ?_
  obtain ⟨pk, zs, rfl, _⟩ := ik30.tupleV
  walk_at "rd"
  refine rd_draw (sql_e hS e030) hl63 (by decide) fun n11 hn11 => ?_
  walk_at "rd"
  have eo : (n11 : Int) % (m : Int) = ((n11 % m : Nat) : Int) := rfl
  rw [eo]
  have ho : n11 % m < m := Nat.mod_lt _ (by omega)
  generalize n11 % m = oth at ho ⊢
  clear eo
  refine rd_newT (M := []) .nil (by walk_at "all") (by simp) fun r31 H31 hr31 e31 _ i31 => ?_
  walk_at "rd"
  refine rd_newL (M := []) .nil (by walk_at "all") (by simp) fun r32 H32 hr32 e32 _ i32 => ?_
  have i32' : Is [] H32 (.ref r32) (.list (ODDK.map id)) := i32
  have ik32 : Is [] H32 (.ref pk) (.tuple ks) := by walk_at "at"
  walk_at "rd"
  intro D33 hD33
  refine q_lcM (M := []) (g := id) (L := ODDK) (fun o => .tuple (tur ks oth o)) .nil hD33 i32' (by decide) (fun _ => rfl) (fun x o H' ho' sD e ix R kk => ?_) fun H33 e33 i33 => ?_
  · have ik' : Is [D33] H' (.ref pk) (.tuple ks) := (ik32.off hD33).mono e.any
    have io' : Is [D33] H' x o := ix
    walk_at "rd"
    refine rd_tcutA sD ik' fun r1 H1 e1 i1 => ?_
    rw [cutD_take] at i1
    walk_at "rd"
    refine rd_newT (M := [D33]) (sD.ext e1) (by walk_at "all") (by simp) fun r2 H2 hr2 e2 _ i2 => ?_
    refine rd_dcatT0 (M := [D33]) ((sD.ext e1).ext e2) (at_is0 e2 i1) i2 (by rw [List.length_take, List.length_singleton]; omega) fun r3 H3 e3 i3 => ?_
    have ik3 : Is [D33] H3 (.ref pk) (.tuple ks) := by walk_at "at"
    walk_at "rd"
    refine rd_tcutA (((sD.ext e1).ext e2).ext e3) ik3 fun r4 H4 e4 i4 => ?_
    have ep : (oth : Int) + 1 = ((oth + 1 : Nat) : Int) := by omega
    rw [ep, cutD_drop] at i4
    refine rd_dcatT0 (M := [D33]) ((((sD.ext e1).ext e2).ext e3).ext e4) (at_is0 e4 i3) i4 (by rw [List.length_append, List.length_take, List.length_singleton, List.length_drop]; omega) fun r5 H5 e5 i5 => ?_
    exact kk _ _ (e1.trans (e2.trans (e3.trans (e4.trans e5)))) i5
  have ik33 : Is [] H33 (.ref pk) (.tuple ks) := by walk_at "at"
  walk_at "rd"
  refine rd_newT (M := []) .nil (by walk_at "all") (by simp) fun r34 H34 hr34 e34 _ i34 => ?_
  have ik34 : Is [] H34 (.ref pk) (.tuple ks) := by walk_at "at"
  walk_at "rd"
  refine rd_trep (M := []) .nil ik34 (fun z => by rw [z] at hkl; simp at hkl; omega) (by decide) (by decide) (by omega) fun r35 H35 e35 i35 => ?_
  walk_at "rd"
  refine rd_tcutA (M := []) .nil i35 fun r36 H36 e36 i36 => ?_
  rw [show (6 : Int) = ((6 : Nat) : Int) from rfl, cutD_take] at i36
  have ik36 : Is [] H36 (.ref pk) (.tuple ks) := by walk_at "at"
  walk_at "rd"
  refine rd_dlistT (M := []) .nil ik36 fun r37 H37 hr37 e37 i37 => ?_
  walk_at "rd"
  refine rd_newL (M := []) .nil (by walk_at "all") (by simp) fun r38 H38 hr38 e38 _ i38 => ?_
  have i33' : Is [] H38 (.ref D33) (.list (ODDK.map fun o => .tuple (tur ks oth o))) := by walk_at "at"
  refine rd_dcat (M := []) .nil i33' i38 (by simp [ODDK]) fun r39 H39 hr39 e39 _ i39 => ?_
  have e3039 : Ext [] H30 H39 := e31.trans (e32.trans (e33.trans (e34.trans (e35.trans (e36.trans (e37.trans (e38.trans e39)))))))
  have iC39 := at_is0 e3039 iC30
  walk_at "rd"
  refine ⟨rc, 2, r39, _, _, rfl, iC39, i39, by simp, by simp, fun o ho => ?_, fun H40 e40 => ?_⟩
  · rcases List.mem_append.mp ho with ho | ho
    · obtain ⟨o', ho', rfl⟩ := List.mem_map.mp ho
      exact nonC2 gC (gd_tur (gd_kinds hks) (oddK ho').2 (by omega)) (badT (oddK ho').1)
    · simp only [List.mem_cons, List.not_mem_nil, or_false] at ho
      rcases ho with rfl | rfl | rfl | rfl
      · exact nonC2 gC (.tup (by simp) (by simp)) rfl
      · exact nonC2 gC (gd6 (gd_kinds hks)) (row6 (by omega))
      · exact nonC2 gC (.lst (by omega) (gd_kinds hks)) rfl
      · exact nonC2 gC (.str ⟨by decide, by decide⟩) rfl
  have e3040 := e3039.trans e40
  have iC40 := at_is0 e3040 iC30
  have iI40 := at_is0 e3040 iI30
  have iR40 := at_is0 e3040 iR30
  have iP40 := at_is0 e3040 iP30
  have e040 := e030.trans e3040
  clear iC30 iI30 iR30 iP30 iC39 e3039 e3040 e030 e40 i39 i38 i33' i37 ik36 i36 i35 ik34 i34 ik33 i33 ik32 i32 i32' i31 ik30 e31 e32 e33 e34 e35 e36 e37 e38 e39
  walk_at "rd"
  refine rd_newT (M := []) .nil (by walk_at "all") (by simp) fun r41 H41 hr41 e41 _ i41 => ?_
  walk_at "rd"
  refine rd_newL (M := []) .nil (by walk_at "all") (by simp) fun r42 H42 hr42 e42 _ i42 => ?_
  have iC42 : Is [] H42 (.ref rc) (.tuple [.str "create", .str nm, .tuple ks, .int c]) := by walk_at "at"
  walk_at "rd"
  refine ⟨rc, 3, r42, _, _, rfl, iC42, i42, by simp, by simp, fun o ho => ?_, fun H43 e43 => ?_⟩
  · simp only [List.mem_cons, List.not_mem_nil, or_false] at ho
    rcases ho with rfl | rfl | rfl | rfl | rfl | rfl | rfl
    · exact nonC3 gC (.int _) (by rw [isCnt_int, decide_eq_false (by decide), Bool.false_and])
    · exact nonC3 gC (.int _) (by rw [isCnt_int, decide_eq_false (show ¬ (m : Int) + 1 ≤ (ks.length : Int) by omega), Bool.and_false])
    · exact nonC3 gC (.int _) (by rw [isCnt_int, decide_eq_false (by decide), Bool.false_and])
    · exact nonC3 gC (.bl _) rfl
    · exact nonC3 gC (.str ⟨by decide, by decide⟩) rfl
    · exact nonC3 gC .non rfl
    · exact nonC3 gC (.tup (by simp) fun d hd => by rw [List.mem_singleton.mp hd]; exact .int _) rfl
  have e4043 : Ext [] H40 H43 := e41.trans (e42.trans e43)
  have iI43 := at_is0 e4043 iI40
  have iR43 := at_is0 e4043 iR40
  have iP43 := at_is0 e4043 iP40
  have e043 := e040.trans e4043
  clear iC40 iI40 iR40 iP40 e040 e4043 e41 e42 e43 i41 i42 iC42
  walk_at "rd"
  have hvd : ∀ d ∈ rs.map vd, Gd 1 d := fun d hd => by
    obtain ⟨v, hv, rfl⟩ := List.mem_map.mp hd
    exact gd_vd (hrs v hv).2
  have hrl' : (rs.map vd).length = m := by rw [List.length_map]; exact hrl
  refine rd_newT (M := []) .nil (by walk_at "all") (by simp) fun r44 H44 hr44 e44 _ i44 => ?_
  have iR44 : Is [] H44 (.ref rr) (.tuple (rs.map vd)) := by walk_at "at"
  walk_at "rd"
  refine rd_trep (M := []) .nil iR44 (fun z => by rw [z] at hrl'; simp at hrl'; omega) (by decide) (by decide) (by omega) fun r45 H45 e45 i45 => ?_
  walk_at "rd"
  refine rd_tcutA (M := []) .nil i45 fun r46 H46 e46 i46 => ?_
  rw [show (6 : Int) = ((6 : Nat) : Int) from rfl, cutD_take] at i46
  have iR46 : Is [] H46 (.ref rr) (.tuple (rs.map vd)) := by walk_at "at"
  walk_at "rd"
  refine rd_dlistT (M := []) .nil iR46 fun r47 H47 hr47 e47 i47 => ?_
  walk_at "rd"
  refine rd_newL (M := []) .nil (by walk_at "all") (by simp) fun r48 H48 hr48 e48 _ i48 => ?_
  have e4348 : Ext [] H43 H48 := e44.trans (e45.trans (e46.trans (e47.trans e48)))
  have iI48 := at_is0 e4348 iI43
  walk_at "rd"
  refine ⟨rI, 2, r48, _, _, rfl, iI48, i48, by simp, by simp, fun o ho => ?_, fun H49 e49 => ?_⟩
  · simp only [List.mem_cons, List.not_mem_nil, or_false] at ho
    rcases ho with rfl | rfl | rfl | rfl | rfl
    · exact nonI2 gI (.tup (by simp) (by simp)) rfl
    · exact nonI2 gI (gd6 hvd) (row6 (by omega))
    · exact nonI2 gI (.lst (by omega) hvd) rfl
    · exact nonI2 gI (.str ⟨by decide, by decide⟩) rfl
    · exact nonI2 gI .non rfl
  have e4349 := e4348.trans e49
  have iI49 := at_is0 e4349 iI43
  have iR49 := at_is0 e4349 iR43
  have iP49 := at_is0 e4349 iP43
  have e049 := e043.trans e4349
  clear iI43 iR43 iP43 e043 e4348 e4349 e44 e45 e46 e47 e48 e49 i44 i45 i46 i47 i48 iR44 iR46 iI48
  walk_at "rd"
  refine rd_draw (sql_e hS e049) hl63 (by decide) fun n12 hn12 => ?_
  walk_at "rd"
  have eo : (n12 : Int) % (m : Int) = ((n12 % m : Nat) : Int) := rfl
  rw [eo]
  have hpl : n12 % m < m := Nat.mod_lt _ (by omega)
  generalize n12 % m = pl at hpl ⊢
  clear eo
  refine ⟨rfl, fun ro es H50 e50 i50 hes => ?_⟩
  have iI50 := at_is0 e50 iI49
  have iR50 := at_is0 e50 iR49
  have iP50 := at_is0 e50 iP49
  have e050 := e049.trans e50
  clear iI49 iR49 iP49 e049 e50
  have i50' : Is [] H50 (.ref ro) (.list (es.map id)) := by rw [List.map_id]; exact i50
  walk_at "rd"
  refine q_dataM (M := []) (L := es) i50' (fun j σ H' => ∃ u13, σ = [some (.ref a), some (.int n), some (.int m), some (.ref rc), some (.ref rr), none, some (.ref rD), some (.ref rI), some (.ref rp), u9b, some (.ref pk), some (.int oth), some (.ref D33), u13, some (.int pl)] ∧ Ext [] H50 H') ⟨_, rfl, .refl⟩ (fun j σ H' h => by obtain ⟨_, _, e⟩ := h; exact e) ?_ ?_
  · rintro j o v σ H51 ho' io ⟨u13, rfl, e51⟩
    obtain ⟨ho1, ho2⟩ := hes o (List.mem_of_getElem? ho')
    have io' : Is [] H51 v o := io
    have iR51 := at_is0 e51 iR50
    have iI51 := at_is0 e51 iI50
    walk_at "rd"
    refine ⟨[], rr, pl, v, _, o, rfl, .nil, iR51, io', by omega, by omega, fun r52 H52 e52 i52 => ?_⟩
    walk_at "rd"
    refine ⟨[], rI, 2, .ref r52, _, _, rfl, .nil, at_is0 e52 iI51, i52, by simp, by simp, fun r53 H53 e53 i53 => ?_⟩
    walk_at "rd"
    obtain ⟨n1', n2', n3'⟩ := nonI2 gI (gd_tur (p := pl) hvd ho2 (by omega)) (badR ho1)
    refine ⟨[], 4, .ref r53, _, rfl, .nil, i53, n2', by decide, n3', fun b H54 e54 h1 _ => ?_⟩
    have hb : b = false := by
      cases b with
      | false => rfl
      | true => rw [n1'] at h1; exact absurd (h1 rfl) Bool.false_ne_true
    subst hb
    walk_at "rd"
    refine ⟨false, false, rfl, ?_⟩
    refine ⟨true, rfl, ?_⟩
    walk_at "rd"
    exact ⟨_, rfl, e51.trans (e52.trans (e53.trans e54))⟩
  rintro σ H60 ⟨u13, rfl, e60⟩
  have iP60 := at_is0 e60 iP50
  clear iI50 iR50 iP50 i50 i50'
  walk_at "rd"
  refine rd_newT (M := []) .nil (by walk_at "all") (by simp) fun r61 H61 hr61 e61 _ i61 => ?_
  walk_at "rd"
  refine rd_newL (M := []) .nil (by walk_at "all") (by simp) fun r62 H62 hr62 e62 _ i62 => ?_
  have iP62 := at_is0 (e61.trans e62) iP60
  walk_at "rd"
  refine ⟨rp, 1, r62, _, _, rfl, iP62, i62, by simp, by simp, fun o ho => ?_, fun H63 e63 => ?_⟩
  · simp only [List.mem_cons, List.not_mem_nil, or_false] at ho
    rcases ho with rfl | rfl | rfl | rfl | rfl | rfl
    · exact nonR1 gR (.int _) (by decide)
    · exact nonR1 gR (.int _) (by decide)
    · exact nonR1 gR (.bl _) rfl
    · exact nonR1 gR (.str ⟨by decide, by decide⟩) rfl
    · exact nonR1 gR .non rfl
    · exact nonR1 gR (.tup (by simp) fun d hd => by rw [List.mem_singleton.mp hd]; exact .int _) rfl
  have iP63 := at_is0 e63 iP62
  walk_at "rd"
  refine rd_newL (M := []) .nil (by walk_at "all") (by simp) fun r64 H64 hr64 e64 _ i64 => ?_
  have iP64 := at_is0 e64 iP63
  walk_at "rd"
  refine ⟨rp, 2, r64, _, _, rfl, iP64, i64, by simp, by simp, fun o ho => ?_, fun H65 e65 => ?_⟩
  · simp only [List.mem_cons, List.not_mem_nil, or_false] at ho
    rcases ho with rfl | rfl | rfl | rfl | rfl | rfl
    · exact nonR2 gR (.int _) (by decide)
    · exact nonR2 gR (.int _) (by decide)
    · exact nonR2 gR (.int _) (by decide)
    · exact nonR2 gR (.bl _) rfl
    · exact nonR2 gR (.str ⟨by decide, by decide⟩) rfl
    · exact nonR2 gR .non rfl
  exact k _
end
def d_is_within : He.DefD := ⟨("is_within", none), "is_within", "is_within", defArgs s_is_within, defBody s_is_within, defScope s_is_within, [], []⟩
def d_is_plain : He.DefD := ⟨("is_plain", none), "is_plain", "is_plain", defArgs s_is_plain, defBody s_is_plain, defScope s_is_plain, [], []⟩
def d_is_count : He.DefD := ⟨("is_count", none), "is_count", "is_count", defArgs s_is_count, defBody s_is_count, defScope s_is_count, [], []⟩
def d_is_row_of : He.DefD := ⟨("is_row_of", none), "is_row_of", "is_row_of", defArgs s_is_row_of, defBody s_is_row_of, defScope s_is_row_of, [], []⟩
def d_is_name : He.DefD := ⟨("is_name", none), "is_name", "is_name", defArgs s_is_name, defBody s_is_name, defScope s_is_name, [], []⟩
def d_is_value : He.DefD := ⟨("is_value", none), "is_value", "is_value", defArgs s_is_value, defBody s_is_value, defScope s_is_value, [], []⟩
def d_is_operand : He.DefD := ⟨("is_operand", none), "is_operand", "is_operand", defArgs s_is_operand, defBody s_is_operand, defScope s_is_operand, [], []⟩
def d_is_condition : He.DefD := ⟨("is_condition", none), "is_condition", "is_condition", defArgs s_is_condition, defBody s_is_condition, defScope s_is_condition, [], []⟩
def d_are_conditions : He.DefD := ⟨("are_conditions", none), "are_conditions", "are_conditions", defArgs s_are_conditions, defBody s_are_conditions, defScope s_are_conditions, [], []⟩
def d_is_setting : He.DefD := ⟨("is_setting", none), "is_setting", "is_setting", defArgs s_is_setting, defBody s_is_setting, defScope s_is_setting, [], []⟩
def d_are_settings : He.DefD := ⟨("are_settings", none), "are_settings", "are_settings", defArgs s_are_settings, defBody s_are_settings, defScope s_are_settings, [], []⟩
def d_is_source : He.DefD := ⟨("is_source", none), "is_source", "is_source", defArgs s_is_source, defBody s_is_source, defScope s_is_source, [], []⟩
def d_is_output : He.DefD := ⟨("is_output", none), "is_output", "is_output", defArgs s_is_output, defBody s_is_output, defScope s_is_output, [], []⟩
def d_is_create : He.DefD := ⟨("is_create", none), "is_create", "is_create", defArgs s_is_create, defBody s_is_create, defScope s_is_create, [], []⟩
def d_is_insert : He.DefD := ⟨("is_insert", none), "is_insert", "is_insert", defArgs s_is_insert, defBody s_is_insert, defScope s_is_insert, [], []⟩
def d_is_select : He.DefD := ⟨("is_select", none), "is_select", "is_select", defArgs s_is_select, defBody s_is_select, defScope s_is_select, [], []⟩
def d_is_statement : He.DefD := ⟨("is_statement", none), "is_statement", "is_statement", defArgs s_is_statement, defBody s_is_statement, defScope s_is_statement, [], []⟩
def d_law_draw : He.DefD := ⟨("_law_draw", none), "_law_draw", "_law_draw", defArgs s_law_draw, defBody s_law_draw, defScope s_law_draw, [], []⟩
def d_law_name : He.DefD := ⟨("_law_name", none), "_law_name", "_law_name", defArgs s_law_name, defBody s_law_name, defScope s_law_name, [], []⟩
def d_law_value : He.DefD := ⟨("_law_value", none), "_law_value", "_law_value", defArgs s_law_value, defBody s_law_value, defScope s_law_value, [], []⟩
def d_law_is : He.DefD := ⟨("_law_is", none), "_law_is", "_law_is", defArgs s_law_is, defBody s_law_is, defScope s_law_is, [], []⟩
def d_law_odd_names : He.DefD := ⟨("_law_odd_names", none), "_law_odd_names", "_law_odd_names", defArgs s_law_odd_names, defBody s_law_odd_names, defScope s_law_odd_names, [], []⟩
def d_law_odd_values : He.DefD := ⟨("_law_odd_values", none), "_law_odd_values", "_law_odd_values", defArgs s_law_odd_values, defBody s_law_odd_values, defScope s_law_odd_values, [], []⟩
def d_law_turned : He.DefD := ⟨("_law_turned", none), "_law_turned", "_law_turned", defArgs s_law_turned, defBody s_law_turned, defScope s_law_turned, [], []⟩
def d_law_refuses : He.DefD := ⟨("_law_refuses", none), "_law_refuses", "_law_refuses", defArgs s_law_refuses, defBody s_law_refuses, defScope s_law_refuses, [], []⟩
def d_law_edges : He.DefD := ⟨("_law_edges", none), "_law_edges", "_law_edges", defArgs s_law_edges, defBody s_law_edges, defScope s_law_edges, [], []⟩
def d_law_create : He.DefD := ⟨("_law_create", none), "_law_create", "_law_create", defArgs s_law_create, defBody s_law_create, defScope s_law_create, [], []⟩
def d_law : He.DefD := ⟨("law", none), "law", "law", defArgs s_law, defBody s_law, defScope s_law, [], []⟩
def fn : List He.DefD := [d_is_within, d_is_plain, d_is_count, d_is_row_of, d_is_name, d_is_value, d_is_operand, d_is_condition, d_are_conditions, d_is_setting, d_are_settings, d_is_source, d_is_output, d_is_create, d_is_insert, d_is_select, d_is_statement, d_law_draw, d_law_name, d_law_value, d_law_is, d_law_odd_names, d_law_odd_values, d_law_turned, d_law_refuses, d_law_edges, d_law_create, d_law]
def fa : List He.Fa := [.glo "is_within", .glo "is_plain", .glo "is_count", .glo "is_row_of", .glo "is_name", .glo "is_value", .glo "is_operand", .glo "is_condition", .glo "are_conditions", .glo "is_setting", .glo "are_settings", .glo "is_source", .glo "is_output", .glo "is_create", .glo "is_insert", .glo "is_select", .glo "is_statement", .glo "_law_draw", .glo "_law_name", .glo "_law_value", .glo "_law_is", .glo "_law_odd_names", .glo "_law_odd_values", .glo "_law_turned", .glo "_law_refuses", .glo "_law_edges", .glo "_law_create", .glo "law", .int "MOST_DEEP" 30, .int "MOST_INTEGER" 1000000000000000000000000000000000000000000000000000000000000, .int "MOST_VALUE" 1000000000000000000000000000000, .glo "OPERATORS", .free "abs", .free "bool", .free "int", .free "isinstance", .free "len", .free "list", .free "min", .free "ord", .free "range", .free "str", .free "tuple"]
def exs : List (PySem.W.Frag → Bool) := [fun K => He.tupB K "OPERATORS" [.str "=", .str "<>", .str "<", .str "<="], fun K => tnB K "OPERATORS"]
def ex (K : PySem.W.Frag) : Bool := exs.all fun f => f K
theorem txt_of {K : PySem.W.Frag} {h : Heap} {mg : Str → Option Value} (X : K.In h) (G : h.Ns mainGlobals mg) (c : He.SaysD fa fn K) (cx : ex K = true) : Txt K mg where
  f_is_within := by obtain ⟨fd, F⟩ := c.def_ 0 (d := d_is_within) rfl; exact ⟨_, fd, F, He.glo_ok X G (c.fact 0 (f := .glo "is_within") rfl)⟩
  f_is_plain := by obtain ⟨fd, F⟩ := c.def_ 1 (d := d_is_plain) rfl; exact ⟨_, fd, F, He.glo_ok X G (c.fact 1 (f := .glo "is_plain") rfl)⟩
  f_is_count := by obtain ⟨fd, F⟩ := c.def_ 2 (d := d_is_count) rfl; exact ⟨_, fd, F, He.glo_ok X G (c.fact 2 (f := .glo "is_count") rfl)⟩
  f_is_row_of := by obtain ⟨fd, F⟩ := c.def_ 3 (d := d_is_row_of) rfl; exact ⟨_, fd, F, He.glo_ok X G (c.fact 3 (f := .glo "is_row_of") rfl)⟩
  f_is_name := by obtain ⟨fd, F⟩ := c.def_ 4 (d := d_is_name) rfl; exact ⟨_, fd, F, He.glo_ok X G (c.fact 4 (f := .glo "is_name") rfl)⟩
  f_is_value := by obtain ⟨fd, F⟩ := c.def_ 5 (d := d_is_value) rfl; exact ⟨_, fd, F, He.glo_ok X G (c.fact 5 (f := .glo "is_value") rfl)⟩
  f_is_operand := by obtain ⟨fd, F⟩ := c.def_ 6 (d := d_is_operand) rfl; exact ⟨_, fd, F, He.glo_ok X G (c.fact 6 (f := .glo "is_operand") rfl)⟩
  f_is_condition := by obtain ⟨fd, F⟩ := c.def_ 7 (d := d_is_condition) rfl; exact ⟨_, fd, F, He.glo_ok X G (c.fact 7 (f := .glo "is_condition") rfl)⟩
  f_are_conditions := by obtain ⟨fd, F⟩ := c.def_ 8 (d := d_are_conditions) rfl; exact ⟨_, fd, F, He.glo_ok X G (c.fact 8 (f := .glo "are_conditions") rfl)⟩
  f_is_setting := by obtain ⟨fd, F⟩ := c.def_ 9 (d := d_is_setting) rfl; exact ⟨_, fd, F, He.glo_ok X G (c.fact 9 (f := .glo "is_setting") rfl)⟩
  f_are_settings := by obtain ⟨fd, F⟩ := c.def_ 10 (d := d_are_settings) rfl; exact ⟨_, fd, F, He.glo_ok X G (c.fact 10 (f := .glo "are_settings") rfl)⟩
  f_is_source := by obtain ⟨fd, F⟩ := c.def_ 11 (d := d_is_source) rfl; exact ⟨_, fd, F, He.glo_ok X G (c.fact 11 (f := .glo "is_source") rfl)⟩
  f_is_output := by obtain ⟨fd, F⟩ := c.def_ 12 (d := d_is_output) rfl; exact ⟨_, fd, F, He.glo_ok X G (c.fact 12 (f := .glo "is_output") rfl)⟩
  f_is_create := by obtain ⟨fd, F⟩ := c.def_ 13 (d := d_is_create) rfl; exact ⟨_, fd, F, He.glo_ok X G (c.fact 13 (f := .glo "is_create") rfl)⟩
  f_is_insert := by obtain ⟨fd, F⟩ := c.def_ 14 (d := d_is_insert) rfl; exact ⟨_, fd, F, He.glo_ok X G (c.fact 14 (f := .glo "is_insert") rfl)⟩
  f_is_select := by obtain ⟨fd, F⟩ := c.def_ 15 (d := d_is_select) rfl; exact ⟨_, fd, F, He.glo_ok X G (c.fact 15 (f := .glo "is_select") rfl)⟩
  f_is_statement := by obtain ⟨fd, F⟩ := c.def_ 16 (d := d_is_statement) rfl; exact ⟨_, fd, F, He.glo_ok X G (c.fact 16 (f := .glo "is_statement") rfl)⟩
  f_law_draw := by obtain ⟨fd, F⟩ := c.def_ 17 (d := d_law_draw) rfl; exact ⟨_, fd, F, He.glo_ok X G (c.fact 17 (f := .glo "_law_draw") rfl)⟩
  f_law_name := by obtain ⟨fd, F⟩ := c.def_ 18 (d := d_law_name) rfl; exact ⟨_, fd, F, He.glo_ok X G (c.fact 18 (f := .glo "_law_name") rfl)⟩
  f_law_value := by obtain ⟨fd, F⟩ := c.def_ 19 (d := d_law_value) rfl; exact ⟨_, fd, F, He.glo_ok X G (c.fact 19 (f := .glo "_law_value") rfl)⟩
  f_law_is := by obtain ⟨fd, F⟩ := c.def_ 20 (d := d_law_is) rfl; exact ⟨_, fd, F, He.glo_ok X G (c.fact 20 (f := .glo "_law_is") rfl)⟩
  f_law_odd_names := by obtain ⟨fd, F⟩ := c.def_ 21 (d := d_law_odd_names) rfl; exact ⟨_, fd, F, He.glo_ok X G (c.fact 21 (f := .glo "_law_odd_names") rfl)⟩
  f_law_odd_values := by obtain ⟨fd, F⟩ := c.def_ 22 (d := d_law_odd_values) rfl; exact ⟨_, fd, F, He.glo_ok X G (c.fact 22 (f := .glo "_law_odd_values") rfl)⟩
  f_law_turned := by obtain ⟨fd, F⟩ := c.def_ 23 (d := d_law_turned) rfl; exact ⟨_, fd, F, He.glo_ok X G (c.fact 23 (f := .glo "_law_turned") rfl)⟩
  f_law_refuses := by obtain ⟨fd, F⟩ := c.def_ 24 (d := d_law_refuses) rfl; exact ⟨_, fd, F, He.glo_ok X G (c.fact 24 (f := .glo "_law_refuses") rfl)⟩
  f_law_edges := by obtain ⟨fd, F⟩ := c.def_ 25 (d := d_law_edges) rfl; exact ⟨_, fd, F, He.glo_ok X G (c.fact 25 (f := .glo "_law_edges") rfl)⟩
  f_law_create := by obtain ⟨fd, F⟩ := c.def_ 26 (d := d_law_create) rfl; exact ⟨_, fd, F, He.glo_ok X G (c.fact 26 (f := .glo "_law_create") rfl)⟩
  f_law := by obtain ⟨fd, F⟩ := c.def_ 27 (d := d_law) rfl; exact ⟨_, fd, F, He.glo_ok X G (c.fact 27 (f := .glo "law") rfl)⟩
  g_MOST_DEEP := by obtain ⟨t, e⟩ := He.int_ok X G (c.fact 28 (f := .int "MOST_DEEP" 30) rfl); exact ⟨_, e, t, rfl⟩
  g_MOST_INTEGER := by obtain ⟨t, e⟩ := He.int_ok X G (c.fact 29 (f := .int "MOST_INTEGER" 1000000000000000000000000000000000000000000000000000000000000) rfl); exact ⟨_, e, t, rfl⟩
  g_MOST_VALUE := by obtain ⟨t, e⟩ := He.int_ok X G (c.fact 30 (f := .int "MOST_VALUE" 1000000000000000000000000000000) rfl); exact ⟨_, e, t, rfl⟩
  t_OPERATORS := ⟨He.glo_ok X G (c.fact 31 (f := .glo "OPERATORS") rfl), fun H => He.tupB_ok (ex_at (exs := exs) cx 0) H⟩
  z_abs := He.free_ok X G (c.fact 32 (f := .free "abs") rfl)
  z_bool := He.free_ok X G (c.fact 33 (f := .free "bool") rfl)
  z_int := He.free_ok X G (c.fact 34 (f := .free "int") rfl)
  z_isinstance := He.free_ok X G (c.fact 35 (f := .free "isinstance") rfl)
  z_len := He.free_ok X G (c.fact 36 (f := .free "len") rfl)
  z_list := He.free_ok X G (c.fact 37 (f := .free "list") rfl)
  z_min := He.free_ok X G (c.fact 38 (f := .free "min") rfl)
  z_ord := He.free_ok X G (c.fact 39 (f := .free "ord") rfl)
  z_range := He.free_ok X G (c.fact 40 (f := .free "range") rfl)
  z_str := He.free_ok X G (c.fact 41 (f := .free "str") rfl)
  z_tuple := He.free_ok X G (c.fact 42 (f := .free "tuple") rfl)
  d_OPERATORS := tnB_ok (ex_at (exs := exs) cx 1)
def loose : List Str := (["MOST_DEEP", "MOST_INTEGER", "is_within", "is_plain", "MOST_VALUE", "OPERATORS", "is_count", "is_row_of", "is_name", "is_value", "is_operand", "is_condition", "are_conditions", "is_setting", "are_settings", "is_source", "is_output", "is_create", "is_insert", "is_select", "is_statement", "_law_draw", "_law_name", "_law_value", "_law_is", "_law_odd_names", "_law_odd_values", "_law_turned", "_law_refuses", "_law_edges", "_law_create"] : List Str)
abbrev R : PySem.W.OpenRow := PySem.W.OpenLaw.row PySem.Challenge.rw_steadwhole_k75_forms_of_statements_on_ta
abbrev hk : PySem.W.Hook := hookX 5 fa fn ex
def ob (s : PySem.W.SharedT) : He.AlD × Bool := obsX 5 fa fn ex (HandSHeadRun.getT s)
theorem ob_eq (s : PySem.W.SharedT) : ob s = hk.obs s.abs := obsX_eq (HandSHeadRun.getT_eq s)
theorem run (w : World) : HandSHeadRun.RunEq R (PySem.W.view R.prog [34]) hk ob 2000 loose w := by
  intro os
  kernel_rfl
end Z
open PySem PySem.W PySem.Calls PyProof.Rows
theorem PySem.Challenge.cw_steadwhole_k75_forms_of_statements_on_ta_holds : PySem.Challenge.rw_steadwhole_k75_forms_of_statements_on_ta.Holds := by
  w_on; o_law
  refine HandSHeadRun.head_any (r := OpenLaw.row PySem.Challenge.rw_steadwhole_k75_forms_of_statements_on_ta) (q := view (OpenLaw.row PySem.Challenge.rw_steadwhole_k75_forms_of_statements_on_ta).prog [34]) (H := Z.hk) (ob := Z.ob) (M := 2000) (loose := Z.loose) (d := HandSHeadRun.topDef (OpenLaw.row PySem.Challenge.rw_steadwhole_k75_forms_of_statements_on_ta).prog 34) (kwd := []) Z.ob_eq
    (by kernel_rfl) (fun s => by kernel_rfl) Z.run (by kernel_rfl) (by kernel_rfl) (by kernel_rfl) (by rfl) (by first | assumption | decide +kernel) (by decide +kernel) ⟨rfl, rfl, rfl, rfl, rfl, by decide +kernel⟩ ?hw ?hc
  case hw => w_witness2
  case hc =>
    refine L2.walk_ofE (l := PySem.Challenge.rw_steadwhole_k75_forms_of_statements_on_ta) (n := 63) (k := 7) (x := "script") (CX := L2.CX0) rfl (by decide) (by kernel_rfl) ⟨rfl, by decide, by decide⟩ ?F (fun _ _ _ _ z => z)
    intro w mg fa h Y G hmg0
    obtain ⟨K, KX, c, cx⟩ := Y
    have hmg : mg ("law" : PySem.Str) = some (.ref fa) := by
      have e : (HandSHeadRun.topDef (OpenLaw.row PySem.Challenge.rw_steadwhole_k75_forms_of_statements_on_ta).prog 34).name = ("law" : PySem.Str) := by kernel_rfl
      rw [← e]
      exact hmg0
    have T : Z.Txt K mg := Z.txt_of KX G c cx
    obtain ⟨fd, hb, hF⟩ := Z.law_end (P := (PySem.Challenge.rw_steadwhole_k75_forms_of_statements_on_ta).prog) (w := w) T hmg
    exact ⟨K, fd, Z.sp_law K, KX, hb, fun H a ns hl hO hS => ⟨a, ns, rfl, hS, hl, hO, fun _ => rfl⟩, fun base _ _ => hF base⟩

