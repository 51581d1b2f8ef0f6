import PyProof.Rows.All
import Wide.All
import OpenK.AllK
import Wide.FinOn
import HandS.ForMost
import HandS.Text
import HandS.Codes
import HandS.Defaults
import HandS.IsInst
import HandS.Style
import HandS.Head0
import HandS.Head1
import HandS.Head2
import HandS.HeadEnd
import HandS.HeadHook1
import HandS.HeadHook2
import HandS.Wide
import HandS.TupLe
import HandS.Strs
import PyProof.StrBlock2
import KE.KxText
import PySem.Challenge.RW_steadwhole_k45_values_rows_and_keys
set_option Elab.async false
set_option linter.all false
set_option maxRecDepth 100000
set_option maxHeartbeats 4000000
namespace Z
/-! ### the layer of this claim: defs by names, short rules of reading -/
open PySem PySem.Spec PyProof.Rows L2
set_option autoImplicit false
abbrev BindAll (x qual : Str) (st : Stmt) (ps : List Str) : Prop := ∀ (kV doc pm : Value) (an : Option Addr) (cdv ct : Value) (us : List Value), us.length = ps.length →
  bindArgs (PySem.W.fnOf x qual (defArgs st) (defBody st) (defScope st) .none kV doc pm an cdv ct) ⟨us, []⟩ = pure (ps.zip us)
structure GFun (K : PySem.W.Frag) (mg : Str → Option Value) (x : Str) (st : Stmt) : Prop where
  ex : ∃ (f : Addr) (fd : FuncData), FunD K x x (defArgs st) (defBody st) (defScope st) [] [] f fd ∧ mg x = some (.ref f)
structure GMet (K : PySem.W.Frag) (C : Addr) (m qual : Str) (st : Stmt) : Prop where
  ex : ∃ (f : Addr) (fd : FuncData), FunD K m qual (defArgs st) (defBody st) (defScope st) [] [] f fd ∧ Cls K C ∧ Meth K C m f
/-- a def that may be called by its name (CX: what it may let out) -/
structure CalX (CX : CXT) (P : Program) (w : World) (K : PySem.W.Frag) (mg : Str → Option Value) (base : Heap) (k : Nat) (x : Str) (sp : Sp) (dvs : List V) : Prop where
  ex : ∃ (f : Addr) (fd : FuncData) (ps : List Str) (ds : List Value), FnOk P w K mg base CX k f fd ps sp ∧ mg x = some (.ref f) ∧ PySem.W.keepIn K (.ref f) = true ∧ Binds K fd ps ds ∧ Vals dvs ds
structure MetX (CX : CXT) (P : Program) (w : World) (K : PySem.W.Frag) (mg : Str → Option Value) (base : Heap) (k : Nat) (C : Addr) (m : Str) (sp : Sp) (dvs : List V) : Prop where
  ex : ∃ (f : Addr) (fd : FuncData) (ps : List Str) (ds : List Value), Cls K C ∧ Meth K C m f ∧ FnOk P w K mg base CX k f fd ps sp ∧ Binds K fd ps ds ∧ Vals dvs ds
structure MakX (CX : CXT) (P : Program) (w : World) (K : PySem.W.Frag) (mg : Str → Option Value) (base : Heap) (k : Nat) (x : Str) (C : Addr) (sp : Sp) (dvs : List V) : Prop where
  ex : ∃ (f : Addr) (fd : FuncData) (ps : List Str) (ds : List Value), Mk K C f ∧ FnOk P w K mg base CX k f fd ps sp ∧ mg x = some (.ref C) ∧ Binds K fd ps ds ∧ Vals dvs ds
abbrev Cal := CalX CX0
abbrev Met := MetX CX0
abbrev Mak := MakX CX0
section
variable {P : Program} {w : World} {K : PySem.W.Frag} {mg : Str → Option Value} {base : Heap} {x qual m : Str} {st : Stmt} {N ps : List Str} {k : Nat} {sp : Sp} {C : Addr}
theorem fnd_ok {f : Addr} {fd : FuncData} (F : FunD K x qual (defArgs st) (defBody st) (defScope st) [] [] f fd) (S : FnScope N ps (defScope st)) (len : ∀ vs H Q E, sp vs H Q E → vs.length = ps.length)
    (hbody : ∀ (cdv : Value) (A : Around) (outer : List Env) (s : Shared) (H : Hp) (vs : List V) (Q : VK) (E : XK), Room k (A.deeper (envOfC qual (defScope st) s.heap.objs.size f cdv)) → sp vs H Q E →
      ∃ t, PSs (cxOf CX0 P w K mg base N qual (defScope st) f cdv A outer s H E).nox (defBody st) t ∧ t { nx := fun _ H' => Q .non H', rt := Q } (start N vs) H) : FnOk P w K mg base CX0 (k + 1) f fd ps sp :=
  F.ok S len fun cdv A outer s H vs Q E hr h => by
    obtain ⟨t, h1, h2⟩ := hbody cdv A outer s H vs Q E hr h
    exact ⟨t, h1.nox, h2⟩
theorem GFun.cal (g : GFun K mg x st) (S : FnScope N ps (defScope st)) (b : BindAll x x st ps) (len : ∀ vs H Q E, sp vs H Q E → vs.length = ps.length)
    (hbody : ∀ (f : Addr) (cdv : Value) (A : Around) (outer : List Env) (s : Shared) (H : Hp) (vs : List V) (Q : VK) (E : XK), Room k (A.deeper (envOfC x (defScope st) s.heap.objs.size f cdv)) → sp vs H Q E →
      ∃ t, PSs (cxOf CX0 P w K mg base N x (defScope st) f cdv A outer s H E).nox (defBody st) t ∧ t { nx := fun _ H' => Q .non H', rt := Q } (start N vs) H) : Cal P w K mg base (k + 1) x sp [] := by
  obtain ⟨f, fd, F, hm⟩ := g.ex
  exact ⟨f, fd, ps, [], fnd_ok F S len (hbody f), hm, F.kp, F.bindsN b, .nil⟩
theorem GMet.met (g : GMet K C m qual st) (S : FnScope N ps (defScope st)) (b : BindAll m qual st ps) (len : ∀ vs H Q E, sp vs H Q E → vs.length = ps.length)
    (hbody : ∀ (f : Addr) (cdv : Value) (A : Around) (outer : List Env) (s : Shared) (H : Hp) (vs : List V) (Q : VK) (E : XK), Room k (A.deeper (envOfC qual (defScope st) s.heap.objs.size f cdv)) → sp vs H Q E →
      ∃ t, PSs (cxOf CX0 P w K mg base N qual (defScope st) f cdv A outer s H E).nox (defBody st) t ∧ t { nx := fun _ H' => Q .non H', rt := Q } (start N vs) H) : Met P w K mg base (k + 1) C m sp [] := by
  obtain ⟨f, fd, F, c, hm⟩ := g.ex
  exact ⟨f, fd, ps, [], c, hm, fnd_ok F S len (hbody f), F.bindsN b, .nil⟩
theorem GFun.law {fa : Addr} (g : GFun K mg "law" st) (hmg : mg "law" = some (.ref fa)) (S : FnScope N ["script"] (defScope st)) (b : BindAll "law" "law" st ["script"]) (len : ∀ vs H Q E, sp vs H Q E → vs.length = 1)
    (hbody : ∀ (base : Heap) (f : Addr) (cdv : Value) (A : Around) (outer : List Env) (s : Shared) (H : Hp) (vs : List V) (Q : VK) (E : XK), Room k (A.deeper (envOfC "law" (defScope st) s.heap.objs.size f cdv)) → sp vs H Q E →
      ∃ t, PSs (cxOf CX0 P w K mg base N "law" (defScope st) f cdv A outer s H E).nox (defBody st) t ∧ t { nx := fun _ H' => Q .non H', rt := Q } (start N vs) H) :
    ∃ fd : FuncData, (∀ (s : Shared) (v : Value), BindsTo s fd ⟨[v], []⟩ [("script", v)]) ∧ ∀ base : Heap, FnOk P w K mg base CX0 (k + 1) fa fd ["script"] sp := by
  obtain ⟨f, fd, F, hm⟩ := g.ex
  have e := hmg.symm.trans hm
  cases e
  exact ⟨fd, fun s v => F.bindsA (ps := ["script"]) b s [v] rfl, fun base => fnd_ok F S len (hbody base fa)⟩
end
section
variable {X : Cx} {k j : Nat} {C : Addr} {x m : Str} {sp : Sp} {dvs : List V} {p pos apos : Pos}
theorem pe_cX {CX : CXT} {E : XK} {e : Expr} {es : List Expr} {t : TA} (c : CalX CX X.prog X.w X.K X.mg X.base k x sp dvs) (hr : Room j X.A) (hk : k ≤ j) (hx : Passes CX X E) (hg : Gl X x) (ha : PA X (e :: es) t)
    (hdb : (x == ("__debug__" : Str)) = false := by decide) (he : starEach (e :: es) X.env = (false, eval e X.env) :: starEach es X.env := by rfl) (hpl : (backTo pos (starEach es X.env)).any (·.1) = false := by rfl) :
    PE X (.Call (.Name x p) (e :: es) [] pos) (tCall sp dvs E t) := by
  obtain ⟨f, fd, ps, ds, F, hm, kp, b, d⟩ := c.ex
  exact pe_call F (hr.mono hk) hg hm kp b d hx ha hdb he hpl
theorem pe_cX0 {CX : CXT} {E : XK} (c : CalX CX X.prog X.w X.K X.mg X.base k x sp dvs) (hr : Room j X.A) (hk : k ≤ j) (hx : Passes CX X E) (hg : Gl X x) (hdb : (x == ("__debug__" : Str)) = false := by decide) :
    PE X (.Call (.Name x p) [] [] pos) (tCall sp dvs E tNil) := by
  obtain ⟨f, fd, ps, ds, F, hm, kp, b, d⟩ := c.ex
  exact pe_call0 F (hr.mono hk) hg hm kp b d hx hdb
theorem pe_c {e : Expr} {es : List Expr} {t : TA} (c : Cal X.prog X.w X.K X.mg X.base k x sp dvs) (hr : Room j X.A) (hk : k ≤ j) (hg : Gl X x) (ha : PA X (e :: es) t)
    (hdb : (x == ("__debug__" : Str)) = false := by decide) (he : starEach (e :: es) X.env = (false, eval e X.env) :: starEach es X.env := by rfl) (hpl : (backTo pos (starEach es X.env)).any (·.1) = false := by rfl) :
    PE X (.Call (.Name x p) (e :: es) [] pos) (tCall sp dvs E0 t) := pe_cX c hr hk pass0 hg ha hdb he hpl
theorem pe_c0 (c : Cal X.prog X.w X.K X.mg X.base k x sp dvs) (hr : Room j X.A) (hk : k ≤ j) (hg : Gl X x) (hdb : (x == ("__debug__" : Str)) = false := by decide) :
    PE X (.Call (.Name x p) [] [] pos) (tCall sp dvs E0 tNil) := pe_cX0 c hr hk pass0 hg hdb
theorem pe_mkX {CX : CXT} {E : XK} {e : Expr} {es : List Expr} {t : TA} (c : MakX CX X.prog X.w X.K X.mg X.base k x C sp dvs) (hr : Room j X.A) (hk : k + 1 ≤ j) (hx : Passes CX X E) (hg : Gl X x) (ha : PA X (e :: es) t)
    (hdb : (x == ("__debug__" : Str)) = false := by decide) (he : starEach (e :: es) X.env = (false, eval e X.env) :: starEach es X.env := by rfl) (hpl : (backTo pos (starEach es X.env)).any (·.1) = false := by rfl) :
    PE X (.Call (.Name x p) (e :: es) [] pos) (tMake C sp dvs E t) := by
  obtain ⟨f, fd, ps, ds, M, F, hm, b, d⟩ := c.ex
  exact pe_make M F (hr.mono hk) hg hm b d hx ha hdb he hpl
theorem pe_mkX0 {CX : CXT} {E : XK} (c : MakX CX X.prog X.w X.K X.mg X.base k x C sp dvs) (hr : Room j X.A) (hk : k + 1 ≤ j) (hx : Passes CX X E) (hg : Gl X x) (hdb : (x == ("__debug__" : Str)) = false := by decide) :
    PE X (.Call (.Name x p) [] [] pos) (tMake C sp dvs E tNil) := by
  obtain ⟨f, fd, ps, ds, M, F, hm, b, d⟩ := c.ex
  exact pe_make0 M F (hr.mono hk) hg hm b d hx hdb
theorem pe_mk {e : Expr} {es : List Expr} {t : TA} (c : Mak X.prog X.w X.K X.mg X.base k x C sp dvs) (hr : Room j X.A) (hk : k + 1 ≤ j) (hg : Gl X x) (ha : PA X (e :: es) t)
    (hdb : (x == ("__debug__" : Str)) = false := by decide) (he : starEach (e :: es) X.env = (false, eval e X.env) :: starEach es X.env := by rfl) (hpl : (backTo pos (starEach es X.env)).any (·.1) = false := by rfl) :
    PE X (.Call (.Name x p) (e :: es) [] pos) (tMake C sp dvs E0 t) := pe_mkX c hr hk pass0 hg ha hdb he hpl
theorem pe_mk0 (c : Mak X.prog X.w X.K X.mg X.base k x C sp dvs) (hr : Room j X.A) (hk : k + 1 ≤ j) (hg : Gl X x) (hdb : (x == ("__debug__" : Str)) = false := by decide) :
    PE X (.Call (.Name x p) [] [] pos) (tMake C sp dvs E0 tNil) := pe_mkX0 c hr hk pass0 hg hdb
section
variable {e o : Expr} {es : List Expr} {ta : TE} {t : TA}
theorem pe_mtX {CX : CXT} {E : XK} {pl : Sem Bool} (c : MetX CX X.prog X.w X.K X.mg X.base k C m sp dvs) (hr : Room j X.A) (hk : k ≤ j) (hx : Passes CX X E) (he : PE X o ta) (ha : PA X (e :: es) t)
    (hst : starEach (e :: es) X.env = (false, eval e X.env) :: starEach es X.env := by rfl) (hpl : (backTo pos (starEach es X.env)).any (·.1) = false := by rfl)
    (ht : eval (.Call (.Attribute o m apos) (e :: es) [] pos) X.env = (do
      let ov ← eval o X.env
      standAt apos.atName
      let (f, first) ← holding [ov] (getMethod ov m pl)
      callWith pos f first (backTo pos (starEach (e :: es) X.env)) (backToKw pos (keywordEach [] X.env))) := by rfl) :
    PE X (.Call (.Attribute o m apos) (e :: es) [] pos) (tMeth C m sp dvs E ta t) := by
  obtain ⟨f, fd, ps, ds, hc, hm, F, b, d⟩ := c.ex
  exact pe_meth (pl := pl) he hc hm F (hr.mono hk) b d hx ha hst hpl ht
theorem pe_mtX0 {CX : CXT} {E : XK} {pl : Sem Bool} (c : MetX CX X.prog X.w X.K X.mg X.base k C m sp dvs) (hr : Room j X.A) (hk : k ≤ j) (hx : Passes CX X E) (he : PE X o ta)
    (ht : eval (.Call (.Attribute o m apos) [] [] pos) X.env = (do
      let ov ← eval o X.env
      standAt apos.atName
      let (f, first) ← holding [ov] (getMethod ov m pl)
      callWith pos f first (backTo pos (starEach [] X.env)) (backToKw pos (keywordEach [] X.env))) := by rfl) :
    PE X (.Call (.Attribute o m apos) [] [] pos) (tMeth C m sp dvs E ta tNil) := by
  obtain ⟨f, fd, ps, ds, hc, hm, F, b, d⟩ := c.ex
  exact pe_meth0 (pl := pl) he hc hm F (hr.mono hk) b d hx ht
theorem pe_mt {pl : Sem Bool} (c : Met X.prog X.w X.K X.mg X.base k C m sp dvs) (hr : Room j X.A) (hk : k ≤ j) (he : PE X o ta) (ha : PA X (e :: es) t)
    (hst : starEach (e :: es) X.env = (false, eval e X.env) :: starEach es X.env := by rfl) (hpl : (backTo pos (starEach es X.env)).any (·.1) = false := by rfl)
    (ht : eval (.Call (.Attribute o m apos) (e :: es) [] pos) X.env = (do
      let ov ← eval o X.env
      standAt apos.atName
      let (f, first) ← holding [ov] (getMethod ov m pl)
      callWith pos f first (backTo pos (starEach (e :: es) X.env)) (backToKw pos (keywordEach [] X.env))) := by rfl) :
    PE X (.Call (.Attribute o m apos) (e :: es) [] pos) (tMeth C m sp dvs E0 ta t) := pe_mtX (pl := pl) c hr hk pass0 he ha hst hpl ht
theorem pe_mt0 {pl : Sem Bool} (c : Met X.prog X.w X.K X.mg X.base k C m sp dvs) (hr : Room j X.A) (hk : k ≤ j) (he : PE X o ta)
    (ht : eval (.Call (.Attribute o m apos) [] [] pos) X.env = (do
      let ov ← eval o X.env
      standAt apos.atName
      let (f, first) ← holding [ov] (getMethod ov m pl)
      callWith pos f first (backTo pos (starEach [] X.env)) (backToKw pos (keywordEach [] X.env))) := by rfl) :
    PE X (.Call (.Attribute o m apos) [] [] pos) (tMeth C m sp dvs E0 ta tNil) := pe_mtX0 (pl := pl) c hr hk pass0 he ht
end
theorem pe_gc (hg : Gl X x) {v : V} (h : ∃ u, X.mg x = some u ∧ RelV v u) (hd : (x == ("__debug__" : Str)) = false := by decide) : PE X (.Name x p) (tC v) := by
  obtain ⟨u, e, r⟩ := h
  exact pe_glob hg e r hd
/-- xs[i], read ahead of xs[i] op= e -/
theorem get_list : PGet X (rIxL X.K) := by
  intro pins s σ H x y v u Q I rx ry h
  obtain ⟨p, xs, i, z, rfl, rfl, hq, he, q⟩ := h
  cases rx
  obtain ⟨t, rfl⟩ := ry
  obtain ⟨its, r, pl, hz⟩ := I.list hq
  obtain ⟨j, h1, h2, h3, h4, h5⟩ := atI_get he
  obtain ⟨w, ew, rw'⟩ := r.get h2
  have hl := r.length
  have hn := line63
  have fin : EP X pins σ Q w s := ⟨z, H, I, rw', q⟩
  by_cases h0 : 0 ≤ i
  · have hj : i.toNat = j := by
      rw [seqIndex_of h0 h5] at h1
      exact Option.some.inj h1
    exact wpAny_getItem_list pl.isList h0 (by omega) (by rw [hj]; simpa using ew) fin
  · have hj : (i + (its.toArray.size : Int)).toNat = j := by
      rw [seqIndex_neg (by omega) h4] at h1
      rw [List.size_toArray, ← hl]
      exact Option.some.inj h1
    exact wpAny_getItem_list_neg pl.isList (by omega) (by rw [List.size_toArray] <;> omega) (by omega) (by rw [hj]; simpa using ew) fin
end
abbrev qNewL (xs : List V) (H : Hp) (Q : VK) : Prop := xs.length ≤ sizeLine ∧ ∀ p, H p = none → Q (.ref p) (upd H p (.lst xs))
abbrev qNewT (xs : List V) (H : Hp) (Q : VK) : Prop := xs.length ≤ sizeLine ∧ ∀ p, H p = none → Q (.ref p) (upd H p (.tup xs))
section
variable {K : PySem.W.Frag} {σ : L2.St} {H : Hp} {Q : VK} {QB : Bool → Hp → Prop} {v x y : V} {ta tb te : TE} {t u : TT} {r : R2} {D : Ends} {QL : List V → Hp → Prop}
/-! ### readings, one step each -/
theorem rd_var {i : Nat} (h : σ[i]? = some (some v)) (q : Q v H) : tVar i σ H Q := ⟨v, h, q⟩
theorem rd_c (q : Q v H) : tC v σ H Q := q
theorem rd_op (q : ta σ H fun x H1 => tb σ H1 fun y H2 => r x y H2 Q) : tOp r ta tb σ H Q := q
theorem rd_i0 {g : Int → Int → V} {i j : Int} (q : Q (g i j) H) : rI0 g (.int i) (.int j) H Q := ⟨i, j, rfl, rfl, q⟩
theorem rd_i {C : Int → Int → Prop} {g : Int → Int → V} {i j : Int} (c : C i j) (q : Q (g i j) H) : rI C g (.int i) (.int j) H Q := ⟨i, j, rfl, rfl, c, q⟩
theorem rd_eq (h : scal x y = true) (q : Q (.bl (decide (x = y))) H) : rEq x y H Q := ⟨h, q⟩
theorem rd_ne (h : scal x y = true) (q : Q (.bl (!decide (x = y))) H) : rNe x y H Q := ⟨h, q⟩
theorem rd_eqi {i j : Int} (q : Q (.bl (decide (i = j))) H) : rEq (.int i) (.int j) H Q := ⟨rfl, by rw [show decide (V.int i = V.int j) = decide (i = j) from decide_eq_decide.mpr (by simp)]; exact q⟩
theorem rd_nei {i j : Int} (q : Q (.bl (!decide (i = j))) H) : rNe (.int i) (.int j) H Q := ⟨rfl, by rw [show decide (V.int i = V.int j) = decide (i = j) from decide_eq_decide.mpr (by simp)]; exact q⟩
theorem rd_tb {b : Bool} {R : Bool → Prop} (q : R b) : ∃ k, V.bl b = .bl k ∧ R k := ⟨b, rfl, q⟩
theorem rd_tTest (q : te σ H fun x H' => ∃ k, x = .bl k ∧ QB k H') : tTest te σ H QB := q
theorem rd_tB (q : te σ H fun x H' => ∃ k, x = .bl k ∧ QB k H') : tB te σ H QB := q
theorem rd_and (q : t σ H fun c H1 => if c = true then u σ H1 QB else QB false H1) : tAnd t u σ H QB := q
theorem rd_or (q : t σ H fun c H1 => if c = true then QB true H1 else u σ H1 QB) : tOr t u σ H QB := q
theorem rd_not (q : t σ H fun c H1 => QB (!c) H1) : tNot t σ H QB := q
theorem rd_ite {b : Bool} {A B : Prop} (h1 : b = true → A) (h2 : b = false → B) : if b = true then A else B := by
  cases b with
  | true => exact iteT (h1 rfl)
  | false => exact iteF (h2 rfl)
theorem rd_nil (q : QL [] H) : tNil σ H QL := q
theorem rd_cons {tr : TA} (q : ta σ H fun x H1 => tr σ H1 fun xs H2 => QL (x :: xs) H2) : tCons ta tr σ H QL := q
theorem rd_call {sp : Sp} {dvs : List V} {E : XK} {ts : TA} (q : ts σ H fun vs H1 => sp (vs ++ dvs) H1 Q E) : tCall sp dvs E ts σ H Q := q
theorem rd_cb {rc : List V → Hp → VK → Prop} {ts : TA} (q : ts σ H fun vs H1 => rc vs H1 Q) : tCB rc ts σ H Q := q
theorem rd_un {ru : V → Hp → VK → Prop} (q : ta σ H fun x H1 => ru x H1 Q) : tUn ru ta σ H Q := q
theorem rd_ixL {p : Addr} {xs : List V} {i : Int} (h : SqL K H p xs) (ha : atI xs i = some v) (q : Q v H) : rIxL K (.ref p) (.int i) H Q := ⟨p, xs, i, v, rfl, rfl, h, ha, q⟩
theorem rd_ixT {p : Addr} {xs : List V} {i : Int} (h : SqT K H p xs) (ha : atI xs i = some v) (q : Q v H) : rIxT K (.ref p) (.int i) H Q := ⟨p, xs, i, v, rfl, rfl, h, ha, q⟩
theorem rd_seq {a b : TS} (q : a { D with nx := b D } σ H) : tSeq a b D σ H := q
theorem rd_nx (q : D.nx σ H) : tNext D σ H := q
theorem rd_asg {g : TG} (q : te σ H fun x H1 => g x σ H1 D.nx) : tAsg te g D σ H := q
theorem rd_gName {i : Nat} {R : L2.St → Hp → Prop} (q : R (σ.set i (some v)) H) : gName i v σ H R := q
theorem rd_gSub {to ti : TE} {s : TSet} {R : L2.St → Hp → Prop} (q : to σ H fun o H1 => ti σ H1 fun i H2 => s o i v H2 fun H3 => R σ H3) : gSub to ti s v σ H R := q
theorem rd_setL {p : Addr} {xs : List V} {k : Int} {j : Nat} {R : Hp → Prop} (h : H p = some (.lst xs)) (hj : ixN xs.length k = some j) (q : R (upd H p (.lst (xs.set j v)))) : rSetL (.ref p) (.int k) v H R := ⟨p, xs, k, j, rfl, rfl, h, hj, q⟩
theorem rd_ret (q : te σ H D.rt) : tRet te D σ H := q
theorem rd_retN (q : D.rt .non H) : tRetN D σ H := q
theorem rd_if {c : TT} {a b : TS} (q : c σ H fun z H1 => if z = true then a D σ H1 else b D σ H1) : tIfS c a b D σ H := q
theorem rd_drop (q : te σ H fun _ H1 => D.nx σ H1) : tDrop te D σ H := q
theorem rd_aug {i : Nat} {ti : TIp} (h : σ[i]? = some (some x)) (q : te σ H fun y H1 => ti x y H1 fun z H2 => D.nx (σ.set i (some z)) H2) : tAug i te ti D σ H := ⟨x, h, q⟩
theorem rd_ipI {f : Int → Int → Int} {i j : Int} (q : Q (.int (f i j)) H) : ipI f (.int i) (.int j) H Q := ⟨i, j, rfl, rfl, q⟩
theorem rd_augS {to ti te : TE} {tg : V → V → Hp → VK → Prop} {tp : TIp} {ts : TSet} (q : to σ H fun o H1 => ti σ H1 fun i H2 => tg o i H2 fun x H3 => te σ H3 fun y H4 => tp x y H4 fun z H5 => ts o i z H5 fun H6 => D.nx σ H6) : tAugS to ti te tg tp ts D σ H := q
theorem rd_tup {ts : TA} (q : ts σ H fun xs H1 => qNewT xs H1 Q) : tTup ts σ H Q := q
theorem rd_lst {ts : TA} (q : ts σ H fun xs H1 => qNewL xs H1 Q) : tLst ts σ H Q := q
theorem rd_bm0 {T : String} {m : V → List V → Hp → VK → Prop} {to : TE} (q : to σ H fun x H1 => tyV K T x H1 ∧ m x [] H1 Q) : tBM0 K T m to σ H Q := q
theorem rd_bm {T : String} {m : V → List V → Hp → VK → Prop} {to : TE} {ts : TA} (q : to σ H fun x H1 => tyV K T x H1 ∧ ts σ H1 fun xs H2 => m x xs H2 Q) : tBM K T m to ts σ H Q := q
theorem rd_chain {r r' : R2} {tc : TE} (q : ta σ H fun x H1 => tb σ H1 fun y H2 => r x y H2 fun z H3 => ∃ k, z = .bl k ∧ (if k = true then tc σ H3 fun w' H4 => r' y w' H4 Q else Q (.bl false) H3)) : tChain r r' ta tb tc σ H Q := q
theorem rd_andV (q : ta σ H fun x H1 => ∃ c, x = .bl c ∧ if c = true then tb σ H1 Q else Q (.bl false) H1) : tAndV ta tb σ H Q := q
theorem rd_orV (q : ta σ H fun x H1 => ∃ c, x = .bl c ∧ if c = true then Q (.bl true) H1 else tb σ H1 Q) : tOrV ta tb σ H Q := q
theorem rd_notV (q : ta σ H fun x H1 => ∃ c, x = .bl c ∧ Q (.bl (!c)) H1) : tNotV ta σ H Q := q
end
section
variable {K : PySem.W.Frag} {H : Hp} {Q : VK}
theorem rd_isi {x c : V} {t u : Value} {b : Bool} (k : ClsV c u) (ty : TyX K H x t) (e : PySem.W.kitOne K t u = some b) (q : Q (.bl b) H) : rIsi K [x, c] H Q := ⟨x, c, t, u, b, rfl, k, ty, e, q⟩
theorem isi_int_int {i : Int} (q : Q (.bl true) H) : rIsi K [(.int i), .ty "int"] H Q := rd_isi (.ty _) (.base (.int _)) (kit_ty (by decide +kernel)) q
theorem isi_int_bool {i : Int} (q : Q (.bl false) H) : rIsi K [(.int i), .ty "bool"] H Q := rd_isi (.ty _) (.base (.int _)) (kit_ty (by decide +kernel)) q
theorem isi_int_str {i : Int} (q : Q (.bl false) H) : rIsi K [(.int i), .ty "str"] H Q := rd_isi (.ty _) (.base (.int _)) (kit_ty (by decide +kernel)) q
theorem isi_int_list {i : Int} (q : Q (.bl false) H) : rIsi K [(.int i), .ty "list"] H Q := rd_isi (.ty _) (.base (.int _)) (kit_ty (by decide +kernel)) q
theorem isi_int_tuple {i : Int} (q : Q (.bl false) H) : rIsi K [(.int i), .ty "tuple"] H Q := rd_isi (.ty _) (.base (.int _)) (kit_ty (by decide +kernel)) q
theorem isi_int_dict {i : Int} (q : Q (.bl false) H) : rIsi K [(.int i), .ty "dict"] H Q := rd_isi (.ty _) (.base (.int _)) (kit_ty (by decide +kernel)) q
theorem isi_int_bytes {i : Int} (q : Q (.bl false) H) : rIsi K [(.int i), .ty "bytes"] H Q := rd_isi (.ty _) (.base (.int _)) (kit_ty (by decide +kernel)) q
theorem isi_bool_int {i : Bool} (q : Q (.bl true) H) : rIsi K [(.bl i), .ty "int"] H Q := rd_isi (.ty _) (.base (.bl _)) (kit_ty (by decide +kernel)) q
theorem isi_bool_bool {i : Bool} (q : Q (.bl true) H) : rIsi K [(.bl i), .ty "bool"] H Q := rd_isi (.ty _) (.base (.bl _)) (kit_ty (by decide +kernel)) q
theorem isi_bool_str {i : Bool} (q : Q (.bl false) H) : rIsi K [(.bl i), .ty "str"] H Q := rd_isi (.ty _) (.base (.bl _)) (kit_ty (by decide +kernel)) q
theorem isi_bool_list {i : Bool} (q : Q (.bl false) H) : rIsi K [(.bl i), .ty "list"] H Q := rd_isi (.ty _) (.base (.bl _)) (kit_ty (by decide +kernel)) q
theorem isi_bool_tuple {i : Bool} (q : Q (.bl false) H) : rIsi K [(.bl i), .ty "tuple"] H Q := rd_isi (.ty _) (.base (.bl _)) (kit_ty (by decide +kernel)) q
theorem isi_bool_dict {i : Bool} (q : Q (.bl false) H) : rIsi K [(.bl i), .ty "dict"] H Q := rd_isi (.ty _) (.base (.bl _)) (kit_ty (by decide +kernel)) q
theorem isi_bool_bytes {i : Bool} (q : Q (.bl false) H) : rIsi K [(.bl i), .ty "bytes"] H Q := rd_isi (.ty _) (.base (.bl _)) (kit_ty (by decide +kernel)) q
theorem isi_str_int {i : Str} (q : Q (.bl false) H) : rIsi K [(.str i), .ty "int"] H Q := rd_isi (.ty _) (.base (.str _)) (kit_ty (by decide +kernel)) q
theorem isi_str_bool {i : Str} (q : Q (.bl false) H) : rIsi K [(.str i), .ty "bool"] H Q := rd_isi (.ty _) (.base (.str _)) (kit_ty (by decide +kernel)) q
theorem isi_str_str {i : Str} (q : Q (.bl true) H) : rIsi K [(.str i), .ty "str"] H Q := rd_isi (.ty _) (.base (.str _)) (kit_ty (by decide +kernel)) q
theorem isi_str_list {i : Str} (q : Q (.bl false) H) : rIsi K [(.str i), .ty "list"] H Q := rd_isi (.ty _) (.base (.str _)) (kit_ty (by decide +kernel)) q
theorem isi_str_tuple {i : Str} (q : Q (.bl false) H) : rIsi K [(.str i), .ty "tuple"] H Q := rd_isi (.ty _) (.base (.str _)) (kit_ty (by decide +kernel)) q
theorem isi_str_dict {i : Str} (q : Q (.bl false) H) : rIsi K [(.str i), .ty "dict"] H Q := rd_isi (.ty _) (.base (.str _)) (kit_ty (by decide +kernel)) q
theorem isi_str_bytes {i : Str} (q : Q (.bl false) H) : rIsi K [(.str i), .ty "bytes"] H Q := rd_isi (.ty _) (.base (.str _)) (kit_ty (by decide +kernel)) q
theorem isi_NoneType_int  (q : Q (.bl false) H) : rIsi K [.non, .ty "int"] H Q := rd_isi (.ty _) (.base (.non)) (kit_ty (by decide +kernel)) q
theorem isi_NoneType_bool  (q : Q (.bl false) H) : rIsi K [.non, .ty "bool"] H Q := rd_isi (.ty _) (.base (.non)) (kit_ty (by decide +kernel)) q
theorem isi_NoneType_str  (q : Q (.bl false) H) : rIsi K [.non, .ty "str"] H Q := rd_isi (.ty _) (.base (.non)) (kit_ty (by decide +kernel)) q
theorem isi_NoneType_list  (q : Q (.bl false) H) : rIsi K [.non, .ty "list"] H Q := rd_isi (.ty _) (.base (.non)) (kit_ty (by decide +kernel)) q
theorem isi_NoneType_tuple  (q : Q (.bl false) H) : rIsi K [.non, .ty "tuple"] H Q := rd_isi (.ty _) (.base (.non)) (kit_ty (by decide +kernel)) q
theorem isi_NoneType_dict  (q : Q (.bl false) H) : rIsi K [.non, .ty "dict"] H Q := rd_isi (.ty _) (.base (.non)) (kit_ty (by decide +kernel)) q
theorem isi_NoneType_bytes  (q : Q (.bl false) H) : rIsi K [.non, .ty "bytes"] H Q := rd_isi (.ty _) (.base (.non)) (kit_ty (by decide +kernel)) q
theorem isi_list_int {p : Addr} {xs : List V} (h : H p = some (.lst xs)) (q : Q (.bl false) H) : rIsi K [(.ref p), .ty "int"] H Q := rd_isi (.ty _) (.base (.lst h)) (kit_ty (by decide +kernel)) q
theorem isi_list_bool {p : Addr} {xs : List V} (h : H p = some (.lst xs)) (q : Q (.bl false) H) : rIsi K [(.ref p), .ty "bool"] H Q := rd_isi (.ty _) (.base (.lst h)) (kit_ty (by decide +kernel)) q
theorem isi_list_str {p : Addr} {xs : List V} (h : H p = some (.lst xs)) (q : Q (.bl false) H) : rIsi K [(.ref p), .ty "str"] H Q := rd_isi (.ty _) (.base (.lst h)) (kit_ty (by decide +kernel)) q
theorem isi_list_list {p : Addr} {xs : List V} (h : H p = some (.lst xs)) (q : Q (.bl true) H) : rIsi K [(.ref p), .ty "list"] H Q := rd_isi (.ty _) (.base (.lst h)) (kit_ty (by decide +kernel)) q
theorem isi_list_tuple {p : Addr} {xs : List V} (h : H p = some (.lst xs)) (q : Q (.bl false) H) : rIsi K [(.ref p), .ty "tuple"] H Q := rd_isi (.ty _) (.base (.lst h)) (kit_ty (by decide +kernel)) q
theorem isi_list_dict {p : Addr} {xs : List V} (h : H p = some (.lst xs)) (q : Q (.bl false) H) : rIsi K [(.ref p), .ty "dict"] H Q := rd_isi (.ty _) (.base (.lst h)) (kit_ty (by decide +kernel)) q
theorem isi_list_bytes {p : Addr} {xs : List V} (h : H p = some (.lst xs)) (q : Q (.bl false) H) : rIsi K [(.ref p), .ty "bytes"] H Q := rd_isi (.ty _) (.base (.lst h)) (kit_ty (by decide +kernel)) q
theorem isi_tuple_int {p : Addr} {xs : List V} (h : H p = some (.tup xs)) (q : Q (.bl false) H) : rIsi K [(.ref p), .ty "int"] H Q := rd_isi (.ty _) (.base (.tup h)) (kit_ty (by decide +kernel)) q
theorem isi_tuple_bool {p : Addr} {xs : List V} (h : H p = some (.tup xs)) (q : Q (.bl false) H) : rIsi K [(.ref p), .ty "bool"] H Q := rd_isi (.ty _) (.base (.tup h)) (kit_ty (by decide +kernel)) q
theorem isi_tuple_str {p : Addr} {xs : List V} (h : H p = some (.tup xs)) (q : Q (.bl false) H) : rIsi K [(.ref p), .ty "str"] H Q := rd_isi (.ty _) (.base (.tup h)) (kit_ty (by decide +kernel)) q
theorem isi_tuple_list {p : Addr} {xs : List V} (h : H p = some (.tup xs)) (q : Q (.bl false) H) : rIsi K [(.ref p), .ty "list"] H Q := rd_isi (.ty _) (.base (.tup h)) (kit_ty (by decide +kernel)) q
theorem isi_tuple_tuple {p : Addr} {xs : List V} (h : H p = some (.tup xs)) (q : Q (.bl true) H) : rIsi K [(.ref p), .ty "tuple"] H Q := rd_isi (.ty _) (.base (.tup h)) (kit_ty (by decide +kernel)) q
theorem isi_tuple_dict {p : Addr} {xs : List V} (h : H p = some (.tup xs)) (q : Q (.bl false) H) : rIsi K [(.ref p), .ty "dict"] H Q := rd_isi (.ty _) (.base (.tup h)) (kit_ty (by decide +kernel)) q
theorem isi_tuple_bytes {p : Addr} {xs : List V} (h : H p = some (.tup xs)) (q : Q (.bl false) H) : rIsi K [(.ref p), .ty "bytes"] H Q := rd_isi (.ty _) (.base (.tup h)) (kit_ty (by decide +kernel)) q
theorem isi_dict_int {p : Addr} {xs : List (Key × V)} (h : H p = some (.dK xs)) (q : Q (.bl false) H) : rIsi K [(.ref p), .ty "int"] H Q := rd_isi (.ty _) (.base (.dK h)) (kit_ty (by decide +kernel)) q
theorem isi_dict_bool {p : Addr} {xs : List (Key × V)} (h : H p = some (.dK xs)) (q : Q (.bl false) H) : rIsi K [(.ref p), .ty "bool"] H Q := rd_isi (.ty _) (.base (.dK h)) (kit_ty (by decide +kernel)) q
theorem isi_dict_str {p : Addr} {xs : List (Key × V)} (h : H p = some (.dK xs)) (q : Q (.bl false) H) : rIsi K [(.ref p), .ty "str"] H Q := rd_isi (.ty _) (.base (.dK h)) (kit_ty (by decide +kernel)) q
theorem isi_dict_list {p : Addr} {xs : List (Key × V)} (h : H p = some (.dK xs)) (q : Q (.bl false) H) : rIsi K [(.ref p), .ty "list"] H Q := rd_isi (.ty _) (.base (.dK h)) (kit_ty (by decide +kernel)) q
theorem isi_dict_tuple {p : Addr} {xs : List (Key × V)} (h : H p = some (.dK xs)) (q : Q (.bl false) H) : rIsi K [(.ref p), .ty "tuple"] H Q := rd_isi (.ty _) (.base (.dK h)) (kit_ty (by decide +kernel)) q
theorem isi_dict_dict {p : Addr} {xs : List (Key × V)} (h : H p = some (.dK xs)) (q : Q (.bl true) H) : rIsi K [(.ref p), .ty "dict"] H Q := rd_isi (.ty _) (.base (.dK h)) (kit_ty (by decide +kernel)) q
theorem isi_dict_bytes {p : Addr} {xs : List (Key × V)} (h : H p = some (.dK xs)) (q : Q (.bl false) H) : rIsi K [(.ref p), .ty "bytes"] H Q := rd_isi (.ty _) (.base (.dK h)) (kit_ty (by decide +kernel)) q
end
/-! ### the head's facts and some more of K -/
def obsX (n : Nat) (fa : List He.Fa) (fn : List He.DefD) (ex : PySem.W.Frag → Bool) (g : Addr → Option Obj) : He.AlD × Bool := (He.obsD fa fn (He.frG g (He.asD g n)), ex (He.frG g (He.asD g n)))
def hookX (n : Nat) (fa : List He.Fa) (fn : List He.DefD) (ex : PySem.W.Frag → Bool) : PySem.W.Hook where
  α := He.AlD × Bool
  obs := fun s => obsX n fa fn ex s.heap.get?
  val := fun _ => (He.valD fn, true)
  says := fun _ h => ∃ K : PySem.W.Frag, K.In h ∧ He.SaysD fa fn K ∧ ex K = true
  of := fun _ _ e => ⟨_, He.frG_in, congrArg Prod.fst e, congrArg Prod.snd e⟩
  keeps := fun _ _ _ ⟨K, hK, c⟩ k => ⟨K, PySem.W.Frag.In.keeps hK k, c⟩
theorem obsX_eq {n : Nat} {fa : List He.Fa} {fn : List He.DefD} {ex : PySem.W.Frag → Bool} {g : Addr → Option Obj} {s : Shared} (h : ∀ a, g a = s.heap.get? a) : obsX n fa fn ex g = (hookX n fa fn ex).obs s := by
  have e : g = s.heap.get? := funext h
  rw [e] <;> rfl
theorem ex_at {exs : List (PySem.W.Frag → Bool)} {K : PySem.W.Frag} (h : (exs.all fun f => f K) = true) (i : Nat) {f : PySem.W.Frag → Bool} (e : exs[i]? = some f := by rfl) : f K = true := List.all_eq_true.mp h f (List.mem_of_getElem? e)
/-! ### rules under names -/
def qIsN : R2 := fun x y H Q => y = .non ∧ Q (.bl (decide (x = .non))) H
def qNotN : R2 := fun x y H Q => y = .non ∧ Q (.bl (!decide (x = .non))) H
def qInt1 : List V → Hp → VK → Prop := fun xs H Q => (∃ i, xs = [.int i] ∧ Q (.int i) H) ∨ ∃ k, xs = [.bl k] ∧ Q (.int (if k then 1 else 0)) H
def qBool1 : List V → Hp → VK → Prop := fun xs H Q => (∃ i, xs = [.int i] ∧ Q (.bl (i != 0)) H) ∨ ∃ k, xs = [.bl k] ∧ Q (.bl k) H
def qLen (K : PySem.W.Frag) : List V → Hp → VK → Prop := fun xs H Q => ∃ p ys, xs = [.ref p] ∧ (SqL K H p ys ∨ SqT K H p ys) ∧ (ys.length ≤ 1152921504606846976 → Q (.int ys.length) H)
def qLenS : List V → Hp → VK → Prop := fun xs H Q => ∃ z, xs = [.str z] ∧ z.length ≤ sizeLine ∧ Q (.int z.length) H
def qListOf (K : PySem.W.Frag) : List V → Hp → VK → Prop := fun xs H Q => ∃ p ys, xs = [.ref p] ∧ (SqL K H p ys ∨ SqT K H p ys) ∧ ∀ l, H l = none → Q (.ref l) (upd H l (.lst ys))
def qMax2 : List V → Hp → VK → Prop := fun xs H Q => ∃ i j, xs = [.int i, .int j] ∧ Q (.int (if j > i then j else i)) H
def qMin2 : List V → Hp → VK → Prop := fun xs H Q => ∃ i j, xs = [.int i, .int j] ∧ Q (.int (if j < i then j else i)) H
section
variable {X : Cx} {K : PySem.W.Frag} {H : Hp} {Q : VK} {x : V}
theorem op_isNq : OpR X (compareOp .Is) qIsN := op_isN
theorem op_notNq : OpR X (compareOp .IsNot) qNotN := op_notN
theorem call_int1q : CallR X (.type "int") qInt1 := call_int1
theorem call_bool1q : CallR X (.type "bool") qBool1 := call_bool1
theorem call_lenq : CallR X (.builtin "len") (qLen X.K) := by
  intro pins s σ H xs us Q I r h
  obtain ⟨p, ys, rfl, hs, q⟩ := h
  have hz : ys.length ≤ sizeLine := by
    rcases hs with hs | hs
    · obtain ⟨_, _, _, z⟩ := I.list hs
      exact z
    · obtain ⟨_, _, _, z⟩ := I.tuple hs
      exact z
  exact call_len_seq pins s σ H _ us Q I r ⟨p, ys, rfl, hs, q (Nat.le_trans hz (by decide))⟩
theorem call_lenSq : CallR X (.builtin "len") qLenS := call_len_str
theorem call_listq : CallR X (.type "list") (qListOf X.K) := call_list_of
theorem call_max2q (hc : X.calm = true) : CallR X (.builtin "max") qMax2 := call_max2 hc
theorem call_min2q (hc : X.calm = true) : CallR X (.builtin "min") qMin2 := call_min2 hc
theorem rd_isNn (q : Q (.bl true) H) : qIsN .non .non H Q := ⟨rfl, q⟩
theorem rd_isNi {i : Int} (q : Q (.bl false) H) : qIsN (.int i) .non H Q := ⟨rfl, q⟩
theorem rd_isNb {i : Bool} (q : Q (.bl false) H) : qIsN (.bl i) .non H Q := ⟨rfl, q⟩
theorem rd_isNs {i : Str} (q : Q (.bl false) H) : qIsN (.str i) .non H Q := ⟨rfl, q⟩
theorem rd_isNr {i : Addr} (q : Q (.bl false) H) : qIsN (.ref i) .non H Q := ⟨rfl, q⟩
theorem rd_notNn (q : Q (.bl false) H) : qNotN .non .non H Q := ⟨rfl, q⟩
theorem rd_notNi {i : Int} (q : Q (.bl true) H) : qNotN (.int i) .non H Q := ⟨rfl, q⟩
theorem rd_notNb {i : Bool} (q : Q (.bl true) H) : qNotN (.bl i) .non H Q := ⟨rfl, q⟩
theorem rd_notNs {i : Str} (q : Q (.bl true) H) : qNotN (.str i) .non H Q := ⟨rfl, q⟩
theorem rd_notNr {i : Addr} (q : Q (.bl true) H) : qNotN (.ref i) .non H Q := ⟨rfl, q⟩
theorem rd_int1 {i : Int} (q : Q (.int i) H) : qInt1 [.int i] H Q := .inl ⟨i, rfl, q⟩
theorem rd_int1b {k : Bool} (q : Q (.int (if k then 1 else 0)) H) : qInt1 [.bl k] H Q := .inr ⟨k, rfl, q⟩
theorem rd_lenL {p : Addr} {xs : List V} (h : SqL K H p xs) (q : xs.length ≤ 1152921504606846976 → Q (.int xs.length) H) : qLen K [.ref p] H Q := ⟨p, xs, rfl, .inl h, q⟩
theorem rd_lenT {p : Addr} {xs : List V} (h : SqT K H p xs) (q : xs.length ≤ 1152921504606846976 → Q (.int xs.length) H) : qLen K [.ref p] H Q := ⟨p, xs, rfl, .inr h, q⟩
theorem rd_listL {p : Addr} {xs : List V} (h : SqL K H p xs) (q : ∀ l, H l = none → Q (.ref l) (upd H l (.lst xs))) : qListOf K [.ref p] H Q := ⟨p, xs, rfl, .inl h, q⟩
end
section
variable {K : PySem.W.Frag} {H : Hp} {Q : VK}
theorem rd_xor {a b : Nat} (q : Q (.int ((a ^^^ b : Nat) : Int)) H) : rI0 (fun i j => .int (Builtin.bitXor i j)) (.int (a : Int)) (.int (b : Int)) H Q :=
  rd_i0 (by rw [Bits.bitXor_pp (x := (a : Int)) (y := (b : Int)) (by omega) (by omega)]; exact q)
theorem iteNF {A B : Prop} (h : A) : if (!false) = true then A else B := by
  rw [if_pos (show (!false) = true from rfl)]
  exact h
theorem iteNT {A B : Prop} (h : B) : if (!true) = true then A else B := by
  rw [if_neg (by decide)]
  exact h
theorem iteNS' {c A B : Prop} [Decidable c] (hc : ¬ c) (h : A) : if (!decide c) = true then A else B := by
  rw [decide_eq_false hc]
  exact iteNF h
theorem not_t {c : Prop} [Decidable c] (h : (!decide c) = true) : ¬ c := by
  cases q : decide c with
  | true => rw [q] at h; cases h
  | false => exact of_decide_eq_false q
theorem not_f {c : Prop} [Decidable c] (h : (!decide c) = false) : c := by
  cases q : decide c with
  | true => exact of_decide_eq_true q
  | false => rw [q] at h; cases h
theorem iteD {c A B : Prop} [Decidable c] (hc : c) (h : A) : if decide c = true then A else B := by
  rw [decide_eq_true hc]
  exact iteT h
theorem iteDn {c A B : Prop} [Decidable c] (hc : ¬ c) (h : B) : if decide c = true then A else B := by
  rw [decide_eq_false hc]
  exact iteF h
theorem atI_int {ns : List Int} {i : Int} (h0 : 0 ≤ i) (h1 : i < ns.length) : ∃ z : Int, atI (ns.map V.int) i = some (.int z) ∧ ns[i.toNat]? = some z := by
  have hk : i.toNat < ns.length := by omega
  have e : ((i.toNat : Nat) : Int) = i := by omega
  refine ⟨ns[i.toNat], ?_, List.getElem?_eq_getElem hk⟩
  have q : atI (ns.map V.int) ((i.toNat : Nat) : Int) = some (.int ns[i.toNat]) := atI_nat (by rw [List.getElem?_map, List.getElem?_eq_getElem hk] <;> rfl)
  rw [e] at q
  exact q
theorem same_new {H : Hp} {p : Addr} (h : H p = none) (o : HO) : Same H (upd H p o) := fun b u q => by rw [upd_ne (ne_of_none q h)]; exact q
end
/-- a statement, then the rest, with a word between them: what follows is shown once -/
def qJoin (t u : TS) : TS := fun D σ H => ∃ Mid : L2.St → Hp → Prop, t { D with nx := Mid } σ H ∧ ∀ σ' H', Mid σ' H' → u D σ' H'
theorem pss_join {X : Cx} {st : Stmt} {rest : List Stmt} {t u : TS} (h1 : PS X st t) (h2 : PSs X rest u) : PSs X (st :: rest) (qJoin t u) := by
  refine ⟨fun pins s σ H D I h => ?_⟩
  obtain ⟨Mid, h, k⟩ := h
  refine wpAny_execs_cons (thn (h1.run pins s σ H { D with nx := Mid } I h) fun f s1 q => ?_)
  cases f with
  | next =>
    obtain ⟨σ', H', I', q⟩ := q
    exact h2.run pins s1 σ' H' D I' (k σ' H' q)
  | ret v => exact q
  | brk => exact q
  | cont => exact q
theorem cx_K {CX : CXT} {P : Program} {w : World} {K : PySem.W.Frag} {mg : Str → Option Value} {base : Heap} {N : List Str} {qual : Str} {sc : Scope} {f : Addr} {cd : Value} {A : Around} {outer : List Env} {s : Shared} {H : Hp} {E : XK} : (cxOf CX P w K mg base N qual sc f cd A outer s H E).nox.K = K := rfl
theorem cx_K2 {CX : CXT} {P : Program} {w : World} {K : PySem.W.Frag} {mg : Str → Option Value} {base : Heap} {N : List Str} {qual : Str} {sc : Scope} {f : Addr} {cd : Value} {A : Around} {outer : List Env} {s : Shared} {H : Hp} {E : XK} : (cxOf CX P w K mg base N qual sc f cd A outer s H E).K = K := rfl
theorem cx_w {CX : CXT} {P : Program} {w : World} {K : PySem.W.Frag} {mg : Str → Option Value} {base : Heap} {N : List Str} {qual : Str} {sc : Scope} {f : Addr} {cd : Value} {A : Around} {outer : List Env} {s : Shared} {H : Hp} {E : XK} : (cxOf CX P w K mg base N qual sc f cd A outer s H E).nox.w = w := rfl
/-! ### data: what a value stands for, off the objects M that change -/
/-- all that is not in M stays; nothing goes -/
structure Ext (M : List Addr) (H H' : Hp) : Prop where
  keep : ∀ b o, b ∉ M → H b = some o → H' b = some o
  there : ∀ b, H b ≠ none → H' b ≠ none
/-- the objects M stand -/
def Al (M : List Addr) (H : Hp) : Prop := ∀ b ∈ M, H b ≠ none
mutual
inductive Is (M : List Addr) (H : Hp) : V → PyData → Prop
  | non : Is M H .non .none
  | bl (b : Bool) : Is M H (.bl b) (.bool b)
  | int (i : Int) : Is M H (.int i) (.int i)
  | str (x : Str) : Is M H (.str x) (.str x)
  | lst {a : Addr} {xs : List V} {ds : List PyData} : a ∉ M → H a = some (.lst xs) → IsAll M H xs ds → Is M H (.ref a) (.list ds)
  | tup {a : Addr} {xs : List V} {ds : List PyData} : a ∉ M → H a = some (.tup xs) → IsAll M H xs ds → Is M H (.ref a) (.tuple ds)
inductive IsAll (M : List Addr) (H : Hp) : List V → List PyData → Prop
  | nil : IsAll M H [] []
  | cons {v : V} {vs : List V} {d : PyData} {ds : List PyData} : Is M H v d → IsAll M H vs ds → IsAll M H (v :: vs) (d :: ds)
end
section
variable {M M' : List Addr} {H H' H'' : Hp} {v x : V} {vs xs : List V} {d : PyData} {ds : List PyData} {a p : Addr} {o : HO} {K : PySem.W.Frag}
theorem Ext.refl : Ext M H H := ⟨fun _ _ _ h => h, fun _ h => h⟩
theorem Ext.trans (e : Ext M H H') (f : Ext M H' H'') : Ext M H H'' := ⟨fun b o hb h => f.keep b o hb (e.keep b o hb h), fun b h => f.there b (e.there b h)⟩
theorem Ext.more (e : Ext M H H') (h : ∀ b ∈ M, b ∈ M') : Ext M' H H' := ⟨fun b o hb k => e.keep b o (fun q => hb (h b q)) k, e.there⟩
theorem Ext.any (e : Ext [] H H') : Ext M H H' := e.more fun b h => nomatch h
theorem there_upd : ∀ b, H b ≠ none → (upd H p o) b ≠ none := fun b h => by
  unfold upd
  split
  · exact fun z => nomatch z
  · exact h
theorem Ext.new (h : H p = none) : Ext M H (upd H p o) := ⟨fun b u _ k => by rw [upd_ne (ne_of_none k h)]; exact k, there_upd⟩
theorem Ext.set (h : p ∈ M) : Ext M H (upd H p o) := ⟨fun b u hb k => by rw [upd_ne (fun e => hb (by rw [e]; exact h))]; exact k, there_upd⟩
/-- a change of what was not there at first -/
theorem Ext.mut (e : Ext M H H') (h : H p = none) : Ext M H (upd H' p o) := ⟨fun b u hb k => by rw [upd_ne (ne_of_none k h)]; exact e.keep b u hb k, fun b k => there_upd b (e.there b k)⟩
theorem Ext.same (e : Ext [] H H') : Same H H' := fun b o h => e.keep b o (fun q => nomatch q) h
theorem Ext.free (e : Ext M H H') (h : H' p = none) : H p = none := by
  cases q : H p with
  | none => rfl
  | some o => exact absurd h (e.there p (by rw [q]; exact fun z => nomatch z))
theorem Ext.drop (e : Ext (p :: M) H H') (h : H p = none) : Ext M H H' := ⟨fun b o hb k => e.keep b o (fun q => by
  rcases List.mem_cons.mp q with rfl | q
  · rw [h] at k; cases k
  · exact hb q) k, e.there⟩
theorem Al.ext (s : Al M H) (e : Ext M' H H') : Al M H' := fun b hb => e.there b (s b hb)
theorem Al.nil : Al [] H := fun b h => nomatch h
theorem Al.cons (h : H p ≠ none) (s : Al M H) : Al (p :: M) H := fun b hb => by
  rcases List.mem_cons.mp hb with rfl | hb
  · exact h
  · exact s b hb
theorem Al.fresh (s : Al M H) (h : H p = none) : p ∉ M := fun q => s p q h
theorem some_ne {b : Addr} {o : HO} (h : H b = some o) : H b ≠ none := by rw [h]; exact fun z => nomatch z
theorem upd_there : upd H p o p ≠ none := by rw [upd_same]; exact fun z => nomatch z
mutual
theorem Is.mono (e : Ext M H H') : ∀ {v : V} {d : PyData}, Is M H v d → Is M H' v d
  | _, _, .non => .non
  | _, _, .bl b => .bl b
  | _, _, .int i => .int i
  | _, _, .str x => .str x
  | _, _, .lst n h r => .lst n (e.keep _ _ n h) (IsAll.mono e r)
  | _, _, .tup n h r => .tup n (e.keep _ _ n h) (IsAll.mono e r)
theorem IsAll.mono (e : Ext M H H') : ∀ {vs : List V} {ds : List PyData}, IsAll M H vs ds → IsAll M H' vs ds
  | _, _, .nil => .nil
  | _, _, .cons h r => .cons (Is.mono e h) (IsAll.mono e r)
end
mutual
/-- other objects are looked away from -/
theorem Is.swap (h : ∀ b ∈ M', b ∈ M ∨ H b = none) : ∀ {v : V} {d : PyData}, Is M H v d → Is M' H v d
  | _, _, .non => .non
  | _, _, .bl b => .bl b
  | _, _, .int i => .int i
  | _, _, .str x => .str x
  | _, _, .lst n k r => .lst (fun q => by
      rcases h _ q with z | z
      · exact n z
      · rw [z] at k; cases k) k (IsAll.swap h r)
  | _, _, .tup n k r => .tup (fun q => by
      rcases h _ q with z | z
      · exact n z
      · rw [z] at k; cases k) k (IsAll.swap h r)
theorem IsAll.swap (h : ∀ b ∈ M', b ∈ M ∨ H b = none) : ∀ {vs : List V} {ds : List PyData}, IsAll M H vs ds → IsAll M' H vs ds
  | _, _, .nil => .nil
  | _, _, .cons k r => .cons (Is.swap h k) (IsAll.swap h r)
end
theorem Is.off (i : Is M H v d) (h : H p = none) : Is (p :: M) H v d := i.swap fun b hb => by
  rcases List.mem_cons.mp hb with rfl | hb
  · exact .inr h
  · exact .inl hb
theorem IsAll.off (i : IsAll M H vs ds) (h : H p = none) : IsAll (p :: M) H vs ds := i.swap fun b hb => by
  rcases List.mem_cons.mp hb with rfl | hb
  · exact .inr h
  · exact .inl hb
theorem Is.on (i : Is (p :: M) H v d) : Is M H v d := i.swap fun b hb => .inl (List.mem_cons_of_mem _ hb)
theorem IsAll.on (i : IsAll (p :: M) H vs ds) : IsAll M H vs ds := i.swap fun b hb => .inl (List.mem_cons_of_mem _ hb)
theorem Is.all (i : Is M H v d) : Is [] H v d := i.swap fun b hb => absurd hb (by simp)
/-- a new object beside -/
theorem Is.beside (i : Is M H v d) (h : H p = none) : Is (p :: M) (upd H p o) v d := (i.off h).mono (.set (List.mem_cons_self ..))
theorem IsAll.beside (i : IsAll M H vs ds) (h : H p = none) : IsAll (p :: M) (upd H p o) vs ds := (i.off h).mono (.set (List.mem_cons_self ..))
mutual
theorem Is.dp : ∀ {v : V} {d : PyData}, Is M H v d → Dp K H v d
  | _, _, .non => .non
  | _, _, .bl b => .bl b
  | _, _, .int i => .int i
  | _, _, .str x => .str x
  | _, _, .lst _ h r => .lst (SqL.of h) (IsAll.dp r)
  | _, _, .tup _ h r => .tup (SqT.of h) (IsAll.dp r)
theorem IsAll.dp : ∀ {vs : List V} {ds : List PyData}, IsAll M H vs ds → DpAll K H vs ds
  | _, _, .nil => .nil
  | _, _, .cons h r => .cons (Is.dp h) (IsAll.dp r)
end
theorem IsAll.length : ∀ {vs : List V} {ds : List PyData}, IsAll M H vs ds → vs.length = ds.length
  | _, _, .nil => rfl
  | _, _, .cons _ r => congrArg Nat.succ r.length
theorem IsAll.get : ∀ {vs : List V} {ds : List PyData} {i : Nat}, IsAll M H vs ds → ds[i]? = some d → ∃ v, vs[i]? = some v ∧ Is M H v d
  | _, _, _, .nil, e => by simp at e
  | _, _, 0, .cons h _, e => by simp at e; subst e; exact ⟨_, rfl, h⟩
  | _, _, i + 1, .cons _ r, e => by
    obtain ⟨u, h1, h2⟩ := IsAll.get (i := i) r (by simpa using e)
    exact ⟨u, by simpa using h1, h2⟩
theorem IsAll.got : ∀ {vs : List V} {ds : List PyData} {i : Nat}, IsAll M H vs ds → vs[i]? = some v → ∃ d, ds[i]? = some d ∧ Is M H v d
  | _, _, _, .nil, e => by simp at e
  | _, _, 0, .cons h _, e => by simp at e; subst e; exact ⟨_, rfl, h⟩
  | _, _, i + 1, .cons _ r, e => by
    obtain ⟨u, h1, h2⟩ := IsAll.got (i := i) r (by simpa using e)
    exact ⟨u, by simpa using h1, h2⟩
theorem IsAll.append : ∀ {vs ws : List V} {ds es : List PyData}, IsAll M H vs ds → IsAll M H ws es → IsAll M H (vs ++ ws) (ds ++ es)
  | _, _, _, _, .nil, s => s
  | _, _, _, _, .cons r t, s => .cons r (IsAll.append t s)
theorem IsAll.one (h : Is M H v d) : IsAll M H [v] [d] := .cons h .nil
theorem IsAll.take : ∀ {vs : List V} {ds : List PyData} (n : Nat), IsAll M H vs ds → IsAll M H (vs.take n) (ds.take n)
  | _, _, 0, _ => by simp only [List.take_zero]; exact .nil
  | _, _, _ + 1, .nil => .nil
  | _, _, n + 1, .cons r t => .cons r (IsAll.take n t)
theorem IsAll.drop : ∀ {vs : List V} {ds : List PyData} (n : Nat), IsAll M H vs ds → IsAll M H (vs.drop n) (ds.drop n)
  | _, _, 0, r => r
  | _, _, _ + 1, .nil => .nil
  | _, _, n + 1, .cons _ t => IsAll.drop n t
theorem IsAll.rev : ∀ {vs : List V} {ds : List PyData}, IsAll M H vs ds → IsAll M H vs.reverse ds.reverse
  | _, _, .nil => .nil
  | _, _, .cons r t => by
    rw [List.reverse_cons, List.reverse_cons]
    exact (IsAll.rev t).append (.one r)
theorem IsAll.set : ∀ {vs : List V} {ds : List PyData} (i : Nat), IsAll M H vs ds → Is M H v d → IsAll M H (vs.set i v) (ds.set i d)
  | _, _, _, .nil, _ => .nil
  | _, _, 0, .cons _ t, h => .cons h t
  | _, _, i + 1, .cons r t, h => .cons r (IsAll.set i t h)
theorem IsAll.ints : ∀ ns : List Int, IsAll M H (ns.map V.int) (ns.map PyData.int)
  | [] => .nil
  | n :: ns => .cons (.int n) (IsAll.ints ns)
theorem IsAll.ofInts : ∀ {vs : List V} {ns : List Int}, IsAll M H vs (ns.map PyData.int) → vs = ns.map V.int
  | _, [], h => by cases h; rfl
  | _, n :: ns, h => by
    cases h with
    | cons h r => cases h; rw [IsAll.ofInts r]; rfl
/-! readings -/
theorem Is.list (i : Is M H (.ref a) (.list ds)) : ∃ xs, a ∉ M ∧ H a = some (.lst xs) ∧ IsAll M H xs ds := by
  cases i with
  | lst n h r => exact ⟨_, n, h, r⟩
theorem Is.tuple (i : Is M H (.ref a) (.tuple ds)) : ∃ xs, a ∉ M ∧ H a = some (.tup xs) ∧ IsAll M H xs ds := by
  cases i with
  | tup n h r => exact ⟨_, n, h, r⟩
theorem Is.listV (i : Is M H v (.list ds)) : ∃ a xs, v = .ref a ∧ a ∉ M ∧ H a = some (.lst xs) ∧ IsAll M H xs ds := by
  cases i with
  | lst n h r => exact ⟨_, _, rfl, n, h, r⟩
theorem Is.tupleV (i : Is M H v (.tuple ds)) : ∃ a xs, v = .ref a ∧ a ∉ M ∧ H a = some (.tup xs) ∧ IsAll M H xs ds := by
  cases i with
  | tup n h r => exact ⟨_, _, rfl, n, h, r⟩
variable {Q : VK} {e : PyData}
theorem rd_dix {i : Int} {j : Nat} (h : Is M H (.ref a) (.list ds)) (hj : i = (j : Int)) (hd : ds[j]? = some d) (q : ∀ v, Is M H v d → Q v H) : rIxL K (.ref a) (.int i) H Q := by
  obtain ⟨xs, _, hx, r⟩ := h.list
  obtain ⟨v, hv, iv⟩ := r.get hd
  exact ⟨a, xs, i, v, rfl, rfl, SqL.of hx, by rw [hj]; exact atI_nat hv, q v iv⟩
theorem rd_dixT {i : Int} {j : Nat} (h : Is M H (.ref a) (.tuple ds)) (hj : i = (j : Int)) (hd : ds[j]? = some d) (q : ∀ v, Is M H v d → Q v H) : rIxT K (.ref a) (.int i) H Q := by
  obtain ⟨xs, _, hx, r⟩ := h.tuple
  obtain ⟨v, hv, iv⟩ := r.get hd
  exact ⟨a, xs, i, v, rfl, rfl, SqT.of hx, by rw [hj]; exact atI_nat hv, q v iv⟩
theorem rd_dlen (h : Is M H (.ref a) (.list ds)) (q : ds.length ≤ 1152921504606846976 → Q (.int ds.length) H) : qLen K [.ref a] H Q := by
  obtain ⟨xs, _, hx, r⟩ := h.list
  exact rd_lenL (SqL.of hx) (by rw [r.length]; exact q)
theorem rd_dlenT (h : Is M H (.ref a) (.tuple ds)) (q : ds.length ≤ 1152921504606846976 → Q (.int ds.length) H) : qLen K [.ref a] H Q := by
  obtain ⟨xs, _, hx, r⟩ := h.tuple
  exact rd_lenT (SqT.of hx) (by rw [r.length]; exact q)
theorem rd_eqD (h : Is M H x d) (k : Is M' H v e) (s1 : SeqAt.shaped d = true) (s2 : SeqAt.shaped e = true) (q : Q (.bl (PyData.eqv d e)) H) : rEqD K x v H Q := ⟨d, e, h.dp, k.dp, s1, s2, q⟩
theorem rd_neD (h : Is M H x d) (k : Is M' H v e) (s1 : SeqAt.shaped d = true) (s2 : SeqAt.shaped e = true) (q : Q (.bl (!PyData.eqv d e)) H) : rNeD K x v H Q := ⟨d, e, h.dp, k.dp, s1, s2, q⟩
/-- a new list, a new tuple -/
theorem new_lst (s : Al M H) (h : IsAll M H xs ds) (hp : H p = none) : Is M (upd H p (.lst xs)) (.ref p) (.list ds) := .lst (s.fresh hp) upd_same (h.mono (.new hp))
theorem new_tup (s : Al M H) (h : IsAll M H xs ds) (hp : H p = none) : Is M (upd H p (.tup xs)) (.ref p) (.tuple ds) := .tup (s.fresh hp) upd_same (h.mono (.new hp))
theorem szl {n : Nat} (h : n ≤ 1000) : n ≤ sizeLine := Nat.le_of_lt (small1000 h)
theorem szL {n : Nat} (h : n ≤ 100000) : n ≤ sizeLine := Nat.le_trans h (by decide)
theorem szl' {n : Nat} (h : n ≤ 100000) : n < sizeLine := Nat.lt_of_le_of_lt h (by decide)
theorem rd_dtup {K : PySem.W.Frag} {σ : L2.St} {ts : TA} (q : ts σ H fun xs H1 => xs.length ≤ sizeLine ∧ ∀ p, H1 p = none → Q (.ref p) (upd H1 p (.tup xs))) : tTup ts σ H Q := q
/-- slices by places that are not negative -/
theorem cut_nn (xs : List V) (lo hi : Nat) : cutV xs (some (lo : Int)) (some (hi : Int)) = (xs.take hi).drop lo := by
  unfold cutV
  rw [HT.sIx_nat, HT.sIx_nat, List.drop_take]
  apply List.ext_getElem?
  intro i
  simp only [List.getElem?_take, List.getElem?_drop]
  by_cases h1 : lo ≤ xs.length
  · rw [Nat.min_eq_left h1]
    by_cases h2 : hi ≤ xs.length
    · rw [Nat.min_eq_left h2]
    · rw [Nat.min_eq_right (by omega)]
      by_cases h3 : i < hi - lo
      · rw [if_pos h3]
        by_cases h4 : i < xs.length - lo
        · rw [if_pos h4]
        · rw [if_neg h4, List.getElem?_eq_none (by omega)]
      · rw [if_neg h3, if_neg (by omega)]
  · rw [Nat.min_eq_right (by omega : xs.length ≤ lo), if_neg (by omega)]
    split
    · rw [List.getElem?_eq_none (by omega)]
    · rfl
theorem cut_0n (xs : List V) (hi : Nat) : cutV xs none (some (hi : Int)) = xs.take hi := by
  have e := cut_nn xs 0 hi
  rw [List.drop_zero] at e
  rw [← e]
  unfold cutV
  rw [HT.sIx_nat, HT.sIx_nat, HT.sIx_none, Nat.zero_min]
theorem cut_n0 (xs : List V) (lo : Nat) : cutV xs (some (lo : Int)) none = xs.drop lo := by
  have e := cut_nn xs lo xs.length
  rw [List.take_length] at e
  rw [← e]
  unfold cutV
  rw [HT.sIx_nat, HT.sIx_nat, HT.sIx_none, Nat.min_self]
theorem cut_00 (xs : List V) : cutV xs none none = xs := by
  unfold cutV
  rw [HT.sIx_none, HT.sIx_none, List.drop_zero, Nat.sub_zero, List.take_length]
theorem IsAll.cut {lo hi : Nat} (h : IsAll M H xs ds) : IsAll M H (cutV xs (some (lo : Int)) (some (hi : Int))) ((ds.take hi).drop lo) := by
  rw [cut_nn]
  exact (h.take hi).drop lo
theorem IsAll.cut0 {hi : Nat} (h : IsAll M H xs ds) : IsAll M H (cutV xs none (some (hi : Int))) (ds.take hi) := by
  rw [cut_0n]
  exact h.take hi
theorem IsAll.cutN {lo : Nat} (h : IsAll M H xs ds) : IsAll M H (cutV xs (some (lo : Int)) none) (ds.drop lo) := by
  rw [cut_n0]
  exact h.drop lo
end
section
variable {M : List Addr} {H0 H H1 : Hp} {a D : Addr} {ds : List PyData} {K : PySem.W.Frag} {j : Nat} {vs : List Nat} {te : TE} {tt : TT} {σ : L2.St} {Qd : Hp → Prop} {g : TG} {tb : TS} {E : Ends}
/-- a walk over data, the list stands still -/
theorem for_data (h : Is M H0 (.ref a) (.list ds)) (Pv : Nat → L2.St → Hp → Prop) (h0 : Pv 0 σ H) (hE : ∀ i σ H, Pv i σ H → Ext M H0 H)
    (hs : ∀ i d x σ H, ds[i]? = some d → Is M H x d → Pv i σ H → g x σ H fun σ2 H2 => tb { E with nx := Pv (i + 1), ct := Pv (i + 1), bk := E.nx } σ2 H2) (hd : ∀ σ H, Pv ds.length σ H → E.nx σ H) :
    ∃ W : Nat → Nat → L2.St → Hp → Prop, (∃ m, W 0 m σ H) ∧ ∀ i m σ H, W i m σ H →
      ((Itl K a).stop i H ∧ E.nx σ H) ∨ ((Itl K a).go i H ∧ ∃ N : L2.St → Hp → Prop, (∀ σ' H', N σ' H' → ∃ m', m' < m ∧ W (i + 1) m' σ' H') ∧ ∀ x H', (Itl K a).yld i H x H' → g x σ H' fun σ2 H2 => tb { E with nx := N, ct := N, bk := E.nx } σ2 H2) := by
  obtain ⟨xs, na, hx, r⟩ := h.list
  refine for_list (xs := xs) Pv h0 (fun i σ H _ p => SqL.of ((hE i σ H p).keep _ _ na hx)) (fun i x σ H hi p => ?_) (fun σ H p => hd σ H (by rw [← r.length]; exact p))
  obtain ⟨d, hd', iv⟩ := r.got hi
  exact hs i d x σ H hd' (iv.mono (hE i σ H p)) p
theorem for_dataT (h : Is M H0 (.ref a) (.tuple ds)) (Pv : Nat → L2.St → Hp → Prop) (h0 : Pv 0 σ H) (hE : ∀ i σ H, Pv i σ H → Ext M H0 H)
    (hs : ∀ i d x σ H, ds[i]? = some d → Is M H x d → Pv i σ H → g x σ H fun σ2 H2 => tb { E with nx := Pv (i + 1), ct := Pv (i + 1), bk := E.nx } σ2 H2) (hd : ∀ σ H, Pv ds.length σ H → E.nx σ H) :
    ∃ W : Nat → Nat → L2.St → Hp → Prop, (∃ m, W 0 m σ H) ∧ ∀ i m σ H, W i m σ H →
      ((Itt K a).stop i H ∧ E.nx σ H) ∨ ((Itt K a).go i H ∧ ∃ N : L2.St → Hp → Prop, (∀ σ' H', N σ' H' → ∃ m', m' < m ∧ W (i + 1) m' σ' H') ∧ ∀ x H', (Itt K a).yld i H x H' → g x σ H' fun σ2 H2 => tb { E with nx := N, ct := N, bk := E.nx } σ2 H2) := by
  obtain ⟨xs, na, hx, r⟩ := h.tuple
  refine for_tup (xs := xs) Pv h0 (fun i σ H _ p => SqT.of ((hE i σ H p).keep _ _ na hx)) (fun i x σ H hi p => ?_) (fun σ H p => hd σ H (by rw [← r.length]; exact p))
  obtain ⟨d, hd', iv⟩ := r.got hi
  exact hs i d x σ H hd' (iv.mono (hE i σ H p)) p
/-- what a comprehension has made so far -/
structure Made (M : List Addr) (H0 : Hp) (D : Addr) (es : List PyData) (H : Hp) : Prop where
  free : H0 D = none
  ext : Ext [] H0 H
  off : D ∉ M
  ls : ∃ ys, H D = some (.lst ys) ∧ IsAll (D :: M) H ys es
theorem Made.start (s : Al M H0) (hD : H0 D = none) : Made M H0 D [] (upd H0 D (.lst [])) := ⟨hD, .new hD, s.fresh hD, [], upd_same, .nil⟩
theorem Made.al {es : List PyData} (m : Made M H0 D es H) (s : Al M H0) : Al (D :: M) H := by
  obtain ⟨ys, h1, h2⟩ := m.ls
  exact .cons (some_ne h1) (s.ext m.ext)
theorem Made.is {es : List PyData} (m : Made M H0 D es H) : Is M H (.ref D) (.list es) := by
  obtain ⟨ys, h1, h2⟩ := m.ls
  exact .lst m.off h1 h2.on
theorem Made.step {es : List PyData} {d : PyData} {y : V} {H' : Hp} (m : Made M H0 D es H) (e : Ext [] H H') (h : Is (D :: M) H' y d) (hl : es.length < 100000) :
    ∃ acc, H' D = some (.lst acc) ∧ acc.length < sizeLine ∧ Made M H0 D (es ++ [d]) (upd H' D (.lst (acc ++ [y]))) := by
  obtain ⟨ys, h1, h2⟩ := m.ls
  refine ⟨ys, e.keep _ _ (fun q => nomatch q) h1, szl' (by rw [h2.length]; omega), m.free, (m.ext.trans e).mut m.free, m.off, _, upd_same, ?_⟩
  exact ((h2.mono e.any).append (.one h)).mono (.set (List.mem_cons_self ..))
theorem Made.ext' {es : List PyData} {H' : Hp} (m : Made M H0 D es H) (e : Ext [] H H') : Made M H0 D es H' := by
  obtain ⟨ys, h1, h2⟩ := m.ls
  exact ⟨m.free, m.ext.trans e, m.off, ys, e.keep _ _ (fun q => nomatch q) h1, h2.mono e.any⟩
theorem rd_yes {H : Hp} {Q : Bool → Hp → Prop} (q : Q true H) : tYes σ H Q := q
/-- [e for x in range(..)] -/
theorem lc_rng {lo : Int} {n : Nat} (f : Nat → PyData) (s : Al M H0) (hD : H0 D = none) (hn : n ≤ 100000) (hw : ∀ x, wipe ((wipe σ vs).set j (some x)) vs = wipe σ vs)
    (he : ∀ (i : Nat) H', i < n → Al (D :: M) H' → Ext [] H0 H' → ∀ R : VK, (∀ y H'', Ext [] H' H'' → Is (D :: M) H'' y (f i) → R y H'') → te ((wipe σ vs).set j (some (.int (lo + i)))) H' R)
    (hd : ∀ H', Ext [] H0 H' → Is M H' (.ref D) (.list ((List.range n).map f)) → Qd H') :
    ∃ W : Nat → Nat → Hp → Prop, (∃ m, W 0 m (upd H0 D (.lst []))) ∧ ∀ i m H, W i m H →
      ((Itr lo n).stop i H ∧ Qd H) ∨ ((Itr lo n).go i H ∧ ∃ Nx : Hp → Prop, (∀ H', Nx H' → ∃ m', m' < m ∧ W (i + 1) m' H') ∧ ∀ x H', (Itr lo n).yld i H x H' → gName j x (wipe σ vs) H' fun σ2 H2 => wipe σ2 vs = wipe σ vs ∧ tYes σ2 H2 fun b H3 =>
        if b = true then te σ2 H3 fun y H4 => ∃ acc, H4 D = some (.lst acc) ∧ acc.length < sizeLine ∧ Nx (upd H4 D (.lst (acc ++ [y]))) else Nx H3) := by
  refine lc_range (fun i H' => Made M H0 D ((List.range i).map f) H') (Made.start s hD) (fun i H' hi m => ?_) fun H' m => hd H' m.ext m.is
  refine ⟨hw _, rd_yes ?_⟩
  refine iteT ?_
  refine he i H' hi (m.al s) m.ext _ fun y H'' e r => ?_
  rw [List.range_succ, List.map_append]
  exact m.step e r (by rw [List.length_map, List.length_range]; omega)
/-- [e for x in a list] -/
theorem lc_map (f : PyData → PyData) (s : Al M H0) (hD : H0 D = none) (h : Is M H0 (.ref a) (.list ds)) (hn : ds.length ≤ 100000) (hw : ∀ x, wipe ((wipe σ vs).set j (some x)) vs = wipe σ vs)
    (he : ∀ (x : V) (d : PyData) H', d ∈ ds → Al (D :: M) H' → Ext [] H0 H' → Is (D :: M) H' x d → ∀ R : VK, (∀ y H'', Ext [] H' H'' → Is (D :: M) H'' y (f d) → R y H'') → te ((wipe σ vs).set j (some x)) H' R)
    (hd : ∀ H', Ext [] H0 H' → Is M H' (.ref D) (.list (ds.map f)) → Qd H') :
    ∃ W : Nat → Nat → Hp → Prop, (∃ m, W 0 m (upd H0 D (.lst []))) ∧ ∀ i m H, W i m H →
      ((Itl K a).stop i H ∧ Qd H) ∨ ((Itl K a).go i H ∧ ∃ Nx : Hp → Prop, (∀ H', Nx H' → ∃ m', m' < m ∧ W (i + 1) m' H') ∧ ∀ x H', (Itl K a).yld i H x H' → gName j x (wipe σ vs) H' fun σ2 H2 => wipe σ2 vs = wipe σ vs ∧ tYes σ2 H2 fun b H3 =>
        if b = true then te σ2 H3 fun y H4 => ∃ acc, H4 D = some (.lst acc) ∧ acc.length < sizeLine ∧ Nx (upd H4 D (.lst (acc ++ [y]))) else Nx H3) := by
  obtain ⟨xs, na, hx, r⟩ := h.list
  refine lc_list (xs := xs) (fun i H' => Made M H0 D ((ds.take i).map f) H') (Made.start s hD) (fun i H' _ m => SqL.of (m.ext.keep _ _ (fun q => nomatch q) hx)) (fun i x H' hi m => ?_) fun H' m => hd H' m.ext (by have z := m.is; rw [r.length, List.take_length] at z; exact z)
  obtain ⟨d, hd', iv⟩ := r.got hi
  have hlt : i < ds.length := (List.getElem?_eq_some_iff.mp hd').1
  refine ⟨hw _, rd_yes ?_⟩
  refine iteT ?_
  refine he x d H' (List.mem_of_getElem? hd') (m.al s) m.ext ((iv.off hD).mono m.ext.any) _ fun y H'' e r => ?_
  have et : ds.take (i + 1) = ds.take i ++ [d] := by rw [List.take_add_one, hd']; rfl
  rw [et, List.map_append]
  exact m.step e r (by rw [List.length_map, List.length_take]; omega)
/-- [e for x in a list if test] -/
theorem lc_filter (f : PyData → PyData) (p : PyData → Bool) (s : Al M H0) (hD : H0 D = none) (h : Is M H0 (.ref a) (.list ds)) (hn : ds.length ≤ 100000) (hw : ∀ x, wipe ((wipe σ vs).set j (some x)) vs = wipe σ vs)
    (ht : ∀ (x : V) (d : PyData) H', d ∈ ds → Al (D :: M) H' → Ext [] H0 H' → Is (D :: M) H' x d → ∀ R : Bool → Hp → Prop, (∀ H'', Ext [] H' H'' → R (p d) H'') → tt ((wipe σ vs).set j (some x)) H' R)
    (he : ∀ (x : V) (d : PyData) H', d ∈ ds → p d = true → Al (D :: M) H' → Ext [] H0 H' → Is (D :: M) H' x d → ∀ R : VK, (∀ y H'', Ext [] H' H'' → Is (D :: M) H'' y (f d) → R y H'') → te ((wipe σ vs).set j (some x)) H' R)
    (hd : ∀ H', Ext [] H0 H' → Is M H' (.ref D) (.list ((ds.filter p).map f)) → Qd H') :
    ∃ W : Nat → Nat → Hp → Prop, (∃ m, W 0 m (upd H0 D (.lst []))) ∧ ∀ i m H, W i m H →
      ((Itl K a).stop i H ∧ Qd H) ∨ ((Itl K a).go i H ∧ ∃ Nx : Hp → Prop, (∀ H', Nx H' → ∃ m', m' < m ∧ W (i + 1) m' H') ∧ ∀ x H', (Itl K a).yld i H x H' → gName j x (wipe σ vs) H' fun σ2 H2 => wipe σ2 vs = wipe σ vs ∧ tt σ2 H2 fun b H3 =>
        if b = true then te σ2 H3 fun y H4 => ∃ acc, H4 D = some (.lst acc) ∧ acc.length < sizeLine ∧ Nx (upd H4 D (.lst (acc ++ [y]))) else Nx H3) := by
  obtain ⟨xs, na, hx, r⟩ := h.list
  refine lc_list (xs := xs) (fun i H' => Made M H0 D (((ds.take i).filter p).map f) H') (Made.start s hD) (fun i H' _ m => SqL.of (m.ext.keep _ _ (fun q => nomatch q) hx)) (fun i x H' hi m => ?_) fun H' m => hd H' m.ext (by have z := m.is; rw [r.length, List.take_length] at z; exact z)
  obtain ⟨d, hd', iv⟩ := r.got hi
  have hlt : i < ds.length := (List.getElem?_eq_some_iff.mp hd').1
  have et : ds.take (i + 1) = ds.take i ++ [d] := by rw [List.take_add_one, hd']; rfl
  refine ⟨hw _, ?_⟩
  refine ht x d H' (List.mem_of_getElem? hd') (m.al s) m.ext ((iv.off hD).mono m.ext.any) _ fun H2 e2 => ?_
  rw [et, List.filter_append, List.map_append]
  cases hp : p d with
  | true =>
    refine iteT (he x d H2 (List.mem_of_getElem? hd') hp ((m.al s).ext e2) (m.ext.trans e2) ((iv.off hD).mono (m.ext.trans e2).any) _ fun y H'' e r => ?_)
    rw [List.filter_cons, if_pos hp]
    refine m.step (e2.trans e) r ?_
    rw [List.length_map]
    have z := List.length_filter_le p (ds.take i)
    rw [List.length_take] at z
    omega
  | false =>
    refine iteF ?_
    rw [List.filter_cons, if_neg (by rw [hp]; exact Bool.false_ne_true)]
    show Made M H0 D (_ ++ []) H2
    rw [List.append_nil]
    exact m.ext' e2
end
section
variable {K : PySem.W.Frag} {σ : L2.St} {H : Hp} {Q : VK} {te : TE} {l : Addr} {xs : List V}
/-- l.append(e) -/
theorem rd_app (h : H l = some (.lst xs)) (q : te σ H fun y H2 => ∃ ys, H2 l = some (.lst ys) ∧ ys.length < sizeLine ∧ Q .non (upd H2 l (.lst (ys ++ [y])))) :
    tyV K "list" (.ref l) H ∧ tCons te tNil σ H fun vs H2 => rAppend (.ref l) vs H2 Q := by
  refine ⟨.inl ⟨rfl, _, SqL.of h⟩, ?_⟩
  refine rd_cons ?_
  have : (fun y H2 => ∃ ys, H2 l = some (.lst ys) ∧ ys.length < sizeLine ∧ Q .non (upd H2 l (.lst (ys ++ [y])))) = fun y H2 => tNil σ H2 fun vs H3 => rAppend (.ref l) (y :: vs) H3 Q := by
    funext y H2
    refine propext ⟨?_, ?_⟩
    · rintro ⟨ys, a, b, c⟩
      exact ⟨l, ys, y, rfl, rfl, a, b, c⟩
    · rintro ⟨l', ys, y', e1, e2, a, b, c⟩
      cases e1; cases e2
      exact ⟨ys, a, b, c⟩
  rw [← this]
  exact q
end
/-! shapes -/
theorem clAll_mem : ∀ {ds : List PyData}, (∀ d ∈ ds, PyData.canLay0 d = true) → PyData.canLayAll0 ds = true
  | [], _ => by simp [PyData.canLayAll0]
  | d :: ds, h => by
    simp only [PyData.canLayAll0, Bool.and_eq_true]
    exact ⟨h d (List.mem_cons_self ..), clAll_mem fun e he => h e (List.mem_cons_of_mem _ he)⟩
theorem depthAll_mem {n : Nat} : ∀ {ds : List PyData}, (∀ d ∈ ds, PyData.depth d ≤ n) → PyData.depthAll ds ≤ n
  | [], _ => by simp [PyData.depthAll]
  | d :: ds, h => by
    simp only [PyData.depthAll]
    exact Nat.max_le.mpr ⟨h d (List.mem_cons_self ..), depthAll_mem fun e he => h e (List.mem_cons_of_mem _ he)⟩
/-- shaped, at most n deep -/
def Sh (n : Nat) (d : PyData) : Prop := PyData.canLay0 d = true ∧ PyData.depth d ≤ n
theorem Sh.ok {n : Nat} {d : PyData} (h : Sh n d) (hn : n ≤ 64 := by decide) : SeqAt.shaped d = true := by
  unfold SeqAt.shaped
  rw [h.1, Bool.true_and]
  exact decide_eq_true (Nat.le_trans h.2 hn)
theorem Sh.int {n : Nat} (i : Int) : Sh n (.int i) := ⟨by simp [PyData.canLay0], by simp [PyData.depth]⟩
theorem Sh.non {n : Nat} : Sh n .none := ⟨by simp [PyData.canLay0], by simp [PyData.depth]⟩
theorem Sh.bl {n : Nat} (b : Bool) : Sh n (.bool b) := ⟨by simp [PyData.canLay0], by simp [PyData.depth]⟩
theorem Sh.list {n : Nat} {ds : List PyData} (h : ∀ d ∈ ds, Sh n d) : Sh (n + 1) (.list ds) :=
  ⟨by simp only [PyData.canLay0]; exact clAll_mem fun d hd => (h d hd).1, by simp only [PyData.depth]; exact Nat.succ_le_succ (depthAll_mem fun d hd => (h d hd).2)⟩
theorem Sh.tuple {n : Nat} {ds : List PyData} (h : ∀ d ∈ ds, Sh n d) : Sh (n + 1) (.tuple ds) :=
  ⟨by simp only [PyData.canLay0]; exact clAll_mem fun d hd => (h d hd).1, by simp only [PyData.depth]; exact Nat.succ_le_succ (depthAll_mem fun d hd => (h d hd).2)⟩
theorem Sh.refl {n : Nat} {d : PyData} (h : Sh n d) : PyData.eqv d d = true := SeqAt.eqv_refl d h.1
/-- lists of numbers -/
abbrev nats (ns : List Nat) : PyData := .list (ns.map fun n : Nat => .int n)
theorem sh_nats {n : Nat} (ns : List Nat) : Sh (n + 1) (nats ns) := Sh.list fun d hd => by
  obtain ⟨k, _, rfl⟩ := List.mem_map.mp hd
  exact .int _
theorem eqvAll_ints : ∀ xs ys : List Nat, PyData.eqvAll (xs.map fun n : Nat => .int n) (ys.map fun n : Nat => .int n) = decide (xs = ys)
  | [], [] => by simp [PyData.eqvAll]
  | [], _ :: _ => by simp [PyData.eqvAll]
  | _ :: _, [] => by simp [PyData.eqvAll]
  | x :: xs, y :: ys => by
    have ih := eqvAll_ints xs ys
    simp only [List.map_cons, PyData.eqvAll, PyData.eqv, ih]
    by_cases h : x = y
    · subst h; simp
    · have : ¬ (x : Int) = (y : Int) := by omega
      simp [h, this]
theorem eqv_nats (xs ys : List Nat) : PyData.eqv (nats xs) (nats ys) = decide (xs = ys) := by
  simp only [PyData.eqv]
  exact eqvAll_ints xs ys
theorem nats_V {M : List Addr} {H : Hp} (ns : List Nat) : IsAll M H (ns.map fun n : Nat => V.int n) (ns.map fun n : Nat => PyData.int n) := by
  induction ns with
  | nil => exact .nil
  | cons n ns ih => exact .cons (.int _) ih
/-! ### loops, comprehensions, slices: the rest of their readings under names -/
def qFor (J : It) (g : TG) (tb : TS) (D : Ends) (σ : L2.St) (H1 : Hp) : Prop := ∃ W : Nat → Nat → L2.St → Hp → Prop, (∃ m, W 0 m σ H1) ∧ ∀ i m σ H, W i m σ H → (J.stop i H ∧ D.nx σ H) ∨
  (J.go i H ∧ ∃ N : L2.St → Hp → Prop, (∀ σ' H', N σ' H' → ∃ m', m' < m ∧ W (i + 1) m' σ' H') ∧ ∀ x H', J.yld i H x H' → g x σ H' fun σ2 H2 => tb { D with nx := N, ct := N, bk := D.nx } σ2 H2)
def qLc (J : It) (g : TG) (tt : TT) (te : TE) (vs : List Nat) (σ : L2.St) (D : Addr) (H1 : Hp) (Q : VK) : Prop := ∃ W : Nat → Nat → Hp → Prop, (∃ m, W 0 m (upd H1 D (.lst []))) ∧ ∀ i m H, W i m H → (J.stop i H ∧ Q (.ref D) H) ∨
  (J.go i H ∧ ∃ Nx : Hp → Prop, (∀ H', Nx H' → ∃ m', m' < m ∧ W (i + 1) m' H') ∧ ∀ x H', J.yld i H x H' → g x (wipe σ vs) H' fun σ2 H2 => wipe σ2 vs = wipe σ vs ∧ tt σ2 H2 fun b H3 => if b = true then te σ2 H3 fun y H4 => ∃ acc, H4 D = some (.lst acc) ∧ acc.length < sizeLine ∧ Nx (upd H4 D (.lst (acc ++ [y]))) else Nx H3)
section
variable {K : PySem.W.Frag} {σ : L2.St} {H : Hp} {Q : VK} {wi : TI} {g : TG} {tb : TS} {D : Ends} {tt : TT} {te : TE} {vs : List Nat} {ta : TA} {R : It → Hp → Prop} {r : V → Option Int → Option Int → Hp → VK → Prop} {tl th : TO}
theorem rd_for (q : wi σ H fun J H1 => qFor J g tb D σ H1) : tFor wi g tb D σ H := q
theorem rd_lc (q : wi σ H fun J H1 => ∀ D, H1 D = none → qLc J g tt te vs σ D H1 Q) : tLc wi g tt te vs σ H Q := q
theorem rd_rng1 (q : ta σ H fun vs H1 => ∃ j : Int, vs = [.int j] ∧ -(2 ^ 62) ≤ j ∧ j < 2 ^ 62 ∧ R (Itr 0 j.toNat) H1) : iRng1 ta σ H R := q
theorem rd_rng2 (q : ta σ H fun vs H1 => ∃ i j : Int, vs = [.int i, .int j] ∧ (-(2 ^ 62) ≤ i ∧ i < 2 ^ 62 ∧ -(2 ^ 62) ≤ j ∧ j < 2 ^ 62) ∧ R (Itr i (j - i).toNat) H1) : iRng2 ta σ H R := q
theorem rd_rng {j : Int} {P : Int → Prop} (h0 : -(2 ^ 62) ≤ j) (h1 : j < 2 ^ 62) (q : P j) : ∃ i : Int, [V.int j] = [.int i] ∧ -(2 ^ 62) ≤ i ∧ i < 2 ^ 62 ∧ P i := ⟨j, rfl, h0, h1, q⟩
theorem rd_rngB {i j : Int} (h : -(2 ^ 62) ≤ i ∧ i < 2 ^ 62 ∧ -(2 ^ 62) ≤ j ∧ j < 2 ^ 62) {P : Int → Int → Prop} (q : P i j) : ∃ i' j' : Int, [V.int i, V.int j] = [.int i', .int j'] ∧ (-(2 ^ 62) ≤ i' ∧ i' < 2 ^ 62 ∧ -(2 ^ 62) ≤ j' ∧ j' < 2 ^ 62) ∧ P i' j' := ⟨i, j, rfl, h, q⟩
theorem rd_il (q : te σ H fun x H1 => ∃ a, x = .ref a ∧ (∃ xs, SqL K H1 a xs) ∧ R (Itl K a) H1) : iList K te σ H R := q
theorem rd_it (q : te σ H fun x H1 => ∃ a, x = .ref a ∧ (∃ xs, SqT K H1 a xs) ∧ R (Itt K a) H1) : iTup K te σ H R := q
theorem rd_itl {a : Addr} {P : Addr → Prop} (h : ∃ xs, SqL K H a xs) (q : P a) : ∃ a', V.ref a = .ref a' ∧ (∃ xs, SqL K H a' xs) ∧ P a' := ⟨a, rfl, h, q⟩
theorem rd_itt {a : Addr} {P : Addr → Prop} (h : ∃ xs, SqT K H a xs) (q : P a) : ∃ a', V.ref a = .ref a' ∧ (∃ xs, SqT K H a' xs) ∧ P a' := ⟨a, rfl, h, q⟩
theorem Is.sql {M : List Addr} {a : Addr} {ds : List PyData} (i : Is M H (.ref a) (.list ds)) : ∃ xs, SqL K H a xs := by
  obtain ⟨xs, _, h, _⟩ := i.list
  exact ⟨xs, SqL.of h⟩
theorem Is.sqt {M : List Addr} {a : Addr} {ds : List PyData} (i : Is M H (.ref a) (.tuple ds)) : ∃ xs, SqT K H a xs := by
  obtain ⟨xs, _, h, _⟩ := i.tuple
  exact ⟨xs, SqT.of h⟩
theorem sql_of {a : Addr} {xs : List V} (h : H a = some (.lst xs)) : ∃ xs, SqL K H a xs := ⟨xs, SqL.of h⟩
theorem rd_sl (q : te σ H fun x H1 => tl σ H1 fun l H2 => th σ H2 fun u H3 => r x l u H3 Q) : tSl r te tl th σ H Q := q
theorem rd_part {QO : Option Int → Hp → Prop} (q : te σ H fun x H1 => ∃ i, x = .int i ∧ QO (some i) H1) : tPart te σ H QO := q
theorem rd_pi {i : Int} {P : Int → Prop} (q : P i) : ∃ i', V.int i = .int i' ∧ P i' := ⟨i, rfl, q⟩
theorem rd_pn {QO : Option Int → Hp → Prop} (q : QO none H) : tNoPart σ H QO := q
theorem rd_slL {M : List Addr} {a : Addr} {lo hi : Option Int} {ds : List PyData} (h : Is M H (.ref a) (.list ds)) (q : ∀ xs, H a = some (.lst xs) → IsAll M H xs ds → ∀ p, H p = none → Q (.ref p) (upd H p (.lst (cutV xs lo hi)))) : rSlL K (.ref a) lo hi H Q := by
  obtain ⟨xs, _, hx, r⟩ := h.list
  exact ⟨a, xs, rfl, SqL.of hx, q xs hx r⟩
/-- a range, by its turns -/
theorem q_range {lo : Int} {n : Nat} (Pv : Nat → L2.St → Hp → Prop) (h0 : Pv 0 σ H) (hs : ∀ i σ H, i < n → Pv i σ H → g (.int (lo + i)) σ H fun σ2 H2 => tb { D with nx := Pv (i + 1), ct := Pv (i + 1), bk := D.nx } σ2 H2)
    (hd : ∀ σ H, Pv n σ H → D.nx σ H) : qFor (Itr lo n) g tb D σ H := for_range Pv h0 hs hd
theorem q_data {M : List Addr} {H0 : Hp} {a : Addr} {ds : List PyData} (h : Is M H0 (.ref a) (.list ds)) (Pv : Nat → L2.St → Hp → Prop) (h0 : Pv 0 σ H) (hE : ∀ i σ H, Pv i σ H → Ext M H0 H)
    (hs : ∀ i d x σ H, ds[i]? = some d → Is M H x d → Pv i σ H → g x σ H fun σ2 H2 => tb { D with nx := Pv (i + 1), ct := Pv (i + 1), bk := D.nx } σ2 H2) (hd : ∀ σ H, Pv ds.length σ H → D.nx σ H) : qFor (Itl K a) g tb D σ H := for_data h Pv h0 hE hs hd
theorem q_dataT {M : List Addr} {H0 : Hp} {a : Addr} {ds : List PyData} (h : Is M H0 (.ref a) (.tuple ds)) (Pv : Nat → L2.St → Hp → Prop) (h0 : Pv 0 σ H) (hE : ∀ i σ H, Pv i σ H → Ext M H0 H)
    (hs : ∀ i d x σ H, ds[i]? = some d → Is M H x d → Pv i σ H → g x σ H fun σ2 H2 => tb { D with nx := Pv (i + 1), ct := Pv (i + 1), bk := D.nx } σ2 H2) (hd : ∀ σ H, Pv ds.length σ H → D.nx σ H) : qFor (Itt K a) g tb D σ H := for_dataT h Pv h0 hE hs hd
end
section
variable {K : PySem.W.Frag} {σ : L2.St} {H : Hp} {Q : VK} {te : TE} {a : Addr} {xs : List V}
theorem rd_rev (q : te σ H fun x H1 => ∃ a xs, x = .ref a ∧ SqL K H1 a xs ∧ ∀ p, H1 p = none → Q (.ref p) (upd H1 p (.lst xs.reverse))) : tRevL K te σ H Q := q
theorem rd_revd (h : SqL K H a xs) (q : ∀ p, H p = none → Q (.ref p) (upd H p (.lst xs.reverse))) : ∃ a' xs', V.ref a = .ref a' ∧ SqL K H a' xs' ∧ ∀ p, H p = none → Q (.ref p) (upd H p (.lst xs'.reverse)) := ⟨a, xs, rfl, h, q⟩
theorem rd_listT {p : Addr} (h : SqT K H p xs) (q : ∀ l, H l = none → Q (.ref l) (upd H l (.lst xs))) : qListOf K [.ref p] H Q := ⟨p, xs, rfl, .inr h, q⟩
theorem rd_cat {l b : Addr} {xs zs : List V} (h : H l = some (.lst xs)) (k : H b = some (.lst zs)) (hz : xs.length + zs.length ≤ sizeLine) (q : ∀ p, H p = none → Q (.ref p) (upd H p (.lst (xs ++ zs)))) : rCat (.ref l) (.ref b) H Q := ⟨l, b, xs, zs, rfl, rfl, h, k, hz, q⟩
theorem rd_dcat {M : List Addr} {l b : Addr} {ds es : List PyData} (s : Al M H) (h : Is M H (.ref l) (.list ds)) (k : Is M H (.ref b) (.list es)) (hz : ds.length + es.length ≤ 100000)
    (q : ∀ p H', H p = none → Ext [] H H' → (∃ xs, H' p = some (.lst xs) ∧ IsAll (p :: M) H' xs (ds ++ es)) → Is M H' (.ref p) (.list (ds ++ es)) → Q (.ref p) H') : rCat (.ref l) (.ref b) H Q := by
  obtain ⟨xs, _, hx, r⟩ := h.list
  obtain ⟨zs, _, hz', r'⟩ := k.list
  refine rd_cat hx hz' (szL (by rw [r.length, r'.length]; exact hz)) fun p hp => ?_
  exact q p _ hp (.new hp) ⟨_, upd_same, (r.append r').beside hp⟩ (new_lst s (r.append r') hp)
theorem rd_dlist {M : List Addr} {l : Addr} {ds : List PyData} (s : Al M H) (h : Is M H (.ref l) (.list ds))
    (q : ∀ p H', H p = none → Ext [] H H' → (∃ xs, H' p = some (.lst xs) ∧ IsAll (p :: M) H' xs ds) → Is M H' (.ref p) (.list ds) → Q (.ref p) H') : qListOf K [.ref l] H Q := by
  obtain ⟨xs, _, hx, r⟩ := h.list
  refine rd_listL (SqL.of hx) fun p hp => ?_
  exact q p _ hp (.new hp) ⟨_, upd_same, r.beside hp⟩ (new_lst s r hp)
end
/-! ### rules with the written part by its name (so that they stand within comprehensions too) -/
section
variable {X : Cx} (K : PySem.W.Frag) (hK : X.K = K := by rfl)
include hK
theorem sl_listK : SlR X (rSlL K) := hK ▸ sl_list
theorem sl_tupK : SlR X (rSlT K) := hK ▸ sl_tup
theorem ix_listK : IxR X (rIxL K) := hK ▸ ix_list
theorem ix_tupK : IxR X (rIxT K) := hK ▸ ix_tup
theorem ix_seqK : IxR X (rIx K) := hK ▸ ix_seq
theorem get_listK : PGet X (rIxL K) := hK ▸ get_list
theorem call_lenK : CallR X (.builtin "len") (qLen K) := hK ▸ call_lenq
theorem call_listK : CallR X (.type "list") (qListOf K) := hK ▸ call_listq
theorem call_isK : CallR X (.builtin "isinstance") (rIsi K) := hK ▸ call_isi
theorem op_in_seqK : OpR X (compareOp .In) (rIn K false) := hK ▸ op_in_seq
theorem op_notIn_seqK : OpR X (compareOp .NotIn) (rIn K true) := hK ▸ op_notIn_seq
theorem op_catTK : OpR X (binaryOp .Add) (rCatT K) := hK ▸ op_catT
omit hK
theorem op_eqDK (hu : X.A.units + 64 < cLine) (hK : X.K = K := by rfl) : OpR X (compareOp .Eq) (rEqD K) := hK ▸ op_eqD hu
theorem op_neDK (hu : X.A.units + 64 < cLine) (hK : X.K = K := by rfl) : OpR X (compareOp .NotEq) (rNeD K) := hK ▸ op_neD hu
end
section
variable {X : Cx} {e o : Expr} {ta to te : TE} {t : TA} {tg : Expr} {pos : Pos} {f : Str}
theorem pe_fldK (K : PySem.W.Frag) (he : PE X e ta) (hb : attributeBase e f X.env (eval e X.env) = eval e X.env) (hK : X.K = K := by rfl) : PE X (.Attribute e f pos) (tFld K ta f) := hK ▸ pe_fld he hb
def qTru (K : PySem.W.Frag) (ta : TE) : TT := fun σ H Q => ta σ H fun x H' => ∃ k, TruV K x H' k ∧ Q k H'
theorem pt_truthK (K : PySem.W.Frag) (ha : PE X e ta) (he : ∀ whole, isTrue e X.env whole = (do let v ← whole; standAt e.pos; holding [v] (truthy v))) (hK : X.K = K := by rfl) : PT X e (qTru K ta) := by
  subst hK
  exact pt_truth ha he
theorem pi_listK (K : PySem.W.Frag) (hl : PE X e te) (hK : X.K = K := by rfl) : PI X tg e (iList K te) := hK ▸ pi_list hl
theorem pi_tupK (K : PySem.W.Frag) (hl : PE X e te) (hK : X.K = K := by rfl) : PI X tg e (iTup K te) := hK ▸ pi_tup hl
theorem pg_tupK (K : PySem.W.Frag) {es : List Expr} {k : Nat} {t : TGs} {n : Nat} (hc : X.calm = true) (h : PGs X es t) (hn : (assignEach es X.env).length = n := by rfl) (hst : (assignEach es X.env).findIdx? (·.1) = none := by rfl) (hK : X.K = K := by rfl) : PG X (.Tuple es k pos) (gTup K n t) := hK ▸ pg_tup hc h hn hst
theorem pe_revLK (K : PySem.W.Frag) {k : Nat} {p1 p2 p3 : Pos} (he : PE X e te) (hK : X.K = K := by rfl) : PE X (.Subscript e (.Slice none none (some (.UnaryOp .USub (.Constant (.int 1) k p1) p2)) p3) pos) (tRevL K te) := hK ▸ pe_revL he
theorem rd_tru {K : PySem.W.Frag} {σ : L2.St} {H : Hp} {Q : Bool → Hp → Prop} (q : ta σ H fun x H' => ∃ k, TruV K x H' k ∧ Q k H') : qTru K ta σ H Q := q
end
section
variable {M : List Addr} {H0 H H1 : Hp} {a D : Addr} {ds : List PyData} {K : PySem.W.Frag} {j : Nat} {vs : List Nat} {te : TE} {tt : TT} {σ : L2.St} {Q : VK} {ta : TA} {R : It → Hp → Prop}
theorem rd_u {g : Int → V} {i : Int} (q : Q (g i) H) : rU g (.int i) H Q := ⟨i, rfl, q⟩
theorem rd_rng3 (q : ta σ H fun vs H1 => ∃ (i j c : Int) (n : Nat), vs = [.int i, .int j, .int c] ∧ RgC i j c n ∧ R (Itc i c n) H1) : iRng3 ta σ H R := q
theorem rgC_up {i j c : Int} (hc : 0 < c) (hc' : c < 1073741824) (ha : 0 ≤ i) (ha' : i < 2 ^ 62) (hb : 0 ≤ j) (hb' : j < 2 ^ 62) : RgC i j c (if i < j then (j - i - 1) / c + 1 else 0).toNat := by
  refine ⟨by omega, by omega, ?_, ?_⟩
  · have h1 : 0 ≤ (j - i - 1) / c ∨ ¬ i < j := by
      by_cases h : i < j
      · exact .inl (Int.ediv_nonneg (by omega) (by omega))
      · exact .inr h
    have h2 : i < j → (j - i - 1) / c ≤ j - i - 1 := fun h => Int.ediv_le_self _ (by omega)
    unfold Builtin.Range.small Builtin.Range.rangeSize
    simp only [Builtin.Range.rangeFitsLong, Bool.and_eq_true, Bool.or_eq_true, decide_eq_true_eq, beq_iff_eq, hc, gt_iff_lt, if_true]
    by_cases h : i < j
    · have := h2 h
      have := h1.resolve_right (fun q => q h)
      simp only [h, if_true]
      omega
    · simp only [h, if_false]
      omega
  · unfold Builtin.Range.rangeSize
    simp only [hc, gt_iff_lt, if_true]
    by_cases h : i < j
    · simp only [h, if_true]
      have := Int.ediv_nonneg (a := j - i - 1) (b := c) (by omega) (by omega)
      omega
    · simp only [h, if_false]
      rfl
/-- [e for x in range(i, j, c)] -/
theorem q_lcC {lo c : Int} {n : Nat} (f : Nat → PyData) (s : Al M H0) (hD : H0 D = none) (hn : n ≤ 100000) (hw : ∀ x, wipe ((wipe σ vs).set j (some x)) vs = wipe σ vs)
    (he : ∀ (i : Nat) H', i < n → Al (D :: M) H' → Ext [] H0 H' → ∀ R : VK, (∀ y H'', Ext [] H' H'' → Is (D :: M) H'' y (f i) → R y H'') → te ((wipe σ vs).set j (some (.int (lo + (i : Nat) * c)))) H' R)
    (hd : ∀ H', Ext [] H0 H' → Is M H' (.ref D) (.list ((List.range n).map f)) → Q (.ref D) H') : qLc (Itc lo c n) (gName j) tYes te vs σ D H0 Q := by
  refine ⟨fun i m H => m = n - i ∧ i ≤ n ∧ Made M H0 D ((List.range i).map f) H, ⟨n, by simp, Nat.zero_le _, Made.start s hD⟩, ?_⟩
  rintro i m H ⟨rfl, hi, p⟩
  by_cases hlt : i < n
  · refine .inr ⟨hlt, fun H' => Made M H0 D ((List.range (i + 1)).map f) H', fun H' p' => ⟨n - (i + 1), by omega, rfl, hlt, p'⟩, fun x H' y => ?_⟩
    obtain ⟨e, y⟩ := y
    subst e y
    refine ⟨hw _, rd_yes ?_⟩
    refine iteT ?_
    refine he i _ hlt (p.al s) p.ext _ fun y H'' e r => ?_
    rw [List.range_succ, List.map_append]
    exact p.step e r (by rw [List.length_map, List.length_range]; omega)
  · have e : i = n := by omega
    subst e
    exact .inl ⟨Nat.le_refl _, hd H p.ext p.is⟩
theorem q_lcR {lo : Int} {n : Nat} (f : Nat → PyData) (s : Al M H0) (hD : H0 D = none) (hn : n ≤ 100000) (hw : ∀ x, wipe ((wipe σ vs).set j (some x)) vs = wipe σ vs)
    (he : ∀ (i : Nat) H', i < n → Al (D :: M) H' → Ext [] H0 H' → ∀ R : VK, (∀ y H'', Ext [] H' H'' → Is (D :: M) H'' y (f i) → R y H'') → te ((wipe σ vs).set j (some (.int (lo + i)))) H' R)
    (hd : ∀ H', Ext [] H0 H' → Is M H' (.ref D) (.list ((List.range n).map f)) → Q (.ref D) H') : qLc (Itr lo n) (gName j) tYes te vs σ D H0 Q := lc_rng f s hD hn hw he hd
theorem q_lcL (f : PyData → PyData) (s : Al M H0) (hD : H0 D = none) (h : Is M H0 (.ref a) (.list ds)) (hn : ds.length ≤ 100000) (hw : ∀ x, wipe ((wipe σ vs).set j (some x)) vs = wipe σ vs)
    (he : ∀ (x : V) (d : PyData) H', d ∈ ds → Al (D :: M) H' → Ext [] H0 H' → Is (D :: M) H' x d → ∀ R : VK, (∀ y H'', Ext [] H' H'' → Is (D :: M) H'' y (f d) → R y H'') → te ((wipe σ vs).set j (some x)) H' R)
    (hd : ∀ H', Ext [] H0 H' → Is M H' (.ref D) (.list (ds.map f)) → Q (.ref D) H') : qLc (Itl K a) (gName j) tYes te vs σ D H0 Q := lc_map f s hD h hn hw he hd
theorem q_lcF (f : PyData → PyData) (p : PyData → Bool) (s : Al M H0) (hD : H0 D = none) (h : Is M H0 (.ref a) (.list ds)) (hn : ds.length ≤ 100000) (hw : ∀ x, wipe ((wipe σ vs).set j (some x)) vs = wipe σ vs)
    (ht : ∀ (x : V) (d : PyData) H', d ∈ ds → Al (D :: M) H' → Ext [] H0 H' → Is (D :: M) H' x d → ∀ R : Bool → Hp → Prop, (∀ H'', Ext [] H' H'' → R (p d) H'') → tt ((wipe σ vs).set j (some x)) H' R)
    (he : ∀ (x : V) (d : PyData) H', d ∈ ds → p d = true → Al (D :: M) H' → Ext [] H0 H' → Is (D :: M) H' x d → ∀ R : VK, (∀ y H'', Ext [] H' H'' → Is (D :: M) H'' y (f d) → R y H'') → te ((wipe σ vs).set j (some x)) H' R)
    (hd : ∀ H', Ext [] H0 H' → Is M H' (.ref D) (.list ((ds.filter p).map f)) → Q (.ref D) H') : qLc (Itl K a) (gName j) tt te vs σ D H0 Q := lc_filter f p s hD h hn hw ht he hd
end
section
variable {M : List Addr} {H : Hp} {xs : List V} {ds : List PyData} {a : Addr} {K : PySem.W.Frag} {Q : VK}
theorem IsAll.cutI {lo hi : Int} {l h : Nat} (r : IsAll M H xs ds) (hl : lo = (l : Int)) (hh : hi = (h : Int)) : IsAll M H (cutV xs (some lo) (some hi)) ((ds.take h).drop l) := by
  subst hl hh
  exact r.cut
theorem IsAll.cutI0 {hi : Int} {h : Nat} (r : IsAll M H xs ds) (hh : hi = (h : Int)) : IsAll M H (cutV xs none (some hi)) (ds.take h) := by
  subst hh
  exact r.cut0
theorem IsAll.cutIN {lo : Int} {l : Nat} (r : IsAll M H xs ds) (hl : lo = (l : Int)) : IsAll M H (cutV xs (some lo) none) (ds.drop l) := by
  subst hl
  exact r.cutN
/-- slices of data -/
theorem rd_cut {lo hi : Int} {l h : Nat} (s : Al M H) (i : Is M H (.ref a) (.list ds)) (hl : lo = (l : Int)) (hh : hi = (h : Int)) (q : ∀ p H', H p = none → Ext [] H H' → (∃ xs, H' p = some (.lst xs) ∧ IsAll (p :: M) H' xs ((ds.take h).drop l)) → Is M H' (.ref p) (.list ((ds.take h).drop l)) → Q (.ref p) H') :
    rSlL K (.ref a) (some lo) (some hi) H Q := rd_slL i fun _ _ r p hp => q p _ hp (.new hp) ⟨_, upd_same, (r.cutI hl hh).beside hp⟩ (new_lst s (r.cutI hl hh) hp)
theorem rd_cut0 {hi : Int} {h : Nat} (s : Al M H) (i : Is M H (.ref a) (.list ds)) (hh : hi = (h : Int)) (q : ∀ p H', H p = none → Ext [] H H' → (∃ xs, H' p = some (.lst xs) ∧ IsAll (p :: M) H' xs (ds.take h)) → Is M H' (.ref p) (.list (ds.take h)) → Q (.ref p) H') :
    rSlL K (.ref a) none (some hi) H Q := rd_slL i fun _ _ r p hp => q p _ hp (.new hp) ⟨_, upd_same, (r.cutI0 hh).beside hp⟩ (new_lst s (r.cutI0 hh) hp)
theorem rd_cutN {lo : Int} {l : Nat} (s : Al M H) (i : Is M H (.ref a) (.list ds)) (hl : lo = (l : Int)) (q : ∀ p H', H p = none → Ext [] H H' → (∃ xs, H' p = some (.lst xs) ∧ IsAll (p :: M) H' xs (ds.drop l)) → Is M H' (.ref p) (.list (ds.drop l)) → Q (.ref p) H') :
    rSlL K (.ref a) (some lo) none H Q := rd_slL i fun _ _ r p hp => q p _ hp (.new hp) ⟨_, upd_same, (r.cutIN hl).beside hp⟩ (new_lst s (r.cutIN hl) hp)
/-- l.extend(b) -/
theorem rd_ext {l b : Addr} {xs zs : List V} (h : H l = some (.lst xs)) (k : H b = some (.lst zs)) (hz : xs.length + zs.length ≤ 100000) (q : Q .non (upd H l (.lst (xs ++ zs)))) : rExtend (.ref l) [.ref b] H Q := ⟨l, b, xs, zs, rfl, rfl, h, k, szL hz, q⟩
theorem map_cut (ns : List Nat) (l h : Nat) : ((ns.map fun n : Nat => PyData.int n).take h).drop l = ((ns.take h).drop l).map fun n : Nat => PyData.int n := by rw [List.map_drop, List.map_take]
end
/-! ### facts found by themselves: steps from heap to heap -/
section
variable {M M' : List Addr} {A B C H H' : Hp} {p : Addr} {o : HO} {v : V} {d : PyData}
theorem at_is (e : Ext M H H') (i : Is M H v d) : Is M H' v d := i.mono e
theorem at_is0 (e : Ext [] H H') (i : Is M H v d) : Is M H' v d := i.mono e.any
theorem at_is1 {N : List Addr} {D : Addr} (e : Ext N H H') (i : Is (D :: N) H v d) : Is (D :: N) H' v d := i.mono (e.more fun b hb => List.mem_cons_of_mem _ hb)
theorem at_isN (h : H p = none) (i : Is M H v d) : Is M (upd H p o) v d := i.mono (.new h)
theorem at_al (e : Ext M' H H') (s : Al M H) : Al M H' := s.ext e
theorem at_alN (s : Al M H) : Al M (upd H p o) := fun b hb => there_upd b (s b hb)
theorem at_ext (e : Ext M B C) (f : Ext M A B) : Ext M A C := f.trans e
theorem at_ext0 (e : Ext [] B C) (f : Ext M A B) : Ext M A C := f.trans e.any
theorem at_extN (h : B p = none) (f : Ext M A B) : Ext M A (upd B p o) := f.trans (.new h)
end
/-- lists of lists of numbers -/
abbrev natss (S : List (List Nat)) : PyData := .list (S.map nats)
/-- what is new in the heap H -/
def New (H H' : Hp) (v : V) (d : PyData) : Prop := ∀ M, Al M H → Is M H' v d
theorem New.of {M : List Addr} {A B H H' : Hp} {v : V} {d : PyData} (h : New H H' v d) (e : Ext M A H) : New A H' v d := fun _ s => h _ (s.ext e)
section
variable {M : List Addr} {H : Hp} {Q : VK} {K : PySem.W.Frag} {a b : Addr} {xs ys : List Nat} {ds es : List PyData} {vs : List V}
theorem rd_newL (s : Al M H) (h : IsAll M H vs ds) (hz : vs.length ≤ 1000) (q : ∀ p H', H p = none → Ext [] H H' → H' p = some (.lst vs) → Is M H' (.ref p) (.list ds) → Q (.ref p) H') : qNewL vs H Q :=
  ⟨szl hz, fun p hp => q p _ hp (.new hp) upd_same (new_lst s h hp)⟩
theorem rd_newT (s : Al M H) (h : IsAll M H vs ds) (hz : vs.length ≤ 1000) (q : ∀ p H', H p = none → Ext [] H H' → H' p = some (.tup vs) → Is M H' (.ref p) (.tuple ds) → Q (.ref p) H') : qNewT vs H Q :=
  ⟨szl hz, fun p hp => q p _ hp (.new hp) upd_same (new_tup s h hp)⟩
theorem rd_ncat (s : Al M H) (h : Is M H (.ref a) (nats xs)) (k : Is M H (.ref b) (nats ys)) (hz : xs.length + ys.length ≤ 100000) (q : ∀ p H', H p = none → Ext [] H H' → Is M H' (.ref p) (nats (xs ++ ys)) → Q (.ref p) H') : rCat (.ref a) (.ref b) H Q :=
  rd_dcat s h k (by rw [List.length_map, List.length_map]; exact hz) fun p H' hp e _ i => q p H' hp e (by rw [nats, List.map_append]; exact i)
theorem rd_ncut {lo hi : Int} {l h : Nat} (s : Al M H) (i : Is M H (.ref a) (nats xs)) (hl : lo = (l : Int)) (hh : hi = (h : Int)) (q : ∀ p H', H p = none → Ext [] H H' → Is M H' (.ref p) (nats ((xs.take h).drop l)) → Q (.ref p) H') : rSlL K (.ref a) (some lo) (some hi) H Q :=
  rd_cut s i hl hh fun p H' hp e _ j => q p H' hp e (by rw [nats, List.map_drop, List.map_take]; exact j)
theorem rd_ncut0 {hi : Int} {h : Nat} (s : Al M H) (i : Is M H (.ref a) (nats xs)) (hh : hi = (h : Int)) (q : ∀ p H', H p = none → Ext [] H H' → Is M H' (.ref p) (nats (xs.take h)) → Q (.ref p) H') : rSlL K (.ref a) none (some hi) H Q :=
  rd_cut0 s i hh fun p H' hp e _ j => q p H' hp e (by rw [nats, List.map_take]; exact j)
theorem rd_ncutN {lo : Int} {l : Nat} (s : Al M H) (i : Is M H (.ref a) (nats xs)) (hl : lo = (l : Int)) (q : ∀ p H', H p = none → Ext [] H H' → Is M H' (.ref p) (nats (xs.drop l)) → Q (.ref p) H') : rSlL K (.ref a) (some lo) none H Q :=
  rd_cutN s i hl fun p H' hp e _ j => q p H' hp e (by rw [nats, List.map_drop]; exact j)
theorem rd_ndlist (s : Al M H) (h : Is M H (.ref a) (nats xs)) (q : ∀ p H', H p = none → Ext [] H H' → Is M H' (.ref p) (nats xs) → Q (.ref p) H') : qListOf K [.ref a] H Q := rd_dlist s h fun p H' hp e _ i => q p H' hp e i
theorem rd_nix {i : Int} {j : Nat} (h : Is M H (.ref a) (nats xs)) (hj : i = (j : Int)) (hd : j < xs.length) (q : Q (.int ((xs.getD j 0 : Nat) : Int)) H) : rIxL K (.ref a) (.int i) H Q := by
  refine rd_dix h hj (by rw [List.getElem?_map, List.getElem?_eq_getElem hd]; rfl) fun v iv => ?_
  rw [List.getD_eq_getElem?_getD, List.getElem?_eq_getElem hd] at q
  cases iv
  exact q
theorem rd_nlen (h : Is M H (.ref a) (nats xs)) (q : Q (.int xs.length) H) : qLen K [.ref a] H Q := rd_dlen h fun _ => by rw [List.length_map]; exact q
theorem rd_rep {k : Int} {ws : List V} (h : H a = some (.lst ws)) (h0 : -(2 ^ 63) ≤ k) (h1 : k < 2 ^ 63) (hz : ws.length * k.toNat ≤ 100000) (q : ∀ p, H p = none → Q (.ref p) (upd H p (.lst (List.replicate k.toNat ws).flatten))) : rRep (.ref a) (.int k) H Q := ⟨a, k, ws, rfl, rfl, h, h0, h1, szL hz, q⟩
theorem IsAll.reps (h : IsAll M H vs ds) : ∀ k, IsAll M H (List.replicate k vs).flatten (List.replicate k ds).flatten
  | 0 => .nil
  | k + 1 => by
    rw [List.replicate_succ, List.replicate_succ, List.flatten_cons, List.flatten_cons]
    exact h.append (IsAll.reps h k)
theorem rd_drep {k : Int} (s : Al M H) (h : Is M H (.ref a) (.list ds)) (h0 : -(2 ^ 63) ≤ k) (h1 : k < 2 ^ 63) (hz : ds.length * k.toNat ≤ 100000) (q : ∀ p H', H p = none → Ext [] H H' → Is M H' (.ref p) (.list (List.replicate k.toNat ds).flatten) → Q (.ref p) H') : rRep (.ref a) (.int k) H Q := by
  obtain ⟨ws, _, hx, r⟩ := h.list
  exact rd_rep hx h0 h1 (by rw [r.length]; exact hz) fun p hp => q p _ hp (.new hp) (new_lst s (r.reps _) hp)
theorem rd_nrep1 {k : Int} {n j : Nat} (s : Al M H) (h : H a = some (.lst [.int n])) (hk : k.toNat = j) (h0 : -(2 ^ 62) ≤ k) (h1 : k ≤ 100000) (q : ∀ p H', H p = none → Ext [] H H' → Is M H' (.ref p) (nats (List.replicate j n)) → Q (.ref p) H') : rRep (.ref a) (.int k) H Q := by
  refine rd_rep h (by omega) (by omega) (by rw [List.length_singleton]; omega) fun p hp => q p _ hp (.new hp) (new_lst s ?_ hp)
  rw [hk]
  have e : (List.replicate j [V.int n]).flatten = (List.replicate j n).map fun n : Nat => V.int n := by rw [List.map_replicate]; induction j with
    | zero => rfl
    | succ j ih => rw [List.replicate_succ, List.replicate_succ, List.flatten_cons] ; exact congrArg (V.int n :: ·) (by clear hk; exact List.flatten_replicate_singleton)
  rw [e]
  exact nats_V _
end
section
variable {K : PySem.W.Frag} {H : Hp} {Q : VK} {p : Addr}
theorem rd_pick {P : Int → Prop} {ns : List Int} {v : Nat} (h : H p = some (.lst (ns.map V.int))) (hv : v < ns.length) (hP : ∀ n ∈ ns, P n) (q : ∀ n, P n → Q (.int n) H) : rIxL K (.ref p) (.int v) H Q :=
  rd_ixL (SqL.of h) (atI_nat (by rw [List.getElem?_map, List.getElem?_eq_getElem hv]; rfl)) (q _ (hP _ (List.getElem_mem hv)))
end
/-! ### lists of the module in sums -/
structure PlK (K : PySem.W.Frag) (a : Addr) (xs : List V) : Prop where
  ex : ∃ (its : Array Value) (n : Nat), K.lookup a = some { cls := .type "list", data := .seq its n } ∧ its.size ≤ sizeLine ∧ Vals xs its.toList
theorem PlK.sq {K : PySem.W.Frag} {a : Addr} {xs : List V} (h : PlK K a xs) (H : Hp) : SqL K H a xs := by
  obtain ⟨its, n, e, hz, r⟩ := h.ex
  exact .inr ⟨_, its, n, e, rfl, rfl, rfl, hz, r⟩
def plB (K : PySem.W.Frag) (x : Str) (vs : List He.Dv) : Bool := match K.lookup (He.ga K x) with
  | some ⟨.type c, none, .seq its _, sl⟩ => decide (c = "list") && (sl.toList.isEmpty && (decide (its.size ≤ sizeLine) && He.relAll (vs.map (He.Dv.v K)) its.toList))
  | _ => false
theorem plB_ok {K : PySem.W.Frag} {x : Str} {vs : List He.Dv} (h : plB K x vs = true) : PlK K (He.ga K x) (vs.map (He.Dv.v K)) := by
  unfold plB at h
  cases q : K.lookup (He.ga K x) with
  | none => rw [q] at h; cases h
  | some o =>
    obtain ⟨oc, od, dt, osl⟩ := o
    rw [q] at h
    cases oc with
    | type c =>
      cases od with
      | none =>
        cases dt with
        | seq its n =>
          simp only [Bool.and_eq_true, decide_eq_true_eq] at h
          obtain ⟨rfl, hs, hz, hr⟩ := h
          have e : osl = #[] := by
            obtain ⟨l⟩ := osl
            cases l with
            | nil => rfl
            | cons _ _ => cases hs
          subst e
          exact ⟨its, n, q, hz, He.relAll_ok hr⟩
        | _ => cases h
      | some _ => cases h
    | _ => cases h
def rCatK (K : PySem.W.Frag) : R2 := fun x y H Q => ∃ l b xs zs, x = .ref l ∧ y = .ref b ∧ (H l = some (.lst xs) ∨ PlK K l xs) ∧ (H b = some (.lst zs) ∨ PlK K b zs) ∧ xs.length + zs.length ≤ sizeLine ∧ ∀ p, H p = none → Q (.ref p) (upd H p (.lst (xs ++ zs)))
theorem lstK {X : Cx} {pins : List (Addr × Obj)} {σ : L2.St} {H : Hp} {s : Shared} {l : Addr} {xs : List V} (I : Inv X pins σ H s) (h : H l = some (.lst xs) ∨ PlK X.K l xs) : ∃ (its : List Value) (n : Nat), Vals xs its ∧ xs.length = its.length ∧ s.heap.get? l = some { cls := .type "list", data := .seq its.toArray n } := by
  rcases h with h | h
  · obtain ⟨z, its, n, r, hl, e⟩ := I.lstM h
    exact ⟨its, n, r, hl, e⟩
  · obtain ⟨its, n, e, hz, r⟩ := h.ex
    exact ⟨its.toList, n, r, r.length, by simpa using I.kIn l _ e⟩
theorem op_catK {X : Cx} (K : PySem.W.Frag) (hK : X.K = K := by rfl) : OpR X (binaryOp .Add) (rCatK K) := by
  subst hK
  intro pins s σ H x y v u Q I rx ry h
  obtain ⟨l, b, xs, zs, rfl, rfl, hH, hB, hz, q⟩ := h
  cases rx
  cases ry
  obtain ⟨its, n, r, hl, e⟩ := lstK I hH
  obtain ⟨its2, n2, r2, hl2, e2⟩ := lstK I hB
  refine PySem.P.add_list e e2 ?_ (by rw [List.size_toArray, List.size_toArray]; omega)
  rw [show its.toArray ++ its2.toArray = (its ++ its2).toArray by simp]
  exact ⟨.ref _, _, I.lnew (t' := s.toks) (r.append r2) (by rw [List.length_append]; omega), rfl, q _ I.fresh⟩
theorem rd_catK {K : PySem.W.Frag} {H : Hp} {Q : VK} {M : List Addr} {a b : Addr} {ms xs : List Nat} (s : Al M H) (h : PlK K a (ms.map fun n : Nat => V.int n)) (k : Is M H (.ref b) (nats xs)) (hz : ms.length + xs.length ≤ 100000)
    (q : ∀ p H', H p = none → Ext [] H H' → Is M H' (.ref p) (nats (ms ++ xs)) → Q (.ref p) H') : rCatK K (.ref a) (.ref b) H Q := by
  obtain ⟨ws, _, hx, r⟩ := k.list
  refine ⟨a, b, _, ws, rfl, rfl, .inr h, .inl hx, szL (by rw [r.length, List.length_map, List.length_map]; exact hz), fun p hp => q p _ hp (.new hp) (new_lst s ?_ hp)⟩
  rw [List.map_append]
  exact (nats_V ms).append r
/-! ### comprehensions and loops over lists of something, with a state beside -/
inductive All2 {α β : Type} (R : α → β → Prop) : List α → List β → Prop
  | nil : All2 R [] []
  | cons {a : α} {b : β} {as : List α} {bs : List β} : R a b → All2 R as bs → All2 R (a :: as) (b :: bs)
theorem All2.snoc {α β : Type} {R : α → β → Prop} {a : α} {b : β} : ∀ {as : List α} {bs : List β}, All2 R as bs → R a b → All2 R (as ++ [a]) (bs ++ [b])
  | _, _, .nil, h => .cons h .nil
  | _, _, .cons r t, h => .cons r (All2.snoc t h)
theorem All2.length {α β : Type} {R : α → β → Prop} : ∀ {as : List α} {bs : List β}, All2 R as bs → as.length = bs.length
  | _, _, .nil => rfl
  | _, _, .cons _ t => congrArg Nat.succ t.length
theorem All2.fn {α β : Type} {f : α → β} : ∀ {as : List α} {bs : List β}, All2 (fun a b => b = f a) as bs → bs = as.map f
  | _, _, .nil => rfl
  | _, _, .cons r t => by rw [r, t.fn]; rfl
theorem All2.mem {α β : Type} {R : α → β → Prop} {b : β} : ∀ {as : List α} {bs : List β}, All2 R as bs → b ∈ bs → ∃ a ∈ as, R a b
  | _, _, .nil, h => nomatch h
  | _, _, .cons r t, h => by
    rcases List.mem_cons.mp h with rfl | h
    · exact ⟨_, List.mem_cons_self .., r⟩
    · obtain ⟨a, ha, q⟩ := All2.mem t h
      exact ⟨a, List.mem_cons_of_mem _ ha, q⟩
/-- each of the second is a choice made by the first -/
theorem All2.pick {α β γ : Type} {R : α → γ → Prop} {g : γ → β} : ∀ {as : List α} {bs : List β}, All2 (fun a b => ∃ c, b = g c ∧ R a c) as bs → ∃ cs, bs = cs.map g ∧ All2 R as cs
  | _, _, .nil => ⟨[], rfl, .nil⟩
  | _, _, .cons ⟨c, e, r⟩ t => by
    obtain ⟨cs, e2, r2⟩ := All2.pick t
    exact ⟨c :: cs, by rw [e, e2]; rfl, .cons r r2⟩
structure MadeN (N M : List Addr) (H0 : Hp) (D : Addr) (es : List PyData) (H : Hp) : Prop where
  sub : ∀ b ∈ N, b ∈ M
  free : H0 D = none
  ext : Ext N H0 H
  off : D ∉ M
  ls : ∃ ys, H D = some (.lst ys) ∧ IsAll (D :: M) H ys es
section
variable {N M : List Addr} {H0 H H' : Hp} {a D : Addr} {es : List PyData} {K : PySem.W.Frag} {d : PyData} {y x v : V}
theorem MadeN.start (hN : ∀ b ∈ N, b ∈ M) (s : Al M H0) (hD : H0 D = none) : MadeN N M H0 D [] (upd H0 D (.lst [])) := ⟨hN, hD, .new hD, s.fresh hD, [], upd_same, .nil⟩
theorem MadeN.startE (hN : ∀ b ∈ N, b ∈ M) (s : Al M H0) (e : Ext N H0 H) (hD : H D = none) : MadeN N M H0 D [] (upd H D (.lst [])) := ⟨hN, e.free hD, e.trans (.new hD), (s.ext e).fresh hD, [], upd_same, .nil⟩
theorem MadeN.al (m : MadeN N M H0 D es H) (s : Al M H0) : Al (D :: M) H := by
  obtain ⟨ys, h1, h2⟩ := m.ls
  exact .cons (some_ne h1) (s.ext m.ext)
theorem MadeN.is (m : MadeN N M H0 D es H) : Is M H (.ref D) (.list es) := by
  obtain ⟨ys, h1, h2⟩ := m.ls
  exact .lst m.off h1 h2.on
theorem MadeN.ofs (m : MadeN N M H0 D es H) (i : Is M H0 v d) : Is (D :: M) H v d := (i.off m.free).mono (m.ext.more fun b hb => List.mem_cons_of_mem _ (m.sub b hb))
theorem MadeN.of0 (m : MadeN N M H0 D es H) (i : Is M H0 v d) : Is M H v d := (m.ofs i).on
theorem MadeN.nD (m : MadeN N M H0 D es H) : D ∉ N := fun q => m.off (m.sub _ q)
theorem MadeN.step (m : MadeN N M H0 D es H) (e : Ext N H H') (h : Is (D :: M) H' y d) (hl : es.length < 100000) :
    ∃ acc, H' D = some (.lst acc) ∧ acc.length < sizeLine ∧ MadeN N M H0 D (es ++ [d]) (upd H' D (.lst (acc ++ [y]))) := by
  obtain ⟨ys, h1, h2⟩ := m.ls
  refine ⟨ys, e.keep _ _ m.nD h1, szl' (by rw [h2.length]; omega), m.sub, m.free, (m.ext.trans e).mut m.free, m.off, _, upd_same, ?_⟩
  exact ((h2.mono (e.more fun b hb => List.mem_cons_of_mem _ (m.sub b hb))).append (.one h)).mono (.set (List.mem_cons_self ..))
theorem MadeN.go (m : MadeN N M H0 D es H) (e : Ext N H H') : MadeN N M H0 D es H' := by
  obtain ⟨ys, h1, h2⟩ := m.ls
  exact ⟨m.sub, m.free, m.ext.trans e, m.off, ys, e.keep _ _ m.nD h1, h2.mono (e.more fun b hb => List.mem_cons_of_mem _ (m.sub b hb))⟩
/-- D.append(e): rd_app first, then this -/
theorem MadeN.lst (m : MadeN N M H0 D es H) : ∃ ys, H D = some (.lst ys) := by
  obtain ⟨ys, h1, h2⟩ := m.ls
  exact ⟨ys, h1⟩
theorem rd_appE {G : List V → Prop} (m : MadeN N M H0 D es H) (e : Ext N H H') (i : Is (D :: M) H' y d) (hl : es.length < 100000) (k : ∀ acc, MadeN N M H0 D (es ++ [d]) (upd H' D (.lst (acc ++ [y]))) → G acc) :
    ∃ ys, H' D = some (.lst ys) ∧ ys.length < sizeLine ∧ G ys := by
  obtain ⟨acc, h3, h4, m'⟩ := m.step e i hl
  exact ⟨acc, h3, h4, k acc m'⟩
end
section
variable {N M : List Addr} {H0 H : Hp} {a D : Addr} {K : PySem.W.Frag} {j : Nat} {vs : List Nat} {te : TE} {σ : L2.St} {Q : VK} {α : Type} {L : List α} {g : α → PyData} {Rel : α → PyData → Prop} {RelI : Nat → PyData → Prop} {J : Hp → Prop}
/-- [e for x in a list], with what may change (N) and what goes along (J) -/
theorem q_lcA (J : Hp → Prop) (Rel : α → PyData → Prop) (hN : ∀ b ∈ N, b ∈ M) (s : Al M H0) (hD : H0 D = none) (h : Is M H0 (.ref a) (.list (L.map g))) (hn : L.length ≤ 100000) (hw : ∀ x, wipe ((wipe σ vs).set j (some x)) vs = wipe σ vs)
    (j0 : J H0) (hJ : ∀ A o, J A → J (upd A D o))
    (he : ∀ (i : Nat) (x : V) (y : α) H', L[i]? = some y → Al (D :: M) H' → Ext N H0 H' → J H' → Is (D :: M) H' x (g y) → ∀ R : VK, (∀ w H'' e, Ext N H' H'' → J H'' → Is (D :: M) H'' w e → Rel y e → R w H'') → te ((wipe σ vs).set j (some x)) H' R)
    (hd : ∀ H' es, Ext N H0 H' → J H' → All2 Rel L es → Is M H' (.ref D) (.list es) → Q (.ref D) H') : qLc (Itl K a) (gName j) tYes te vs σ D H0 Q := by
  obtain ⟨xs, na, hx, r⟩ := h.list
  have hlen : xs.length = L.length := by rw [r.length, List.length_map]
  refine lc_list (xs := xs) (fun i H' => J H' ∧ ∃ es, All2 Rel (L.take i) es ∧ MadeN N M H0 D es H') ⟨hJ _ _ j0, [], .nil, MadeN.start hN s hD⟩ (fun i H' _ m => ?_) (fun i x H' hi m => ?_) fun H' m => ?_
  · obtain ⟨_, es, _, m⟩ := m
    exact SqL.of (m.ext.keep _ _ (fun q => na (hN _ q)) hx)
  · obtain ⟨jh, es, r2, m⟩ := m
    obtain ⟨d, hd', iv⟩ := r.got hi
    rw [List.getElem?_map] at hd'
    cases hy : L[i]? with
    | none => rw [hy] at hd'; cases hd'
    | some y =>
      rw [hy] at hd'
      cases hd'
      refine ⟨hw _, rd_yes ?_⟩
      refine iteT ?_
      refine he i x y H' hy (m.al s) m.ext jh (m.ofs iv) _ fun w H'' e e1 j1 i1 r1 => ?_
      obtain ⟨acc, h1, h2, m'⟩ := m.step e1 i1 (by
        have z := r2.length
        rw [List.length_take] at z
        have : i < L.length := (List.getElem?_eq_some_iff.mp hy).1
        omega)
      refine ⟨acc, h1, h2, hJ _ _ j1, es ++ [e], ?_, m'⟩
      rw [List.take_add_one, hy]
      exact r2.snoc r1
  · obtain ⟨jh, es, r2, m⟩ := m
    rw [hlen, List.take_length] at r2
    exact hd H' es m.ext jh r2 m.is
/-- [e for i in range(n)] -/
theorem q_lcAR {lo : Int} {n : Nat} (J : Hp → Prop) (Rel : Nat → PyData → Prop) (hN : ∀ b ∈ N, b ∈ M) (s : Al M H0) (hD : H0 D = none) (hn : n ≤ 100000) (hw : ∀ x, wipe ((wipe σ vs).set j (some x)) vs = wipe σ vs)
    (j0 : J H0) (hJ : ∀ A o, J A → J (upd A D o))
    (he : ∀ (i : Nat) H', i < n → Al (D :: M) H' → Ext N H0 H' → J H' → (∀ v d, Is M H0 v d → Is (D :: M) H' v d) → ∀ R : VK, (∀ w H'' e, Ext N H' H'' → J H'' → Is (D :: M) H'' w e → Rel i e → R w H'') → te ((wipe σ vs).set j (some (.int (lo + i)))) H' R)
    (hd : ∀ H' es, Ext N H0 H' → J H' → All2 Rel (List.range n) es → Is M H' (.ref D) (.list es) → Q (.ref D) H') : qLc (Itr lo n) (gName j) tYes te vs σ D H0 Q := by
  refine lc_range (fun i H' => J H' ∧ ∃ es, All2 Rel (List.range i) es ∧ MadeN N M H0 D es H') ⟨hJ _ _ j0, [], .nil, MadeN.start hN s hD⟩ (fun i H' hi m => ?_) fun H' m => ?_
  · obtain ⟨jh, es, r2, m⟩ := m
    refine ⟨hw _, rd_yes ?_⟩
    refine iteT ?_
    refine he i H' hi (m.al s) m.ext jh (fun v d => m.ofs) _ fun w H'' e e1 j1 i1 r1 => ?_
    obtain ⟨acc, h1, h2, m'⟩ := m.step e1 i1 (by
      have z := r2.length
      rw [List.length_range] at z
      omega)
    refine ⟨acc, h1, h2, hJ _ _ j1, es ++ [e], ?_, m'⟩
    rw [List.range_succ]
    exact r2.snoc r1
  · obtain ⟨jh, es, r2, m⟩ := m
    exact hd H' es m.ext jh r2 m.is
/-- without a state: a function of the elements -/
theorem q_lcM (f : α → PyData) (s : Al M H0) (hD : H0 D = none) (h : Is M H0 (.ref a) (.list (L.map g))) (hn : L.length ≤ 100000) (hw : ∀ x, wipe ((wipe σ vs).set j (some x)) vs = wipe σ vs)
    (he : ∀ (x : V) (y : α) H', y ∈ L → Al (D :: M) H' → Ext [] H0 H' → Is (D :: M) H' x (g y) → ∀ R : VK, (∀ w H'', Ext [] H' H'' → Is (D :: M) H'' w (f y) → R w H'') → te ((wipe σ vs).set j (some x)) H' R)
    (hd : ∀ H', Ext [] H0 H' → Is M H' (.ref D) (.list (L.map f)) → Q (.ref D) H') : qLc (Itl K a) (gName j) tYes te vs σ D H0 Q :=
  q_lcA (N := []) (fun _ => True) (fun y e => e = f y) (fun b h => nomatch h) s hD h hn hw trivial (fun _ _ _ => trivial) (fun i x y H' hy s' e _ iv R k => he x y H' (List.mem_of_getElem? hy) s' e iv R fun w H'' e2 i2 => k w H'' _ e2 trivial i2 rfl)
    fun H' es e _ r i => hd H' e (by rw [r.fn] at i; exact i)
variable {tb : TS} {E : Ends} {gt : TG}
/-- a walk over a list of something -/
theorem q_dataM (h : Is M H0 (.ref a) (.list (L.map g))) (Pv : Nat → L2.St → Hp → Prop) (h0 : Pv 0 σ H) (hE : ∀ i σ H, Pv i σ H → Ext M H0 H)
    (hs : ∀ i y x σ H, L[i]? = some y → Is M H x (g y) → Pv i σ H → gt x σ H fun σ2 H2 => tb { E with nx := Pv (i + 1), ct := Pv (i + 1), bk := E.nx } σ2 H2) (hd : ∀ σ H, Pv L.length σ H → E.nx σ H) : qFor (Itl K a) gt tb E σ H := by
  refine q_data h Pv h0 hE (fun i d x σ H hi iv p => ?_) fun σ H p => hd σ H (by rw [List.length_map] at p; exact p)
  rw [List.getElem?_map] at hi
  cases hy : L[i]? with
  | none => rw [hy] at hi; cases hi
  | some y =>
    rw [hy] at hi
    cases hi
    exact hs i y x σ H hy iv p
end
theorem take_snoc {α : Type} {L : List α} {i : Nat} {y : α} (h : L[i]? = some y) : L.take (i + 1) = L.take i ++ [y] := by rw [List.take_add_one, h]; rfl
/-! ### lists of something: parts, sums, places -/
section
variable {M : List Addr} {H : Hp} {Q : VK} {K : PySem.W.Frag} {a b : Addr} {α : Type} {L L2 : List α} {g : α → PyData}
theorem rd_mcut {lo hi : Int} {l h : Nat} (s : Al M H) (i : Is M H (.ref a) (.list (L.map g))) (hl : lo = (l : Int)) (hh : hi = (h : Int)) (q : ∀ p H', H p = none → Ext [] H H' → Is M H' (.ref p) (.list (((L.take h).drop l).map g)) → Q (.ref p) H') : rSlL K (.ref a) (some lo) (some hi) H Q :=
  rd_cut s i hl hh fun p H' hp e _ j => q p H' hp e (by rw [List.map_drop, List.map_take]; exact j)
theorem rd_mcut0 {hi : Int} {h : Nat} (s : Al M H) (i : Is M H (.ref a) (.list (L.map g))) (hh : hi = (h : Int)) (q : ∀ p H', H p = none → Ext [] H H' → Is M H' (.ref p) (.list ((L.take h).map g)) → Q (.ref p) H') : rSlL K (.ref a) none (some hi) H Q :=
  rd_cut0 s i hh fun p H' hp e _ j => q p H' hp e (by rw [List.map_take]; exact j)
theorem rd_mcutN {lo : Int} {l : Nat} (s : Al M H) (i : Is M H (.ref a) (.list (L.map g))) (hl : lo = (l : Int)) (q : ∀ p H', H p = none → Ext [] H H' → Is M H' (.ref p) (.list ((L.drop l).map g)) → Q (.ref p) H') : rSlL K (.ref a) (some lo) none H Q :=
  rd_cutN s i hl fun p H' hp e _ j => q p H' hp e (by rw [List.map_drop]; exact j)
theorem rd_mcat (s : Al M H) (h : Is M H (.ref a) (.list (L.map g))) (k : Is M H (.ref b) (.list (L2.map g))) (hz : L.length + L2.length ≤ 100000) (q : ∀ p H', H p = none → Ext [] H H' → (∃ xs, H' p = some (.lst xs) ∧ IsAll (p :: M) H' xs ((L ++ L2).map g)) → Is M H' (.ref p) (.list ((L ++ L2).map g)) → Q (.ref p) H') : rCat (.ref a) (.ref b) H Q :=
  rd_dcat s h k (by rw [List.length_map, List.length_map]; exact hz) fun p H' hp e x i => q p H' hp e (by rw [List.map_append]; exact x) (by rw [List.map_append]; exact i)
theorem rd_mix {i : Int} {j : Nat} {y : α} (h : Is M H (.ref a) (.list (L.map g))) (hj : i = (j : Int)) (hd : L[j]? = some y) (q : ∀ v, Is M H v (g y) → Q v H) : rIxL K (.ref a) (.int i) H Q :=
  rd_dix h hj (by rw [List.getElem?_map, hd]; rfl) q
theorem rd_mrep {k : Int} {j : Nat} (s : Al M H) (h : Is M H (.ref a) (.list (L.map g))) (hk : k.toNat = j) (h0 : -(2 ^ 62) ≤ k) (h1 : k ≤ 100000) (hz : L.length * j ≤ 100000) (q : ∀ p H', H p = none → Ext [] H H' → Is M H' (.ref p) (.list ((List.replicate j L).flatten.map g)) → Q (.ref p) H') : rRep (.ref a) (.int k) H Q := by
  subst hk
  refine rd_drep s h (by omega) (by omega) (by rw [List.length_map]; exact hz) fun p H' hp e i => q p H' hp e ?_
  rw [List.map_flatten, List.map_replicate]
  exact i
theorem get_D {xs : List (List Nat)} {j : Nat} (h : j < xs.length) : xs[j]? = some (xs.getD j []) := by rw [List.getD_eq_getElem?_getD, List.getElem?_eq_getElem h]; rfl
end
/-! ### the state of the law's numbers: a list of the script's list and three numbers -/
structure StAt (H : Hp) (p l : Addr) : Prop where
  ex : ∃ (ns : List Int) (i m s : Int), H p = some (.lst [.ref l, .int i, .int m, .int s]) ∧ H l = some (.lst (ns.map V.int)) ∧ 0 ≤ i ∧ i ≤ ns.length ∧ 0 ≤ m
  ne : p ≠ l
theorem StAt.ext {M : List Addr} {H H' : Hp} {p l : Addr} (s : StAt H p l) (e : Ext M H H') (h1 : p ∉ M) (h2 : l ∉ M) : StAt H' p l := by
  obtain ⟨⟨ns, i, m, s0, a, b, c⟩, ne⟩ := s
  exact ⟨⟨ns, i, m, s0, e.keep _ _ h1 a, e.keep _ _ h2 b, c⟩, ne⟩
theorem StAt.ext0 {H H' : Hp} {p l : Addr} (s : StAt H p l) (e : Ext [] H H') : StAt H' p l := s.ext e (by simp) (by simp)
theorem at_st0 {H H' : Hp} {p l : Addr} (e : Ext [] H H') (s : StAt H p l) : StAt H' p l := s.ext0 e
theorem at_stN {H : Hp} {p l q : Addr} {o : HO} (h : H q = none) (s : StAt H p l) : StAt (upd H q o) p l := s.ext0 (.new h)
theorem StAt.al {H : Hp} {p l : Addr} (s : StAt H p l) : H p ≠ none := by
  obtain ⟨⟨ns, i, m, s0, a, b, c⟩, ne⟩ := s
  exact some_ne a
theorem StAt.ne_new {H : Hp} {p l r : Addr} (s : StAt H p l) (h : H r = none) : r ≠ p := fun e => s.al (by rw [← e]; exact h)
theorem StAt.als {H : Hp} {p l : Addr} (s : StAt H p l) : Al [p] H := .cons s.al .nil
theorem StAt.al2 {H : Hp} {p l : Addr} (s : StAt H p l) : H l ≠ none := by
  obtain ⟨⟨ns, i, m, s0, a, b, c⟩, ne⟩ := s
  exact some_ne b
/-! ### < and > of tuples of anything: the first pair that differs tells (own rule: nothing is asked of the pairs behind it) -/
inductive LexP (op : CmpOp) (A : Around) (s : Shared) (z : Bool) : List (Value × Value) → Bool → Prop
  | done : LexP op A s z [] z
  | same {x y : Value} {r : List (Value × Value)} {k : Bool} : SeqAt.EqAt A s x y true → LexP op A s z r k → LexP op A s z ((x, y) :: r) k
  | diff {x y : Value} {r : List (Value × Value)} {k : Bool} : SeqAt.EqAt A s x y false → Ob.RcOp op A s x y k → LexP op A s z ((x, y) :: r) k
section
open PySem.AutoSeq1 (wpAny_loadPart')
open PySem.SeqAt PySem.MeetsSeq PySem.MeetsSeq2 PySem.MeetsSeq3
theorem lexLt (p q : Addr) (us vs : Array Value) (n m : Nat) (d1 d2 : Option Addr) (l1 l2 : Array (Option Value)) (k : Bool) :
    Meets (Builtin.«tuple.__lt__» ⟨[.ref p, .ref q], []⟩) (fun A R s => s.heap.get? p = some ⟨.type "tuple", d1, .seq us n, l1⟩ ∧ s.heap.get? q = some ⟨.type "tuple", d2, .seq vs m, l2⟩ ∧
      LexP .Lt A.in1 s (decide (us.size < vs.size)) (us.toList.zip vs.toList) k ∧ R (.ok (.ret (.bool k))) s) :=
  .of_wp fun prog w A R s0 h => by
    obtain ⟨hh, gg, dd, tt, oo⟩ := s0
    obtain ⟨hp, hq, hx, fin⟩ := h
    have sub := AutoSeq1.sub_tuple_tuple
    wp_walk using wpAny_loadPart' hp, wpAny_loadPart' hq, wpAny_forIn_list _ (fun r b s1 => b.1 = none ∧ s1 = ⟨hh, gg, dd, tt, oo⟩ ∧ LexP .Lt A.in1 ⟨hh, gg, dd, tt, oo⟩ (decide (us.size < vs.size)) r k) _
    case turn =>
      rintro ⟨x, y⟩ r b s1 ⟨hb, rfl, c⟩
      cases c with
      | same e c =>
        refine wpAny_bind (e prog w _ _ ?_)
        wp_walk
        exact ⟨rfl, rfl, c⟩
      | diff e c =>
        refine wpAny_bind (e prog w _ _ ?_)
        have c' := c prog w
        wp_walk using c'
        exact ⟨_, rfl, fin⟩
    case fin =>
      rintro ⟨b1, b2⟩ s1 ⟨hb, rfl, c⟩
      simp only at hb
      subst hb
      cases c
      wp_walk
      exact ⟨_, rfl, fin⟩
    case h => exact ⟨rfl, rfl, hx⟩
end
section
open PySem.AutoSeq1 (wpAny_loadPart')
open PySem.SeqAt PySem.MeetsSeq PySem.MeetsSeq2 PySem.MeetsSeq3
theorem lexGt (p q : Addr) (us vs : Array Value) (n m : Nat) (d1 d2 : Option Addr) (l1 l2 : Array (Option Value)) (k : Bool) :
    Meets (Builtin.«tuple.__gt__» ⟨[.ref p, .ref q], []⟩) (fun A R s => s.heap.get? p = some ⟨.type "tuple", d1, .seq us n, l1⟩ ∧ s.heap.get? q = some ⟨.type "tuple", d2, .seq vs m, l2⟩ ∧
      LexP .Gt A.in1 s (decide (us.size > vs.size)) (us.toList.zip vs.toList) k ∧ R (.ok (.ret (.bool k))) s) :=
  .of_wp fun prog w A R s0 h => by
    obtain ⟨hh, gg, dd, tt, oo⟩ := s0
    obtain ⟨hp, hq, hx, fin⟩ := h
    have sub := AutoSeq1.sub_tuple_tuple
    wp_walk using wpAny_loadPart' hp, wpAny_loadPart' hq, wpAny_forIn_list _ (fun r b s1 => b.1 = none ∧ s1 = ⟨hh, gg, dd, tt, oo⟩ ∧ LexP .Gt A.in1 ⟨hh, gg, dd, tt, oo⟩ (decide (us.size > vs.size)) r k) _
    case turn =>
      rintro ⟨x, y⟩ r b s1 ⟨hb, rfl, c⟩
      cases c with
      | same e c =>
        refine wpAny_bind (e prog w _ _ ?_)
        wp_walk
        exact ⟨rfl, rfl, c⟩
      | diff e c =>
        refine wpAny_bind (e prog w _ _ ?_)
        have c' := c prog w
        wp_walk using c'
        exact ⟨_, rfl, fin⟩
    case fin =>
      rintro ⟨b1, b2⟩ s1 ⟨hb, rfl, c⟩
      simp only at hb
      subst hb
      cases c
      wp_walk
      exact ⟨_, rfl, fin⟩
    case h => exact ⟨rfl, rfl, hx⟩
end
theorem rc_ltT {A : Around} {s : Shared} {p q : Addr} {us vs : Array Value} {k : Bool} (hp : s.heap.IsTuple p us) (hq : s.heap.IsTuple q vs) (hu : A.units < cLine) (hx : LexP .Lt A.in1 s (decide (us.size < vs.size)) (us.toList.zip vs.toList) k) :
    Ob.RcOp .Lt A s (.ref p) (.ref q) k := fun prog w E Q h => by
  obtain ⟨⟨c1, d1, t1, l1⟩, o1, e1, n, f1⟩ := id hp
  obtain ⟨⟨c2, d2, t2, l2⟩, o2, e2, m, f2⟩ := id hq
  simp only at e1 f1 e2 f2
  subst e1 f1 e2 f2
  exact PySem.richCompare_meets_room (op := .Lt) ⟨_, o1, rfl⟩ ⟨_, o2, rfl⟩ F.slot_tuple_lt F.entry_tuple_lt (F.args_tuple_lt_2 _ _) (lexLt p q us vs n m d1 d2 l1 l2 k) ⟨o1, o2, hx, (fun z => nomatch z), h⟩ hu
theorem rc_gtT {A : Around} {s : Shared} {p q : Addr} {us vs : Array Value} {k : Bool} (hp : s.heap.IsTuple p us) (hq : s.heap.IsTuple q vs) (hu : A.units < cLine) (hx : LexP .Gt A.in1 s (decide (us.size > vs.size)) (us.toList.zip vs.toList) k) :
    Ob.RcOp .Gt A s (.ref p) (.ref q) k := fun prog w E Q h => by
  obtain ⟨⟨c1, d1, t1, l1⟩, o1, e1, n, f1⟩ := id hp
  obtain ⟨⟨c2, d2, t2, l2⟩, o2, e2, m, f2⟩ := id hq
  simp only at e1 f1 e2 f2
  subst e1 f1 e2 f2
  exact PySem.richCompare_meets_room (op := .Gt) ⟨_, o1, rfl⟩ ⟨_, o2, rfl⟩ F.slot_tuple_gt F.entry_tuple_gt (F.args_tuple_gt_2 _ _) (lexGt p q us vs n m d1 d2 l1 l2 k) ⟨o1, o2, hx, (fun z => nomatch z), h⟩ hu
/-! ### the order of data: numbers, texts, tuples of them -/
mutual
inductive Cm : PyData → PyData → Ordering → Prop
  | ilt {i j : Int} : i < j → Cm (.int i) (.int j) .lt
  | ieq {i : Int} : Cm (.int i) (.int i) .eq
  | igt {i j : Int} : j < i → Cm (.int i) (.int j) .gt
  | slt {x y : Str} : x.cps.toList < y.cps.toList → Cm (.str x) (.str y) .lt
  | seq {x : Str} : Cm (.str x) (.str x) .eq
  | sgt {x y : Str} : y.cps.toList < x.cps.toList → Cm (.str x) (.str y) .gt
  | tup {ds es : List PyData} {o : Ordering} : CmL ds es o → Cm (.tuple ds) (.tuple es) o
inductive CmL : List PyData → List PyData → Ordering → Prop
  | nn : CmL [] [] .eq
  | nc {e : PyData} {es : List PyData} : CmL [] (e :: es) .lt
  | cn {d : PyData} {ds : List PyData} : CmL (d :: ds) [] .gt
  | same {d e : PyData} {ds es : List PyData} {o : Ordering} : Cm d e .eq → CmL ds es o → CmL (d :: ds) (e :: es) o
  | diff {d e : PyData} {ds es : List PyData} {o : Ordering} : Cm d e o → o ≠ .eq → CmL (d :: ds) (e :: es) o
end
theorem cps_ne {x y : Str} (h : x.cps.toList < y.cps.toList) : x ≠ y := fun e => by
  subst e
  exact List.lt_irrefl _ h
theorem lt_not {x y : Str} (h : x.cps.toList < y.cps.toList) : ¬ y.cps.toList < x.cps.toList := List.lt_asymm h
mutual
theorem Cm.eqv : ∀ {d e : PyData} {o : Ordering}, Cm d e o → PyData.eqv d e = (o == .eq)
  | _, _, _, .ilt h => by simp only [PyData.eqv]; exact decide_eq_false (by omega)
  | _, _, _, .ieq => by simp only [PyData.eqv]; exact decide_eq_true rfl
  | _, _, _, .igt h => by simp only [PyData.eqv]; exact decide_eq_false (by omega)
  | _, _, _, .slt h => by simp only [PyData.eqv]; exact decide_eq_false (cps_ne h)
  | _, _, _, .seq => by simp only [PyData.eqv]; exact decide_eq_true rfl
  | _, _, _, .sgt h => by simp only [PyData.eqv]; exact decide_eq_false (cps_ne h).symm
  | _, _, _, .tup h => by simp only [PyData.eqv]; exact CmL.eqv h
theorem CmL.eqv : ∀ {ds es : List PyData} {o : Ordering}, CmL ds es o → PyData.eqvAll ds es = (o == .eq)
  | _, _, _, .nn => by simp [PyData.eqvAll]
  | _, _, _, .nc => by simp [PyData.eqvAll]
  | _, _, _, .cn => by simp [PyData.eqvAll]
  | _, _, _, .same h t => by
    simp only [PyData.eqvAll, Cm.eqv h, CmL.eqv t]
    rfl
  | _, _, o, .diff h n => by
    simp only [PyData.eqvAll, Cm.eqv h]
    cases o with
    | eq => exact absurd rfl n
    | lt => rfl
    | gt => rfl
end
theorem Reads.tup {h : Heap} {v : Value} {ds : List PyData} {as : List Addr} (r : Reads h v (.tuple ds) as) : ∃ (a : Addr) (us : Array Value), v = .ref a ∧ h.IsTuple a us ∧ ReadsAll h us.toList ds as := by
  cases r with
  | tuple h1 h2 h3 h4 => exact ⟨_, _, rfl, ⟨_, h1, h2, _, h3⟩, h4⟩
mutual
theorem Cm.rc : ∀ {d e : PyData} {o : Ordering}, Cm d e o → ∀ {A : Around} {s : Shared} {u v : Value} {as bs : List Addr}, Reads s.heap u d as → Reads s.heap v e bs → PyData.canLay0 d = true → PyData.canLay0 e = true → A.units + PyData.depth d + 1 < cLine →
    Ob.RcOp .Lt A s u v (o == .lt) ∧ Ob.RcOp .Gt A s u v (o == .gt)
  | _, _, _, .ilt (i := i) (j := j) h, A, s, _, _, _, _, .int _ t, .int _ t', _, _, _ => by
    have a := Ob.RcOp.lt_int (A := A) (s := s) i j t t'
    have b := Ob.RcOp.gt_int (A := A) (s := s) i j t t'
    rw [decide_eq_true h] at a
    rw [decide_eq_false (by omega)] at b
    exact ⟨a, b⟩
  | _, _, _, .ieq (i := i), A, s, _, _, _, _, .int _ t, .int _ t', _, _, _ => by
    have a := Ob.RcOp.lt_int (A := A) (s := s) i i t t'
    have b := Ob.RcOp.gt_int (A := A) (s := s) i i t t'
    rw [decide_eq_false (by omega)] at a b
    exact ⟨a, b⟩
  | _, _, _, .igt (i := i) (j := j) h, A, s, _, _, _, _, .int _ t, .int _ t', _, _, _ => by
    have a := Ob.RcOp.lt_int (A := A) (s := s) i j t t'
    have b := Ob.RcOp.gt_int (A := A) (s := s) i j t t'
    rw [decide_eq_false (by omega)] at a
    rw [decide_eq_true h] at b
    exact ⟨a, b⟩
  | _, _, _, .slt h, A, s, _, _, _, _, .str _ t, .str _ t', _, _, _ =>
    ⟨fun prog w E Q q => PyProof.Rows.lt_str (by rw [decide_eq_true h]; exact q), fun prog w E Q q => PySem.P.gt_str (by rw [decide_eq_false (lt_not h)]; exact q)⟩
  | _, _, _, .seq, A, s, _, _, _, _, .str _ t, .str _ t', _, _, _ =>
    ⟨fun prog w E Q q => PyProof.Rows.lt_str (by rw [decide_eq_false (List.lt_irrefl _)]; exact q), fun prog w E Q q => PySem.P.gt_str (by rw [decide_eq_false (List.lt_irrefl _)]; exact q)⟩
  | _, _, _, .sgt h, A, s, _, _, _, _, .str _ t, .str _ t', _, _, _ =>
    ⟨fun prog w E Q q => PyProof.Rows.lt_str (by rw [decide_eq_false (lt_not h)]; exact q), fun prog w E Q q => PySem.P.gt_str (by rw [decide_eq_true h]; exact q)⟩
  | _, _, _, .tup h, A, s, _, _, _, _, ru, rv, lu, lv, hu => by
    obtain ⟨a, us, rfl, ta, ra⟩ := Reads.tup ru
    obtain ⟨b, vs, rfl, tb, rb⟩ := Reads.tup rv
    simp only [PyData.canLay0] at lu lv
    simp only [PyData.depth] at hu
    obtain ⟨c1, c2⟩ := CmL.rc h ra rb lu lv (A := A.in1) (by show A.units + 1 + _ + 1 < cLine; omega)
    exact ⟨rc_ltT ta tb (by omega) (by simpa using c1), rc_gtT ta tb (by omega) (by simpa using c2)⟩
theorem CmL.rc : ∀ {ds es : List PyData} {o : Ordering}, CmL ds es o → ∀ {A : Around} {s : Shared} {us vs : List Value} {as bs : List Addr}, ReadsAll s.heap us ds as → ReadsAll s.heap vs es bs → PyData.canLayAll0 ds = true → PyData.canLayAll0 es = true → A.units + PyData.depthAll ds + 1 < cLine →
    LexP .Lt A s (decide (us.length < vs.length)) (us.zip vs) (o == .lt) ∧ LexP .Gt A s (decide (us.length > vs.length)) (us.zip vs) (o == .gt)
  | _, _, _, .nn, _, _, _, _, _, _, .nil, .nil, _, _, _ => ⟨.done, .done⟩
  | _, _, _, .nc, _, _, _, _, _, _, .nil, .cons _ _, _, _, _ => by
    refine ⟨?_, ?_⟩
    · rw [decide_eq_true (by simp)]; exact .done
    · rw [decide_eq_false (by simp)]; exact .done
  | _, _, _, .cn, _, _, _, _, _, _, .cons _ _, .nil, _, _, _ => by
    refine ⟨?_, ?_⟩
    · rw [decide_eq_false (by simp)]; exact .done
    · rw [decide_eq_true (by simp)]; exact .done
  | _, _, _, .same h t, A, s, _, _, _, _, .cons r1 q1, .cons r2 q2, l1, l2, hu => by
    simp only [PyData.canLayAll0, Bool.and_eq_true] at l1 l2
    simp only [PyData.depthAll] at hu
    have e := SeqAt.eqAt_reads _ _ A s _ _ _ _ r1 r2 l1.1 l2.1 (by omega)
    rw [Cm.eqv h] at e
    obtain ⟨c1, c2⟩ := CmL.rc t q1 q2 l1.2 l2.2 (A := A) (by omega)
    refine ⟨?_, ?_⟩
    · rw [List.zip_cons_cons, List.length_cons, List.length_cons, show decide (_ + 1 < _ + 1) = decide (_ < _) from decide_eq_decide.mpr Nat.add_lt_add_iff_right]
      exact .same e c1
    · rw [List.zip_cons_cons, List.length_cons, List.length_cons, show decide (_ + 1 > _ + 1) = decide (_ > _) from decide_eq_decide.mpr Nat.add_lt_add_iff_right]
      exact .same e c2
  | _, _, o, .diff h n, A, s, _, _, _, _, .cons r1 q1, .cons r2 q2, l1, l2, hu => by
    simp only [PyData.canLayAll0, Bool.and_eq_true] at l1 l2
    simp only [PyData.depthAll] at hu
    have e := SeqAt.eqAt_reads _ _ A s _ _ _ _ r1 r2 l1.1 l2.1 (by omega)
    rw [Cm.eqv h, show (o == Ordering.eq) = false by cases o <;> first | rfl | exact absurd rfl n] at e
    obtain ⟨c1, c2⟩ := Cm.rc h r1 r2 l1.1 l2.1 (A := A) (by omega)
    exact ⟨.diff e c1, .diff e c2⟩
end
def rLtC (K : PySem.W.Frag) : R2 := fun x y H Q => ∃ d e o, Dp K H x d ∧ Dp K H y e ∧ Cm d e o ∧ SeqAt.shaped d = true ∧ SeqAt.shaped e = true ∧ Q (.bl (o == .lt)) H
def rGtC (K : PySem.W.Frag) : R2 := fun x y H Q => ∃ d e o, Dp K H x d ∧ Dp K H y e ∧ Cm d e o ∧ SeqAt.shaped d = true ∧ SeqAt.shaped e = true ∧ Q (.bl (o == .gt)) H
theorem op_ltC {X : Cx} (hu : X.A.units + 70 < cLine) (K : PySem.W.Frag) (hK : X.K = K := by rfl) : OpR X (compareOp .Lt) (rLtC K) := by
  subst hK
  intro pins s σ H x y v u Q I rx ry h
  obtain ⟨d, e, o, hd, he, c, sd, se, q⟩ := h
  obtain ⟨as, r1⟩ := Dp.reads I d x v hd rx
  obtain ⟨bs, r2⟩ := Dp.reads I e y u he ry
  have z := (Cm.rc c r1 r2 (SeqAt.canLay_of_shaped sd) (SeqAt.canLay_of_shaped se) (A := X.A) (by have := SeqAt.depth_of_shaped sd; omega)).1
  exact z X.prog X.w X.xe (EP X pins σ Q) ⟨.bl _, H, I, rfl, q⟩
theorem op_gtC {X : Cx} (hu : X.A.units + 70 < cLine) (K : PySem.W.Frag) (hK : X.K = K := by rfl) : OpR X (compareOp .Gt) (rGtC K) := by
  subst hK
  intro pins s σ H x y v u Q I rx ry h
  obtain ⟨d, e, o, hd, he, c, sd, se, q⟩ := h
  obtain ⟨as, r1⟩ := Dp.reads I d x v hd rx
  obtain ⟨bs, r2⟩ := Dp.reads I e y u he ry
  have z := (Cm.rc c r1 r2 (SeqAt.canLay_of_shaped sd) (SeqAt.canLay_of_shaped se) (A := X.A) (by have := SeqAt.depth_of_shaped sd; omega)).2
  exact z X.prog X.w X.xe (EP X pins σ Q) ⟨.bl _, H, I, rfl, q⟩
section
variable {M M' : List Addr} {H : Hp} {x v : V} {d e : PyData} {o : Ordering} {K : PySem.W.Frag} {Q : VK} {n m : Nat}
theorem rd_ltC (h : Is M H x d) (k : Is M' H v e) (c : Cm d e o) (s1 : Sh n d) (s2 : Sh m e) (q : Q (.bl (o == .lt)) H) (h1 : n ≤ 64 := by decide) (h2 : m ≤ 64 := by decide) : rLtC K x v H Q := ⟨d, e, o, h.dp, k.dp, c, s1.ok h1, s2.ok h2, q⟩
theorem rd_gtC (h : Is M H x d) (k : Is M' H v e) (c : Cm d e o) (s1 : Sh n d) (s2 : Sh m e) (q : Q (.bl (o == .gt)) H) (h1 : n ≤ 64 := by decide) (h2 : m ≤ 64 := by decide) : rGtC K x v H Q := ⟨d, e, o, h.dp, k.dp, c, s1.ok h1, s2.ok h2, q⟩
theorem rd_eqC (h : Is M H x d) (k : Is M' H v e) (c : Cm d e o) (s1 : Sh n d) (s2 : Sh m e) (q : Q (.bl (o == .eq)) H) (h1 : n ≤ 64 := by decide) (h2 : m ≤ 64 := by decide) : rEqD K x v H Q := rd_eqD h k (s1.ok h1) (s2.ok h2) (by rw [c.eqv]; exact q)
end
theorem Sh.str {n : Nat} {x : Str} (h : PyData.strOk x = true) : Sh n (.str x) := ⟨by simp [PyData.canLay0, h], by simp [PyData.depth]⟩
/-- two numbers, two texts -/
def rLtV : R2 := fun x y H Q => (∃ i j, x = .int i ∧ y = .int j ∧ Q (.bl (decide (i < j))) H) ∨ ∃ i j, x = .str i ∧ y = .str j ∧ Q (.bl (decide (i.cps.toList < j.cps.toList))) H
theorem op_ltV {X : Cx} : OpR X (compareOp .Lt) rLtV := by
  intro pins s σ H x y v u Q I rx ry h
  rcases h with h | h
  · exact op_lt pins s σ H x y v u Q I rx ry h
  · exact op_lt_str pins s σ H x y v u Q I rx ry h
def rMulS : R2 := fun x y H Q => ∃ z n, x = .str z ∧ y = .int n ∧ MulOk z n ∧ Q (.str (Txt.mul z n)) H
theorem op_mulS {X : Cx} : OpR X (binaryOp .Mult) rMulS := by
  intro pins s σ H x y v u Q I rx ry h
  obtain ⟨z, n, rfl, rfl, ok, q⟩ := h
  obtain ⟨t, rfl⟩ := (show ∃ t, v = Value.str z t from rx)
  obtain ⟨t', rfl⟩ := (show ∃ t, u = Value.int n t from ry)
  exact PySem.SB.mul ok fun t' k => ⟨.str _, H, I.tok _, ⟨_, rfl⟩, q⟩
def qTupleOf (K : PySem.W.Frag) : List V → Hp → VK → Prop := fun xs H Q => ∃ p ys, xs = [.ref p] ∧ ((SqL K H p ys ∧ ∀ l, H l = none → Q (.ref l) (upd H l (.tup ys))) ∨ (SqT K H p ys ∧ Q (.ref p) H))
theorem call_tupK {X : Cx} (K : PySem.W.Frag) (hK : X.K = K := by rfl) : CallR X (.type "tuple") (qTupleOf K) := hK ▸ call_tuple_of
section
variable {M : List Addr} {H : Hp} {Q : VK} {K : PySem.W.Frag} {a : Addr} {ds : List PyData} {xs : List V} {σ : L2.St} {to te : TE}
theorem rd_dtuple (s : Al M H) (h : Is M H (.ref a) (.list ds)) (q : ∀ p H', H p = none → Ext [] H H' → Is M H' (.ref p) (.tuple ds) → Q (.ref p) H') : qTupleOf K [.ref a] H Q := by
  obtain ⟨xs, _, hx, r⟩ := h.list
  exact ⟨a, xs, rfl, .inl ⟨SqL.of hx, fun l hl => q l _ hl (.new hl) (new_tup s r hl)⟩⟩
theorem rd_m1 {r : V → List V → Hp → VK → Prop} (q : to σ H fun x H1 => (∃ a, x = .str a) ∧ te σ H1 fun y H2 => r x [y] H2 Q) : tM1 r to te σ H Q := q
theorem rd_ixS {z : Str} {i : Int} {j : Nat} {c : Nat} (hz : z.length ≤ 100000) (hj : i = (j : Int)) (h : z.cps.toList[j]? = some c) (q : Q (.str ⟨#[c]⟩) H) : rIxS (.str z) (.int i) H Q := by
  subst hj
  exact ⟨z, _, c, rfl, rfl, szL hz, atI_nat h, q⟩
/-- one of a written list of anything -/
theorem rd_pickV {P : V → Prop} {i : Int} {j : Nat} (h : H a = some (.lst xs)) (hi : i = (j : Int)) (hv : j < xs.length) (hP : ∀ x ∈ xs, P x) (q : ∀ x, P x → Q x H) : rIxL K (.ref a) (.int i) H Q := by
  subst hi
  exact rd_ixL (SqL.of h) (atI_nat (List.getElem?_eq_getElem hv)) (q _ (hP _ (List.getElem_mem hv)))
end
theorem IsAll.ofStrs {M : List Addr} {H : Hp} : ∀ {vs : List V} {xs : List Str}, IsAll M H vs (xs.map PyData.str) → vs = xs.map V.str
  | _, [], h => by cases h; rfl
  | _, n :: ns, h => by
    cases h with
    | cons h r => cases h; rw [IsAll.ofStrs r]; rfl
theorem u70 {k : Nat} {A : Around} (r : Room k A) : A.units + 70 < cLine := by have := r.un; omega
section
variable {N M : List Addr} {H0 H : Hp} {a D : Addr} {K : PySem.W.Frag} {j : Nat} {vs : List Nat} {te : TE} {tt : TT} {σ : L2.St} {Q : VK} {α : Type} {L : List α} {g : α → PyData}
/-- [e for x in a tuple] -/
theorem q_lcTM (f : α → PyData) (s : Al M H0) (hD : H0 D = none) (h : Is M H0 (.ref a) (.tuple (L.map g))) (hn : L.length ≤ 100000) (hw : ∀ x, wipe ((wipe σ vs).set j (some x)) vs = wipe σ vs)
    (he : ∀ (x : V) (y : α) H', y ∈ L → Al (D :: M) H' → Ext [] H0 H' → Is (D :: M) H' x (g y) → ∀ R : VK, (∀ w H'', Ext [] H' H'' → Is (D :: M) H'' w (f y) → R w H'') → te ((wipe σ vs).set j (some x)) H' R)
    (hd : ∀ H', Ext [] H0 H' → Is M H' (.ref D) (.list (L.map f)) → Q (.ref D) H') : qLc (Itt K a) (gName j) tYes te vs σ D H0 Q := by
  obtain ⟨xs, na, hx, r⟩ := h.tuple
  have hlen : xs.length = L.length := by rw [r.length, List.length_map]
  refine lc_tup (xs := xs) (fun i H' => MadeN [] M H0 D ((L.take i).map f) H') (MadeN.start (by simp) s hD) (fun i H' _ m => ?_) (fun i x H' hi m => ?_) fun H' m => ?_
  · exact SqT.of (m.ext.keep _ _ (by simp) hx)
  · obtain ⟨d, hd', iv⟩ := r.got hi
    rw [List.getElem?_map] at hd'
    cases hy : L[i]? with
    | none => rw [hy] at hd'; cases hd'
    | some y =>
      rw [hy] at hd'
      cases hd'
      refine ⟨hw _, rd_yes ?_⟩
      refine iteT ?_
      refine he x y H' (List.mem_of_getElem? hy) (m.al s) m.ext (m.ofs iv) _ fun w H'' e1 i1 => ?_
      obtain ⟨acc, h1, h2, m'⟩ := m.step e1 i1 (by
        have : i < L.length := (List.getElem?_eq_some_iff.mp hy).1
        rw [List.length_map, List.length_take]
        omega)
      refine ⟨acc, h1, h2, ?_⟩
      rw [take_snoc hy, List.map_append]
      exact m'
  · rw [hlen, List.take_length] at m
    exact hd H' m.ext m.is
end
def tnB (K : PySem.W.Frag) (x : Str) : Bool := match K.lookup (He.ga K x) with
  | some ⟨.type c, none, _, _⟩ => decide (c = "tuple")
  | _ => false
theorem tnB_ok {K : PySem.W.Frag} {x : Str} (h : tnB K x = true) : ∃ o, K.lookup (He.ga K x) = some o ∧ o.cls = .type "tuple" ∧ o.dict = none := by
  unfold tnB at h
  cases q : K.lookup (He.ga K x) with
  | none => rw [q] at h; cases h
  | some o =>
    obtain ⟨oc, od, dt, osl⟩ := o
    rw [q] at h
    cases oc with
    | type c =>
      cases od with
      | none => exact ⟨_, rfl, congrArg Value.type (of_decide_eq_true h), rfl⟩
      | some _ => cases h
    | _ => cases od <;> cases h
section
variable {K : PySem.W.Frag} {H : Hp} {σ : L2.St} {R : L2.St → Hp → Prop} {a : Addr} {xs r : List V} {v : V} {g : TG} {gs : TGs} {n : Nat}
theorem rd_gnil (q : R σ H) : gNil [] σ H R := ⟨rfl, q⟩
theorem rd_gcons (q : g v σ H fun σ' H' => gs r σ' H' R) : gCons g gs (v :: r) σ H R := ⟨v, r, rfl, q⟩
theorem rd_gtup (h : SqT K H a xs) (hn : xs.length = n) (q : gs xs σ H R) : gTup K n gs (.ref a) σ H R := ⟨a, xs, rfl, h, hn, q⟩
end
/-- f is a text's method call, index of a text -/
theorem rd_mulS {H : Hp} {Q : VK} {z : Str} {n : Int} (h : MulOk z n) (q : Q (.str (Txt.mul z n)) H) : rMulS (.str z) (.int n) H Q := ⟨z, n, rfl, rfl, h, q⟩
section
variable {K : PySem.W.Frag} {H : Hp} {Q : VK} {p : Addr} {u v w : V} {r : List V}
theorem rd_ixT0 (h : SqT K H p (v :: r)) (q : Q v H) : rIxT K (.ref p) (.int 0) H Q := rd_ixT h (atI_nat (j := 0) rfl) q
theorem rd_ixT1 (h : SqT K H p (u :: v :: r)) (q : Q v H) : rIxT K (.ref p) (.int 1) H Q := rd_ixT h (atI_nat (j := 1) rfl) q
theorem rd_ixT2 (h : SqT K H p (u :: w :: v :: r)) (q : Q v H) : rIxT K (.ref p) (.int 2) H Q := rd_ixT h (atI_nat (j := 2) rfl) q
end
theorem iteB {b : Bool} {A B : Prop} (h : b = true) (q : A) : if b = true then A else B := by rw [if_pos h]; exact q
theorem iteBn {b : Bool} {A B : Prop} (h : b = false) (q : B) : if b = true then A else B := by rw [if_neg (by rw [h]; exact Bool.false_ne_true)]; exact q
theorem rd_tcut0 {M : List Addr} {H : Hp} {Q : VK} {K : PySem.W.Frag} {a : Addr} {ds : List PyData} {hi : Int} {h : Nat} (s : Al M H) (i : Is M H (.ref a) (.tuple ds)) (hh : hi = (h : Int)) (hlt : h < ds.length) (q : ∀ p H', H p = none → Ext [] H H' → Is M H' (.ref p) (.tuple (ds.take h)) → Q (.ref p) H') : rSlT K (.ref a) none (some hi) H Q := by
  subst hh
  obtain ⟨xs, _, hx, r⟩ := i.tuple
  have hl := r.length
  refine ⟨a, xs, rfl, SqT.of hx, fun z => ?_, fun p hp => q p _ hp (.new hp) (new_tup s r.cut0 hp)⟩
  have z2 := z.2
  rw [HT.sIx_nat] at z2
  omega
theorem StAt.updN {H A : Hp} {p l D : Addr} {o : HO} (h : StAt H p l) (hD : H D = none) (s : StAt A p l) : StAt (upd A D o) p l :=
  s.ext (M := [D]) (.set (List.mem_cons_self ..)) (fun z => h.al (by rw [List.mem_singleton.mp z]; exact hD)) (fun z => h.al2 (by rw [List.mem_singleton.mp z]; exact hD))
/-- t + u, whatever is empty -/
def rCatT0 (K : PySem.W.Frag) : R2 := fun x y H Q => ∃ a b xs ys, x = .ref a ∧ y = .ref b ∧ SqT K H a xs ∧ SqT K H b ys ∧ xs.length + ys.length ≤ sizeLine ∧ (xs = [] → Q (.ref b) H) ∧ (xs ≠ [] → ys = [] → Q (.ref a) H) ∧
  (xs ≠ [] → ys ≠ [] → ∀ p, H p = none → Q (.ref p) (upd H p (.tup (xs ++ ys))))
theorem op_catT0 {X : Cx} (K : PySem.W.Frag) (hK : X.K = K := by rfl) : OpR X (binaryOp .Add) (rCatT0 K) := by
  subst hK
  intro pins s σ H x y v u Q I rx ry h
  obtain ⟨a, b, xs, ys, rfl, rfl, ha, hb, hz, q1, q2, q3⟩ := h
  by_cases hx : xs = []
  · subst hx
    cases rx
    cases ry
    obtain ⟨its, r1, p1, _⟩ := I.tuple ha
    obtain ⟨its2, r2, p2, _⟩ := I.tuple hb
    cases r1
    obtain ⟨⟨c1, d1, t1, l1⟩, o1, f1, n, g1⟩ := id p1
    obtain ⟨⟨c2, d2, t2, l2⟩, o2, f2, m, g2⟩ := id p2
    simp only at f1 g1 f2 g2
    subst f1 g1 f2 g2
    exact concat_meets ⟨_, o1, rfl⟩ ⟨_, o2, rfl⟩ noFill_tuple_add seq_tuple_add F.slot_tuple_add F.entry_tuple_add (F.args_tuple_add_2 _ _) (tuple_addW0 a b _ _ n m d1 d2 l1 l2 (by simp)) ⟨o1, o2, ⟨.ref b, H, I, rfl, q1 rfl⟩⟩
  · exact op_catT pins s σ H _ _ v u Q I rx ry ⟨a, b, xs, ys, rfl, rfl, ha, hb, hx, hz, q2 hx, q3 hx⟩
theorem rd_dcatT0 {K : PySem.W.Frag} {H : Hp} {Q : VK} {M : List Addr} {a b : Addr} {ds es : List PyData} (s : Al M H) (h : Is M H (.ref a) (.tuple ds)) (k : Is M H (.ref b) (.tuple es)) (hz : ds.length + es.length ≤ 100000)
    (q : ∀ p H', Ext [] H H' → Is M H' (.ref p) (.tuple (ds ++ es)) → Q (.ref p) H') : rCatT0 K (.ref a) (.ref b) H Q := by
  obtain ⟨xs, _, hx, r⟩ := h.tuple
  obtain ⟨ys, _, hy, r'⟩ := k.tuple
  refine ⟨a, b, xs, ys, rfl, rfl, SqT.of hx, SqT.of hy, szL (by rw [r.length, r'.length]; exact hz), fun e => ?_, fun _ e => ?_, fun _ _ p hp => q p _ (.new hp) (new_tup s (r.append r') hp)⟩
  · subst e
    cases r
    exact q b H .refl k
  · subst e
    cases r'
    rw [List.append_nil] at q
    exact q a H .refl h
def rAddSt : R2 := fun x y H Q => ∃ i j, x = .str i ∧ y = .str j ∧ i.length + j.length ≤ sizeLine ∧ Q (.str (i ++ j)) H
theorem op_addSt {X : Cx} : OpR X (binaryOp .Add) rAddSt := op_add_str
def top (i : Nat) : Stmt := PySem.Challenge.pw_steadwhole_k45_values_rows_and_keys.main.body.getD i (.Pass ⟨0, 0, 0, 0⟩)
abbrev s_value_key : Stmt := top 2
abbrev s_row_key : Stmt := top 3
abbrev s_same_row : Stmt := top 4
abbrev s_key_of : Stmt := top 5
abbrev s_key_order : Stmt := top 6
abbrev s_law_next : Stmt := top 8
abbrev s_law_same : Stmt := top 9
abbrev s_law_characters : Stmt := top 10
abbrev s_law_value : Stmt := top 11
abbrev s_law_row : Stmt := top 12
abbrev s_law_name : Stmt := top 13
abbrev s_law_term : Stmt := top 14
abbrev s_law_terms : Stmt := top 15
abbrev s_law_literal : Stmt := top 16
abbrev s_law_body : Stmt := top 17
abbrev s_law_item : Stmt := top 18
abbrev s_law_before : Stmt := top 19
abbrev s_law_order : Stmt := top 20
abbrev s_law_key : Stmt := top 21
abbrev s_law_key_order : Stmt := top 22
abbrev s_law_agrees : Stmt := top 23
abbrev s_law_great : Stmt := top 24
abbrev s_law : Stmt := top 25
abbrev nm_value_key : List Str := ["value"]
abbrev pm_value_key : List Str := ["value"]
theorem sc_value_key : FnScope nm_value_key pm_value_key (defScope s_value_key) := ⟨rfl, rfl, rfl, by decide +kernel, rfl, by decide +kernel, by decide +kernel⟩
theorem bd_value_key : BindAll "value_key" "value_key" s_value_key pm_value_key := fun _ _ _ _ _ _ us hl => match us, hl with | [_], _ => rfl
abbrev nm_row_key : List Str := ["row", "value"]
abbrev pm_row_key : List Str := ["row"]
theorem sc_row_key : FnScope nm_row_key pm_row_key (defScope s_row_key) := ⟨rfl, rfl, rfl, by decide +kernel, rfl, by decide +kernel, by decide +kernel⟩
theorem bd_row_key : BindAll "row_key" "row_key" s_row_key pm_row_key := fun _ _ _ _ _ _ us hl => match us, hl with | [_], _ => rfl
abbrev nm_same_row : List Str := ["first", "second"]
abbrev pm_same_row : List Str := ["first", "second"]
theorem sc_same_row : FnScope nm_same_row pm_same_row (defScope s_same_row) := ⟨rfl, rfl, rfl, by decide +kernel, rfl, by decide +kernel, by decide +kernel⟩
theorem bd_same_row : BindAll "same_row" "same_row" s_same_row pm_same_row := fun _ _ _ _ _ _ us hl => match us, hl with | [_, _], _ => rfl
abbrev nm_key_of : List Str := ["item", "sort"]
abbrev pm_key_of : List Str := ["item"]
theorem sc_key_of : FnScope nm_key_of pm_key_of (defScope s_key_of) := ⟨rfl, rfl, rfl, by decide +kernel, rfl, by decide +kernel, by decide +kernel⟩
theorem bd_key_of : BindAll "key_of" "key_of" s_key_of pm_key_of := fun _ _ _ _ _ _ us hl => match us, hl with | [_], _ => rfl
abbrev nm_key_order : List Str := ["key", "sort", "name", "row"]
abbrev pm_key_order : List Str := ["key"]
theorem sc_key_order : FnScope nm_key_order pm_key_order (defScope s_key_order) := ⟨rfl, rfl, rfl, by decide +kernel, rfl, by decide +kernel, by decide +kernel⟩
theorem bd_key_order : BindAll "key_order" "key_order" s_key_order pm_key_order := fun _ _ _ _ _ _ us hl => match us, hl with | [_], _ => rfl
abbrev nm_law_next : List Str := ["state", "limit", "cell", "value"]
abbrev pm_law_next : List Str := ["state", "limit"]
theorem sc_law_next : FnScope nm_law_next pm_law_next (defScope s_law_next) := ⟨rfl, rfl, rfl, by decide +kernel, rfl, by decide +kernel, by decide +kernel⟩
theorem bd_law_next : BindAll "_law_next" "_law_next" s_law_next pm_law_next := fun _ _ _ _ _ _ us hl => match us, hl with | [_, _], _ => rfl
abbrev nm_law_same : List Str := ["actual", "expected", "k"]
abbrev pm_law_same : List Str := ["actual", "expected"]
theorem sc_law_same : FnScope nm_law_same pm_law_same (defScope s_law_same) := ⟨rfl, rfl, rfl, by decide +kernel, rfl, by decide +kernel, by decide +kernel⟩
theorem bd_law_same : BindAll "_law_same" "_law_same" s_law_same pm_law_same := fun _ _ _ _ _ _ us hl => match us, hl with | [_, _], _ => rfl
abbrev nm_law_characters : List Str := []
abbrev pm_law_characters : List Str := []
theorem sc_law_characters : FnScope nm_law_characters pm_law_characters (defScope s_law_characters) := ⟨rfl, rfl, rfl, by decide +kernel, rfl, by decide +kernel, by decide +kernel⟩
theorem bd_law_characters : BindAll "_law_characters" "_law_characters" s_law_characters pm_law_characters := fun _ _ _ _ _ _ us hl => match us, hl with | [], _ => rfl
abbrev nm_law_value : List Str := ["state", "pick", "start", "step", "j"]
abbrev pm_law_value : List Str := ["state"]
theorem sc_law_value : FnScope nm_law_value pm_law_value (defScope s_law_value) := ⟨rfl, rfl, rfl, by decide +kernel, rfl, by decide +kernel, by decide +kernel⟩
theorem bd_law_value : BindAll "_law_value" "_law_value" s_law_value pm_law_value := fun _ _ _ _ _ _ us hl => match us, hl with | [_], _ => rfl
abbrev nm_law_row : List Str := ["state", "width", "k"]
abbrev pm_law_row : List Str := ["state", "width"]
theorem sc_law_row : FnScope nm_law_row pm_law_row (defScope s_law_row) := ⟨rfl, rfl, rfl, by decide +kernel, rfl, by decide +kernel, by decide +kernel⟩
theorem bd_law_row : BindAll "_law_row" "_law_row" s_law_row pm_law_row := fun _ _ _ _ _ _ us hl => match us, hl with | [_, _], _ => rfl
abbrev nm_law_name : List Str := ["state"]
abbrev pm_law_name : List Str := ["state"]
theorem sc_law_name : FnScope nm_law_name pm_law_name (defScope s_law_name) := ⟨rfl, rfl, rfl, by decide +kernel, rfl, by decide +kernel, by decide +kernel⟩
theorem bd_law_name : BindAll "_law_name" "_law_name" s_law_name pm_law_name := fun _ _ _ _ _ _ us hl => match us, hl with | [_], _ => rfl
abbrev nm_law_term : List Str := ["state", "pick"]
abbrev pm_law_term : List Str := ["state"]
theorem sc_law_term : FnScope nm_law_term pm_law_term (defScope s_law_term) := ⟨rfl, rfl, rfl, by decide +kernel, rfl, by decide +kernel, by decide +kernel⟩
theorem bd_law_term : BindAll "_law_term" "_law_term" s_law_term pm_law_term := fun _ _ _ _ _ _ us hl => match us, hl with | [_], _ => rfl
abbrev nm_law_terms : List Str := ["state", "k"]
abbrev pm_law_terms : List Str := ["state"]
theorem sc_law_terms : FnScope nm_law_terms pm_law_terms (defScope s_law_terms) := ⟨rfl, rfl, rfl, by decide +kernel, rfl, by decide +kernel, by decide +kernel⟩
theorem bd_law_terms : BindAll "_law_terms" "_law_terms" s_law_terms pm_law_terms := fun _ _ _ _ _ _ us hl => match us, hl with | [_], _ => rfl
abbrev nm_law_literal : List Str := ["state", "form", "operator"]
abbrev pm_law_literal : List Str := ["state"]
theorem sc_law_literal : FnScope nm_law_literal pm_law_literal (defScope s_law_literal) := ⟨rfl, rfl, rfl, by decide +kernel, rfl, by decide +kernel, by decide +kernel⟩
theorem bd_law_literal : BindAll "_law_literal" "_law_literal" s_law_literal pm_law_literal := fun _ _ _ _ _ _ us hl => match us, hl with | [_], _ => rfl
abbrev nm_law_body : List Str := ["state", "k"]
abbrev pm_law_body : List Str := ["state"]
theorem sc_law_body : FnScope nm_law_body pm_law_body (defScope s_law_body) := ⟨rfl, rfl, rfl, by decide +kernel, rfl, by decide +kernel, by decide +kernel⟩
theorem bd_law_body : BindAll "_law_body" "_law_body" s_law_body pm_law_body := fun _ _ _ _ _ _ us hl => match us, hl with | [_], _ => rfl
abbrev nm_law_item : List Str := ["state", "pick", "name"]
abbrev pm_law_item : List Str := ["state"]
theorem sc_law_item : FnScope nm_law_item pm_law_item (defScope s_law_item) := ⟨rfl, rfl, rfl, by decide +kernel, rfl, by decide +kernel, by decide +kernel⟩
theorem bd_law_item : BindAll "_law_item" "_law_item" s_law_item pm_law_item := fun _ _ _ _ _ _ us hl => match us, hl with | [_], _ => rfl
abbrev nm_law_before : List Str := ["first", "second"]
abbrev pm_law_before : List Str := ["first", "second"]
theorem sc_law_before : FnScope nm_law_before pm_law_before (defScope s_law_before) := ⟨rfl, rfl, rfl, by decide +kernel, rfl, by decide +kernel, by decide +kernel⟩
theorem bd_law_before : BindAll "_law_before" "_law_before" s_law_before pm_law_before := fun _ _ _ _ _ _ us hl => match us, hl with | [_, _], _ => rfl
abbrev nm_law_order : List Str := ["first", "second", "k"]
abbrev pm_law_order : List Str := ["first", "second"]
theorem sc_law_order : FnScope nm_law_order pm_law_order (defScope s_law_order) := ⟨rfl, rfl, rfl, by decide +kernel, rfl, by decide +kernel, by decide +kernel⟩
theorem bd_law_order : BindAll "_law_order" "_law_order" s_law_order pm_law_order := fun _ _ _ _ _ _ us hl => match us, hl with | [_, _], _ => rfl
abbrev nm_law_key : List Str := ["item", "sort"]
abbrev pm_law_key : List Str := ["item"]
theorem sc_law_key : FnScope nm_law_key pm_law_key (defScope s_law_key) := ⟨rfl, rfl, rfl, by decide +kernel, rfl, by decide +kernel, by decide +kernel⟩
theorem bd_law_key : BindAll "_law_key" "_law_key" s_law_key pm_law_key := fun _ _ _ _ _ _ us hl => match us, hl with | [_], _ => rfl
abbrev nm_law_key_order : List Str := ["first", "second"]
abbrev pm_law_key_order : List Str := ["first", "second"]
theorem sc_law_key_order : FnScope nm_law_key_order pm_law_key_order (defScope s_law_key_order) := ⟨rfl, rfl, rfl, by decide +kernel, rfl, by decide +kernel, by decide +kernel⟩
theorem bd_law_key_order : BindAll "_law_key_order" "_law_key_order" s_law_key_order pm_law_key_order := fun _ _ _ _ _ _ us hl => match us, hl with | [_, _], _ => rfl
abbrev nm_law_agrees : List Str := ["left", "right", "order"]
abbrev pm_law_agrees : List Str := ["left", "right", "order"]
theorem sc_law_agrees : FnScope nm_law_agrees pm_law_agrees (defScope s_law_agrees) := ⟨rfl, rfl, rfl, by decide +kernel, rfl, by decide +kernel, by decide +kernel⟩
theorem bd_law_agrees : BindAll "_law_agrees" "_law_agrees" s_law_agrees pm_law_agrees := fun _ _ _ _ _ _ us hl => match us, hl with | [_, _, _], _ => rfl
abbrev nm_law_great : List Str := ["state", "number", "k"]
abbrev pm_law_great : List Str := ["state"]
theorem sc_law_great : FnScope nm_law_great pm_law_great (defScope s_law_great) := ⟨rfl, rfl, rfl, by decide +kernel, rfl, by decide +kernel, by decide +kernel⟩
theorem bd_law_great : BindAll "_law_great" "_law_great" s_law_great pm_law_great := fun _ _ _ _ _ _ us hl => match us, hl with | [_], _ => rfl
abbrev nm_law : List Str := ["script", "state", "values", "k", "stem", "value", "rows", "great", "first", "second", "order", "keys", "item"]
abbrev pm_law : List Str := ["script"]
theorem sc_law : FnScope nm_law pm_law (defScope s_law) := ⟨rfl, rfl, rfl, by decide +kernel, rfl, by decide +kernel, by decide +kernel⟩
theorem bd_law : BindAll "law" "law" s_law pm_law := fun _ _ _ _ _ _ us hl => match us, hl with | [_], _ => rfl
/-- what the top has left -/
structure Txt (K : PySem.W.Frag) (mg : Str → Option Value) : Prop where
  f_value_key : GFun K mg "value_key" s_value_key
  f_row_key : GFun K mg "row_key" s_row_key
  f_same_row : GFun K mg "same_row" s_same_row
  f_key_of : GFun K mg "key_of" s_key_of
  f_key_order : GFun K mg "key_order" s_key_order
  f_law_next : GFun K mg "_law_next" s_law_next
  f_law_same : GFun K mg "_law_same" s_law_same
  f_law_characters : GFun K mg "_law_characters" s_law_characters
  f_law_value : GFun K mg "_law_value" s_law_value
  f_law_row : GFun K mg "_law_row" s_law_row
  f_law_name : GFun K mg "_law_name" s_law_name
  f_law_term : GFun K mg "_law_term" s_law_term
  f_law_terms : GFun K mg "_law_terms" s_law_terms
  f_law_literal : GFun K mg "_law_literal" s_law_literal
  f_law_body : GFun K mg "_law_body" s_law_body
  f_law_item : GFun K mg "_law_item" s_law_item
  f_law_before : GFun K mg "_law_before" s_law_before
  f_law_order : GFun K mg "_law_order" s_law_order
  f_law_key : GFun K mg "_law_key" s_law_key
  f_law_key_order : GFun K mg "_law_key_order" s_law_key_order
  f_law_agrees : GFun K mg "_law_agrees" s_law_agrees
  f_law_great : GFun K mg "_law_great" s_law_great
  f_law : GFun K mg "law" s_law
  t_WORDS : mg "WORDS" = some (.ref (He.ga K "WORDS")) ∧ ∀ H : Hp, SqT K H (He.ga K "WORDS") [.str "relation", .str "fact", .str "rule", .str "denial"]
  z_bool : mg "bool" = none
  z_int : mg "int" = none
  z_isinstance : mg "isinstance" = none
  z_len : mg "len" = none
  z_list : mg "list" = none
  z_min : mg "min" = none
  z_range : mg "range" = none
  z_str : mg "str" = none
  z_tuple : mg "tuple" = none
  d_WORDS : ∃ o, K.lookup (He.ga K "WORDS") = some o ∧ o.cls = .type "tuple" ∧ o.dict = none
local macro_rules | `(tactic| walk_at "k") => `(tactic| (try dsimp only [cx_K, cx_K2, cx_w]))
local macro_rules | `(tactic| walk_at "ne") => `(tactic| first | assumption | exact Ne.symm (by assumption) | exact ne_of_none (by assumption) (by assumption) | exact Ne.symm (ne_of_none (by assumption) (by assumption)) | exact ne_of (by assumption) (by assumption) (by intro z; cases z))
local macro_rules | `(tactic| walk_at "hp") => `(tactic| first | exact upd_same | assumption | exact SqL.of (by assumption) | exact SqT.of (by assumption) | exact SqL.of upd_same | exact SqT.of upd_same | (refine Eq.trans (upd_ne ?n) ?_ <;> first | (walk_at "hp"; done) | (walk_at "ne"; done)) | (refine SqL.of (Eq.trans (upd_ne ?n) ?_) <;> first | (walk_at "hp"; done) | (walk_at "ne"; done)))
local macro_rules | `(tactic| walk_at "ci") => `(tactic| first | exact .inl ⟨by decide, by decide⟩ | exact .inr ⟨by decide, by decide⟩ | exact .inl ⟨by omega, by omega⟩ | exact .inr ⟨by omega, by omega⟩ | (show (0 : Int) < _; omega) | (show (0 : Int) < _; decide) | (show (0 : Int) ≤ _; omega) | exact ⟨by omega, by omega⟩ | exact ⟨by omega, by omega, by omega⟩ | exact ⟨by decide, by decide, by decide⟩)
local macro_rules | `(tactic| walk_at "hq") => `(tactic| first | exact Is.sql (by assumption) | exact Is.sqt (by assumption) | exact sql_of (by assumption) | exact Is.sql (by walk_at "at") | exact Is.sqt (by walk_at "at"))
local macro_rules | `(tactic| walk_at "isi") => `(tactic| with_reducible (first | refine isi_int_int ?_ | refine isi_int_bool ?_ | refine isi_int_str ?_ | refine isi_int_list ?_ | refine isi_int_tuple ?_ | refine isi_int_dict ?_ | refine isi_int_bytes ?_ | refine isi_bool_int ?_ | refine isi_bool_bool ?_ | refine isi_bool_str ?_ | refine isi_bool_list ?_ | refine isi_bool_tuple ?_ | refine isi_bool_dict ?_ | refine isi_bool_bytes ?_ | refine isi_str_int ?_ | refine isi_str_bool ?_ | refine isi_str_str ?_ | refine isi_str_list ?_ | refine isi_str_tuple ?_ | refine isi_str_dict ?_ | refine isi_str_bytes ?_ | refine isi_NoneType_int ?_ | refine isi_NoneType_bool ?_ | refine isi_NoneType_str ?_ | refine isi_NoneType_list ?_ | refine isi_NoneType_tuple ?_ | refine isi_NoneType_dict ?_ | refine isi_NoneType_bytes ?_ | refine' isi_list_int (by assumption) ?_ | refine' isi_list_bool (by assumption) ?_ | refine' isi_list_str (by assumption) ?_ | refine' isi_list_list (by assumption) ?_ | refine' isi_list_tuple (by assumption) ?_ | refine' isi_list_dict (by assumption) ?_ | refine' isi_list_bytes (by assumption) ?_ | refine' isi_tuple_int (by assumption) ?_ | refine' isi_tuple_bool (by assumption) ?_ | refine' isi_tuple_str (by assumption) ?_ | refine' isi_tuple_list (by assumption) ?_ | refine' isi_tuple_tuple (by assumption) ?_ | refine' isi_tuple_dict (by assumption) ?_ | refine' isi_tuple_bytes (by assumption) ?_ | refine' isi_dict_int (by assumption) ?_ | refine' isi_dict_bool (by assumption) ?_ | refine' isi_dict_str (by assumption) ?_ | refine' isi_dict_list (by assumption) ?_ | refine' isi_dict_tuple (by assumption) ?_ | refine' isi_dict_dict (by assumption) ?_ | refine' isi_dict_bytes (by assumption) ?_))
local macro_rules | `(tactic| walk_at "rd1") => `(tactic| first | (with_reducible (first | refine rd_seq ?_ | refine rd_var rfl ?_ | refine rd_c ?_ | refine rd_op ?_ | refine rd_asg ?_ | refine rd_gName ?_ | refine rd_xor ?_ | refine rd_i0 ?_ | refine rd_if ?_ | refine rd_tTest ?_ | refine rd_tB ?_ | refine rd_tb ?_ | refine rd_ret ?_ | refine rd_retN ?_ | refine rd_nx ?_ | refine rd_drop ?_ | refine rd_eqi ?_ | refine rd_nei ?_ | refine rd_eq rfl ?_ | refine rd_ne rfl ?_ | refine rd_call ?_ | refine rd_cons ?_ | refine rd_nil ?_ | refine rd_cb ?_ | refine rd_un ?_ | refine rd_and ?_ | refine rd_or ?_ | refine rd_not ?_ | refine rd_andV ?_ | refine rd_orV ?_ | refine rd_notV ?_ | refine rd_gSub ?_ | refine rd_augS ?_ | refine rd_aug rfl ?_ | refine rd_ipI ?_ | refine rd_tup ?_ | refine rd_lst ?_ | refine rd_bm0 ?_ | refine rd_bm ?_ | refine rd_chain ?_ | refine rd_rev ?_ | refine rd_tru ?_ | refine rd_u ?_ | refine rd_rng3 ?_ | refine rd_for ?_ | refine rd_lc ?_ | refine rd_rng1 ?_ | refine rd_rng2 ?_ | refine rd_il ?_ | refine rd_it ?_ | refine rd_sl ?_ | refine rd_part ?_ | refine rd_pi ?_ | refine rd_pn ?_ | refine iteT ?_ | refine iteF ?_ | refine iteNT ?_ | refine iteNF ?_ | refine rd_int1 ?_ | refine rd_int1b ?_ | refine rd_isNn ?_ | refine rd_isNi ?_ | refine rd_isNb ?_ | refine rd_isNs ?_ | refine rd_isNr ?_ | refine rd_notNn ?_ | refine rd_notNi ?_ | refine rd_notNb ?_ | refine rd_notNs ?_ | refine rd_notNr ?_ | refine rd_fld ?_ | refine rd_sfld ?_ | refine rd_methW ?_ | refine rd_gcons ?_ | refine rd_gnil ?_ | refine rd_m1 ?_ | refine rd_sfaug ?_ | refine rd_callW ?_ | refine rd_raise ?_)) | ((with_reducible refine' rd_fldA ?h ?c ?n ?l ?_); (case h => walk_at "hp"); (case c => assumption); (case n => assumption); (case l => rfl)) | ((with_reducible refine' rd_setA ?h ?c ?n ?l ?_); (case h => walk_at "hp"); (case c => assumption); (case n => assumption); (case l => exact Nat.le_of_ble_eq_true rfl)) | ((with_reducible refine' rd_faugA ?h ?c ?n ?l ?_); (case h => walk_at "hp"); (case c => assumption); (case n => assumption); (case l => rfl)) | ((with_reducible refine' rd_setB ?h ?l ?_); (case h => walk_at "hp"); (case l => exact Nat.le_of_ble_eq_true rfl)) | ((with_reducible refine' rd_gtup ?h ?l ?_); (case h => walk_at "hp"); (case l => rfl)) | ((with_reducible refine rd_i ?c ?_); (case c => walk_at "ci")) | ((with_reducible refine' rd_ixL ?h ?a ?_); (case h => walk_at "hp"); (case a => rfl)) | ((with_reducible refine' rd_ixT0 ?h ?_); (case h => walk_at "hp")) | ((with_reducible refine' rd_ixT1 ?h ?_); (case h => walk_at "hp")) | ((with_reducible refine' rd_ixT2 ?h ?_); (case h => walk_at "hp")) | ((with_reducible refine' rd_ixT ?h ?a ?_); (case h => walk_at "hp"); (case a => rfl)) | ((with_reducible refine' rd_setL ?h ?a ?_); (case h => walk_at "hp"); (case a => rfl)) | ((with_reducible refine' rd_lenL ?h (fun _ => ?_)); (case h => walk_at "hp")) | ((with_reducible refine' rd_dlen ?h (fun _ => ?_)); (case h => assumption)) | ((with_reducible refine' rd_dlenT ?h (fun _ => ?_)); (case h => assumption)) | ((with_reducible refine rd_rng ?a ?b ?_); (case a => omega); (case b => omega)) | ((with_reducible refine' rd_itl ?h ?_); (case h => walk_at "hq")) | ((with_reducible refine' rd_itt ?h ?_); (case h => walk_at "hq")) | walk_at "isi")
local macro_rules | `(tactic| walk_at "rd") => `(tactic| repeat (walk_at "rd1"))
local macro_rules | `(tactic| walk_at "at") => `(tactic| with_reducible (first | assumption | exact StAt.als (by assumption) | exact Is.int _ | exact Is.non | exact Is.bl _ | exact Is.str _ | exact Al.nil | exact Ext.refl | (refine' at_is0 (by assumption) ?k; (case k => walk_at "at")) | (refine' at_is (by assumption) ?k; (case k => walk_at "at")) | (refine' at_is1 (by assumption) ?k; (case k => walk_at "at")) | (refine' at_st0 (by assumption) ?k; (case k => walk_at "at")) | (refine' at_stN (by assumption) ?k; (case k => walk_at "at")) | (refine' at_isN (by assumption) ?k; (case k => walk_at "at")) | (refine' at_al (by assumption) ?k; (case k => walk_at "at")) | (refine' at_alN ?k; (case k => walk_at "at")) | (refine' at_ext (by assumption) ?k; (case k => walk_at "at")) | (refine' at_ext0 (by assumption) ?k; (case k => walk_at "at")) | (refine' at_extN (by assumption) ?k; (case k => walk_at "at"))))
local macro_rules | `(tactic| walk_at "all") => `(tactic| with_reducible (first | exact IsAll.nil | (refine' IsAll.cons ?ha ?hb; (case ha => walk_at "at"); (case hb => walk_at "all"))))
/-! ### _law_next: some number below the limit, the state's list changes -/
def sp_next : Sp := fun vs H Q _ => ∃ (p l : Addr) (lim : Int), vs = [.ref p, .int lim] ∧ StAt H p l ∧ 0 < lim ∧ lim.natAbs < 2 ^ 200 ∧ ∀ (v : Nat) (H' : Hp), (v : Int) < lim → StAt H' p l → Ext [p] H H' → Q (.int v) H'
theorem ok_law_next {P : Program} {w : World} {K : PySem.W.Frag} {mg : Str → Option Value} {base : Heap} (T : Txt K mg) : Cal P w K mg base 1 "_law_next" sp_next [] := by
  refine T.f_law_next.cal sc_law_next bd_law_next (fun vs H Q E h => ?_) fun f cdv A outer s H vs Q E hr h => ?_
  · obtain ⟨p, l, lim, rfl, _⟩ := h; rfl
  obtain ⟨p, l, lim, rfl, ⟨⟨ns, i, m, s0, hp, hl, hi, hn, hm⟩, npl⟩, h0, h1, k⟩ := h
  have hlen : (ns.map V.int).length = ns.length := List.length_map _
  have kk : ∀ (v : Int) (H' : Hp), 0 ≤ v → v < lim → StAt H' p l → (∀ b, b ≠ p → H' b = H b) → Q (.int v) H' := fun v H' v0 v1 S f => by
    have e : ((v.toNat : Nat) : Int) = v := by omega
    have z := k v.toNat H' (by omega) S ⟨fun b o hb h => by rw [f b (by simpa using hb)]; exact h, fun b hb => by
      by_cases e : b = p
      · rw [e]; exact S.al
      · rw [f b e]; exact hb⟩
    rw [e] at z
    exact z
  refine ⟨_, (pss_join (ps_if (PW.pt (pw_and (pt_cmpR op_eq (pe_ix (ix_listK K) (pv 0) pe_int (fun _ _ => rfl)) pe_int (nomark _)) (pw_and1 (pt_cmpR op_lt (pe_ix (ix_listK K) (pv 0) pe_int (fun _ _ => rfl)) (pe_callB (call_lenK K) (by rfl) T.z_len (by decide +kernel) (pa_cons (pe_ix (ix_listK K) (pv 0) pe_int (fun _ _ => rfl)) pa_nil)) (nomark _))))) (pss_cons (ps_set (i := 2) sc_law_next.nd rfl (Or.inl rfl) (pe_ix (ix_listK K) (pe_ix (ix_listK K) (pv 0) pe_int (fun _ _ => rfl)) (pe_ix (ix_listK K) (pv 0) pe_int (fun _ _ => rfl)) (fun _ _ => rfl)))
      (pss_cons (ps_augS (pv 0) pe_int (get_listK K) pe_int ip_add set_list)
      (pss_one (ps_if (pt_cmpR op_ge (pv 2) (pe_op op_pow pe_int pe_int) (nomark _)) (pss_one (ps_asg (pv 2) (pg_sub (pv 0) pe_int set_list))) (pss_one (ps_asg (pe_op op_mod (pe_callTy call_int1q (by rfl) T.z_int (by decide +kernel) (pa_cons (pe_op op_add (pe_op op_add (pe_op op_mul (pe_ix (ix_listK K) (pv 0) pe_int (fun _ _ => rfl)) pe_int) (pe_op op_mod (pe_callTy call_int1q (by rfl) T.z_int (by decide +kernel) (pa_cons (pv 2) pa_nil)) pe_int)) pe_int) pa_nil)) pe_int) (pg_sub (pv 0) pe_int set_list))))))) pss_nil)
      (pss_cons (ps_if (pt_cmpR op_gt (pe_ix (ix_listK K) (pv 0) pe_int (fun _ _ => rfl)) pe_int (nomark _)) (pss_cons (ps_set (i := 3) sc_law_next.nd rfl (Or.inl rfl) (pe_op op_mod (pe_callTy call_int1q (by rfl) T.z_int (by decide +kernel) (pa_cons (pe_ix (ix_listK K) (pv 0) pe_int (fun _ _ => rfl)) pa_nil)) (pv 1)))
      (pss_cons (ps_asg (pe_op op_fdivW (pe_ix (ix_listK K) (pv 0) pe_int (fun _ _ => rfl)) (pv 1)) (pg_sub (pv 0) pe_int set_list))
      (pss_one (ps_ret (pv 3))))) pss_nil)
      (pss_cons (ps_asg (pe_op op_mod (pe_callTy call_int1q (by rfl) T.z_int (by decide +kernel) (pa_cons (pe_op op_add (pe_op op_mul (pe_ix (ix_listK K) (pv 0) pe_int (fun _ _ => rfl)) pe_int) pe_int) pa_nil)) pe_int) (pg_sub (pv 0) pe_int set_list))
      (pss_one (ps_ret (pe_op op_mod (pe_callTy call_int1q (by rfl) T.z_int (by decide +kernel) (pa_cons (pe_op op_fdiv (pe_ix (ix_listK K) (pv 0) pe_int (fun _ _ => rfl)) pe_int) pa_nil)) (pv 1))))))), ?_⟩
  walk_at "k"
  refine ⟨fun σ H1 => ∃ (c : Option V) (m s0 i : Int), σ = [some (.ref p), some (.int lim), c, none] ∧ H1 p = some (.lst [.ref l, .int i, .int m, .int s0]) ∧ H1 l = some (.lst (ns.map V.int)) ∧ 0 ≤ i ∧ i ≤ ns.length ∧ 0 ≤ m ∧ (∀ b, b ≠ p → H1 b = H b), ?_, ?_⟩
  · walk_at "rd"
    refine rd_ite (fun c => ?_) (fun c => ?_)
    · walk_at "rd"
      refine rd_ite (fun c2 => ?_) (fun c2 => ?_)
      · have c2' := of_decide_eq_true c2
        rw [hlen] at c2'
        obtain ⟨z, hz, _⟩ := atI_int (ns := ns) hi c2'
        walk_at "rd"
        refine rd_ixL (SqL.of hl) hz ?_
        walk_at "rd"
        refine rd_ite (fun c3 => ?_) (fun c3 => ?_)
        · have c3' := of_decide_eq_true c3
          walk_at "rd"
          refine ⟨_, z, s0, i + 1, rfl, upd_same, by rw [upd_ne npl.symm, upd_ne npl.symm]; exact hl, by omega, by omega, ?_, fun b hb => by rw [upd_ne hb, upd_ne hb]⟩
          exact Int.le_trans (by decide) c3'
        · walk_at "rd"
          exact ⟨_, m, _, i + 1, rfl, upd_same, by rw [upd_ne npl.symm, upd_ne npl.symm]; exact hl, by omega, by omega, hm, fun b hb => by rw [upd_ne hb, upd_ne hb]⟩
      · walk_at "rd"
        exact ⟨_, m, _, i, rfl, hp, hl, hi, hn, hm, fun b hb => rfl⟩
    · walk_at "rd"
      exact ⟨_, m, _, i, rfl, hp, hl, hi, hn, hm, fun b hb => rfl⟩
  · rintro σ H1 ⟨c, m, s0, i, rfl, hp, hl, hi, hn, hm, hf⟩
    walk_at "rd"
    refine rd_ite (fun c => ?_) (fun c => ?_)
    · walk_at "rd"
      refine rd_i (wide_div h0 h1 (by decide) (by decide)) ?_
      walk_at "rd"
      refine kk _ _ (Int.emod_nonneg _ (by omega)) (Int.emod_lt_of_pos _ h0) ⟨⟨ns, i, _, s0, upd_same, by rw [upd_ne npl.symm]; exact hl, hi, hn, Int.ediv_nonneg hm (by omega)⟩, npl⟩ fun b hb => by rw [upd_ne hb, hf b hb]
    · walk_at "rd"
      refine kk _ _ (Int.emod_nonneg _ (by omega)) (Int.emod_lt_of_pos _ h0) ⟨⟨ns, i, m, _, upd_same, by rw [upd_ne npl.symm]; exact hl, hi, hn, hm⟩, npl⟩ fun b hb => by rw [upd_ne hb, hf b hb]
theorem rd_next {p l : Addr} {lim : Int} {H : Hp} {Q : VK} {E : XK} (hS : StAt H p l) (h0 : 0 < lim) (h1 : lim.natAbs < 2 ^ 200) (k : ∀ (v : Nat) (H' : Hp), (v : Int) < lim → StAt H' p l → Ext [p] H H' → Q (.int v) H') :
    sp_next ([.ref p, .int lim] ++ []) H Q E := ⟨p, l, lim, rfl, hS, h0, h1, k⟩
theorem lim_small {x : Int} (h0 : 0 ≤ x) (h : x < 1000000000000000000) : x.natAbs < 2 ^ 200 := Nat.lt_of_lt_of_le (show x.natAbs < 2 ^ 60 by omega) (Nat.pow_le_pow_right (by decide) (by decide))
/-! ### _law_same: the same data are the same -/
def sp_same (n : Nat) : Sp := fun vs H Q _ => ∃ (M M' : List Addr) (x y : V) (d : PyData), vs = [x, y] ∧ Is M H x d ∧ Is M' H y d ∧ Sh n d ∧ Q (.bl true) H
theorem Sh.listI {n : Nat} {ds : List PyData} (h : Sh n (.list ds)) : ∃ m, n = m + 1 ∧ ∀ d ∈ ds, Sh m d := by
  obtain ⟨h1, h2⟩ := h
  simp only [PyData.canLay0] at h1
  simp only [PyData.depth] at h2
  refine ⟨n - 1, by omega, fun d hd => ⟨PyData.canLay0_of_mem ds d h1 hd, ?_⟩⟩
  have := PyData.depth_le_depthAll ds d hd
  omega
theorem Sh.tupleI {n : Nat} {ds : List PyData} (h : Sh n (.tuple ds)) : ∃ m, n = m + 1 ∧ ∀ d ∈ ds, Sh m d := by
  obtain ⟨h1, h2⟩ := h
  simp only [PyData.canLay0] at h1
  simp only [PyData.depth] at h2
  refine ⟨n - 1, by omega, fun d hd => ⟨PyData.canLay0_of_mem ds d h1 hd, ?_⟩⟩
  have := PyData.depth_le_depthAll ds d hd
  omega
theorem rd_ixS_L {K : PySem.W.Frag} {H : Hp} {Q : VK} {p : Addr} {i : Int} (h : rIxL K (.ref p) (.int i) H Q) : rIx K (.ref p) (.int i) H Q := .inl h
theorem rd_ixS_T {K : PySem.W.Frag} {H : Hp} {Q : VK} {p : Addr} {i : Int} (h : rIxT K (.ref p) (.int i) H Q) : rIx K (.ref p) (.int i) H Q := .inr (.inl h)
section
variable {P : Program} {w : World} {K : PySem.W.Frag} {mg : Str → Option Value} {base : Heap}
theorem ok_law_same_step (T : Txt K mg) (n : Nat) (ih : Cal P w K mg base n "_law_same" (fun vs H Q E => ∃ m, n = m + 1 ∧ sp_same m vs H Q E) []) : Cal P w K mg base (n + 1) "_law_same" (sp_same n) [] := by
  refine T.f_law_same.cal sc_law_same bd_law_same (fun vs H Q E h => ?_) fun f cdv A outer s H vs Q E hr h => ?_
  · obtain ⟨M, M', x, y, d, rfl, _⟩ := h; rfl
  obtain ⟨M, M', x, y, d, rfl, hx, hy, hd, k⟩ := h
  refine ⟨_, (pss_cons (ps_if (pt_cmpR op_isNq (pv 1) pe_non (nomark _)) (pss_one (ps_ret (pe_cmpR op_isNq (pv 0) pe_non (nomark _)))) pss_nil)
      (pss_cons (ps_if (pt_val (pe_callB (call_isK K) (by rfl) T.z_isinstance (by decide +kernel) (pa_cons (pv 1) (pa_cons (pe_bltn (v := .ty "bool") (by rfl) T.z_bool (by decide +kernel) rfl) pa_nil)))) (pss_one (ps_ret (pe_and (pe_callB (call_isK K) (by rfl) T.z_isinstance (by decide +kernel) (pa_cons (pv 0) (pa_cons (pe_bltn (v := .ty "bool") (by rfl) T.z_bool (by decide +kernel) rfl) pa_nil))) (pe_one (pe_cmpR op_eq (pv 0) (pv 1) (nomark _)))))) pss_nil)
      (pss_cons (ps_if (pt_val (pe_callB (call_isK K) (by rfl) T.z_isinstance (by decide +kernel) (pa_cons (pv 1) (pa_cons (pe_bltn (v := .ty "int") (by rfl) T.z_int (by decide +kernel) rfl) pa_nil)))) (pss_one (ps_ret (pe_and (pe_callB (call_isK K) (by rfl) T.z_isinstance (by decide +kernel) (pa_cons (pv 0) (pa_cons (pe_bltn (v := .ty "int") (by rfl) T.z_int (by decide +kernel) rfl) pa_nil))) (pe_and (pe_not (pe_callB (call_isK K) (by rfl) T.z_isinstance (by decide +kernel) (pa_cons (pv 0) (pa_cons (pe_bltn (v := .ty "bool") (by rfl) T.z_bool (by decide +kernel) rfl) pa_nil)))) (pe_one (pe_cmpR op_eq (pv 0) (pv 1) (nomark _))))))) pss_nil)
      (pss_cons (ps_if (pt_val (pe_callB (call_isK K) (by rfl) T.z_isinstance (by decide +kernel) (pa_cons (pv 1) (pa_cons (pe_bltn (v := .ty "str") (by rfl) T.z_str (by decide +kernel) rfl) pa_nil)))) (pss_one (ps_ret (pe_and (pe_callB (call_isK K) (by rfl) T.z_isinstance (by decide +kernel) (pa_cons (pv 0) (pa_cons (pe_bltn (v := .ty "str") (by rfl) T.z_str (by decide +kernel) rfl) pa_nil))) (pe_one (pe_cmpR op_eq (pv 0) (pv 1) (nomark _)))))) pss_nil)
      (pss_cons (ps_if (PW.pt (pw_and (pt_val (pe_callB (call_isK K) (by rfl) T.z_isinstance (by decide +kernel) (pa_cons (pv 1) (pa_cons (pe_bltn (v := .ty "tuple") (by rfl) T.z_tuple (by decide +kernel) rfl) pa_nil)))) (pw_and1 (pt_not (pt_val (pe_callB (call_isK K) (by rfl) T.z_isinstance (by decide +kernel) (pa_cons (pv 0) (pa_cons (pe_bltn (v := .ty "tuple") (by rfl) T.z_tuple (by decide +kernel) rfl) pa_nil)))))))) (pss_one (ps_ret pe_bl)) pss_nil)
      (pss_cons (ps_if (PW.pt (pw_and (pt_val (pe_callB (call_isK K) (by rfl) T.z_isinstance (by decide +kernel) (pa_cons (pv 1) (pa_cons (pe_bltn (v := .ty "list") (by rfl) T.z_list (by decide +kernel) rfl) pa_nil)))) (pw_and1 (pt_not (pt_val (pe_callB (call_isK K) (by rfl) T.z_isinstance (by decide +kernel) (pa_cons (pv 0) (pa_cons (pe_bltn (v := .ty "list") (by rfl) T.z_list (by decide +kernel) rfl) pa_nil)))))))) (pss_one (ps_ret pe_bl)) pss_nil)
      (pss_cons (ps_if (pt_cmpR op_ne (pe_callB (call_lenK K) (by rfl) T.z_len (by decide +kernel) (pa_cons (pv 0) pa_nil)) (pe_callB (call_lenK K) (by rfl) T.z_len (by decide +kernel) (pa_cons (pv 1) pa_nil)) (nomark _)) (pss_one (ps_ret pe_bl)) pss_nil)
      (pss_cons (ps_for PassesOwn.never rfl (pi_range1 rfl T.z_range (pa_cons (pe_callB (call_lenK K) (by rfl) T.z_len (by decide +kernel) (pa_cons (pv 1) pa_nil)) pa_nil)) (pg_name (i := 2) sc_law_same.nd rfl (Or.inl rfl))
      (pss_one (ps_if (pt_not (pt_val (pe_c (ih) hr (Nat.le_refl _) rfl (pa_cons (pe_ix (ix_seqK K) (pv 0) (pv 2) (fun _ _ => rfl)) (pa_cons (pe_ix (ix_seqK K) (pv 1) (pv 2) (fun _ _ => rfl)) pa_nil))))) (pss_one (ps_ret pe_bl)) pss_nil)))
      (pss_one (ps_ret pe_bl)))))))))), ?_⟩
  walk_at "k"
  cases d with
  | none =>
    cases hx; cases hy
    walk_at "rd"
    exact k
  | bool b =>
    cases hx; cases hy
    walk_at "rd"
    have e : decide (V.bl b = V.bl b) = true := decide_eq_true rfl
    rw [e]
    exact k
  | int i =>
    cases hx; cases hy
    walk_at "rd"
    have e : decide (i = i) = true := decide_eq_true rfl
    rw [e]
    exact k
  | str x =>
    cases hx; cases hy
    walk_at "rd"
    have e : decide (V.str x = V.str x) = true := decide_eq_true rfl
    rw [e]
    exact k
  | list ds =>
    obtain ⟨a, xs, rfl, _, ha, ra⟩ := hx.listV
    obtain ⟨b, ys, rfl, _, hb, rb⟩ := hy.listV
    obtain ⟨m, rfl, hm⟩ := hd.listI
    have hz := ra.length
    have hz2 := rb.length
    walk_at "rd"
    rw [hz, hz2]
    refine iteNS rfl ?_
    walk_at "rd"
    refine q_range (fun j σ H' => ∃ u : Option V, σ = [some (.ref a), some (.ref b), u] ∧ H' = H) ⟨none, rfl, rfl⟩ ?_ ?_
    · rintro j σ H' hj ⟨u, rfl, rfl⟩
      have hj' : j < ds.length := by omega
      obtain ⟨v1, g1, i1⟩ := ra.get (List.getElem?_eq_getElem hj')
      obtain ⟨v2, g2, i2⟩ := rb.get (List.getElem?_eq_getElem hj')
      walk_at "rd"
      refine rd_ixS_L (rd_ixL (SqL.of ha) (by rw [Int.zero_add]; exact atI_nat g1) ?_)
      walk_at "rd"
      refine rd_ixS_L (rd_ixL (SqL.of hb) (by rw [Int.zero_add]; exact atI_nat g2) ?_)
      walk_at "rd"
      refine ⟨m, rfl, M, M', v1, v2, ds[j], rfl, i1, i2, hm _ (List.getElem_mem hj'), ?_⟩
      walk_at "rd"
      exact ⟨_, rfl, rfl⟩
    · rintro σ H' ⟨u, rfl, rfl⟩
      walk_at "rd"
      exact k
  | tuple ds =>
    obtain ⟨a, xs, rfl, _, ha, ra⟩ := hx.tupleV
    obtain ⟨b, ys, rfl, _, hb, rb⟩ := hy.tupleV
    obtain ⟨m, rfl, hm⟩ := hd.tupleI
    have hz := ra.length
    have hz2 := rb.length
    walk_at "rd"
    refine iteNS rfl ?_
    walk_at "rd"
    refine q_range (fun j σ H' => ∃ u : Option V, σ = [some (.ref a), some (.ref b), u] ∧ H' = H) ⟨none, rfl, rfl⟩ ?_ ?_
    · rintro j σ H' hj ⟨u, rfl, rfl⟩
      have hj' : j < ds.length := by omega
      obtain ⟨v1, g1, i1⟩ := ra.get (List.getElem?_eq_getElem hj')
      obtain ⟨v2, g2, i2⟩ := rb.get (List.getElem?_eq_getElem hj')
      walk_at "rd"
      refine rd_ixS_T (rd_ixT (SqT.of ha) (by rw [Int.zero_add]; exact atI_nat g1) ?_)
      walk_at "rd"
      refine rd_ixS_T (rd_ixT (SqT.of hb) (by rw [Int.zero_add]; exact atI_nat g2) ?_)
      walk_at "rd"
      refine ⟨m, rfl, M, M', v1, v2, ds[j], rfl, i1, i2, hm _ (List.getElem_mem hj'), ?_⟩
      walk_at "rd"
      exact ⟨_, rfl, rfl⟩
    · rintro σ H' ⟨u, rfl, rfl⟩
      walk_at "rd"
      exact k
  | dict kvs => cases hx
theorem ok_law_same (T : Txt K mg) : ∀ n : Nat, Cal P w K mg base (n + 1) "_law_same" (sp_same n) []
  | 0 => ok_law_same_step T 0 (by
      obtain ⟨f, fd, F, hm⟩ := T.f_law_same.ex
      exact ⟨f, fd, _, _, ⟨fun vs H Q E ⟨m, e, _⟩ => by omega, fun A outer s H args us vs Q E _ _ _ _ ⟨m, e, _⟩ => by omega⟩, hm, F.kp, F.bindsN bd_law_same, .nil⟩)
  | n + 1 => ok_law_same_step T (n + 1) (by
      obtain ⟨f, fd, ps, ds, F, hm, kp, b, d⟩ := (ok_law_same T n).ex
      exact ⟨f, fd, ps, ds, F.imp fun vs H Q E ⟨m, e, h⟩ => by
        have : n = m := by omega
        rw [this]
        exact h, hm, kp, b, d⟩)
end
theorem rd_same {M M' : List Addr} {H : Hp} {Q : VK} {E : XK} {x y : V} {n : Nat} {d : PyData} (hx : Is M H x d) (hy : Is M' H y d) (hd : Sh n d) (q : Q (.bl true) H) : sp_same n ([x, y] ++ []) H Q E := ⟨M, M', x, y, d, rfl, hx, hy, hd, q⟩
/-! ### values: numbers and texts -/
abbrev Vl := Sum Int Str
def vv : Vl → V
  | .inl i => .int i
  | .inr x => .str x
def vd : Vl → PyData
  | .inl i => .int i
  | .inr x => .str x
/-- a text of at most n signs -/
def SOk (n : Nat) (x : Str) : Prop := x.length ≤ n ∧ ∀ c ∈ x.cps.toList, c < 1114112
theorem SOk.mono {n m : Nat} {x : Str} (h : SOk n x) (k : n ≤ m) : SOk m x := ⟨Nat.le_trans h.1 k, h.2⟩
theorem SOk.ok {n : Nat} {x : Str} (h : SOk n x) : PyData.strOk x = true := by
  unfold PyData.strOk
  rw [← Array.all_toList]
  exact List.all_eq_true.mpr fun c hc => decide_eq_true (h.2 c hc)
theorem app_cps (x y : Str) : (x ++ y).cps.toList = x.cps.toList ++ y.cps.toList := by
  show (x.cps ++ y.cps).toList = _
  simp
theorem SOk.app {n m : Nat} {x y : Str} (h : SOk n x) (k : SOk m y) : SOk (n + m) (x ++ y) := by
  refine ⟨?_, fun c hc => ?_⟩
  · rw [strLen_append]
    have := h.1
    have := k.1
    omega
  · rw [app_cps, List.mem_append] at hc
    rcases hc with hc | hc
    · exact h.2 c hc
    · exact k.2 c hc
theorem SOk.one {c : Nat} (h : c < 1114112) : SOk 1 ⟨#[c]⟩ := ⟨Nat.le_refl _, fun d hd => by
  have e : d = c := by simpa using hd
  rw [e]; exact h⟩
theorem SOk.cut {n : Nat} {x : Str} (h : SOk n x) (lo hi : Option Int) : SOk n (cutS x lo hi) := ⟨Nat.le_trans (cutS_length x lo hi) h.1, fun c hc => by
  have e : (cutS x lo hi).cps.toList = (x.cps.toList.drop (HT.sIx x.length 0 lo)).take (HT.sIx x.length x.length hi - HT.sIx x.length 0 lo) := rfl
  rw [e] at hc
  exact h.2 c (List.mem_of_mem_drop (List.mem_of_mem_take hc))⟩
theorem glued_cps : ∀ l : List Str, (Txt.join ⟨#[]⟩ l).cps.toList = (l.map fun x => x.cps.toList).flatten
  | [] => by
    show (Builtin.Str.glued ⟨#[]⟩ []).cps.toList = _
    rw [StrLaws.glued_eq_join]; rfl
  | [x] => by
    show (Builtin.Str.glued ⟨#[]⟩ [x]).cps.toList = _
    rw [StrLaws.glued_eq_join]
    show x.cps.toList = _
    simp
  | x :: y :: r => by
    have ih := glued_cps (y :: r)
    have e1 : Txt.join ⟨#[]⟩ (x :: y :: r) = Str.join ⟨#[]⟩ (x :: y :: r) := StrLaws.glued_eq_join _ _
    have e2 : Txt.join ⟨#[]⟩ (y :: r) = Str.join ⟨#[]⟩ (y :: r) := StrLaws.glued_eq_join _ _
    rw [e1, show Str.join ⟨#[]⟩ (x :: y :: r) = x ++ (⟨#[]⟩ : Str) ++ Str.join ⟨#[]⟩ (y :: r) from rfl, ← e2, app_cps, app_cps, ih]
    simp
theorem glued_ones (cs : List Nat) : (Txt.join ⟨#[]⟩ (cs.map fun c => (⟨#[c]⟩ : Str))).cps.toList = cs := by
  rw [glued_cps, List.map_map]
  induction cs with
  | nil => rfl
  | cons c cs ih => rw [List.map_cons, List.flatten_cons, ih]; rfl
theorem SOk.join {cs : List Nat} (h : ∀ c ∈ cs, c < 1114112) : SOk cs.length (Txt.join ⟨#[]⟩ (cs.map fun c => (⟨#[c]⟩ : Str))) := by
  refine ⟨?_, fun c hc => ?_⟩
  · show (Txt.join ⟨#[]⟩ (cs.map fun c => (⟨#[c]⟩ : Str))).cps.size ≤ _
    rw [← Array.length_toList, glued_ones]
    exact Nat.le_refl _
  · rw [glued_ones] at hc
    exact h c hc
def Sm (n : Nat) : Vl → Prop
  | .inl _ => True
  | .inr x => SOk n x
theorem Sm.mono {n m : Nat} {v : Vl} (h : Sm n v) (k : n ≤ m) : Sm m v := by
  cases v with
  | inl i => trivial
  | inr x => exact SOk.mono h k
theorem sh_vd {n m : Nat} {v : Vl} (h : Sm n v) : Sh m (vd v) := by
  cases v with
  | inl i => exact .int i
  | inr x => exact .str (SOk.ok h)
theorem is_vd {M : List Addr} {H : Hp} (v : Vl) : Is M H (vv v) (vd v) := by
  cases v with
  | inl i => exact .int i
  | inr x => exact .str x
theorem Is.vdI {M : List Addr} {H : Hp} {x : V} {v : Vl} (h : Is M H x (vd v)) : x = vv v := by
  cases v with
  | inl i => cases h; rfl
  | inr x => cases h; rfl
theorem IsAll.vdI {M : List Addr} {H : Hp} : ∀ {xs : List V} {vs : List Vl}, IsAll M H xs (vs.map vd) → xs = vs.map vv
  | _, [], h => by cases h; rfl
  | _, v :: vs, h => by
    cases h with
    | cons h r => rw [h.vdI, IsAll.vdI r]; rfl
theorem all_vd {M : List Addr} {H : Hp} : ∀ vs : List Vl, IsAll M H (vs.map vv) (vs.map vd)
  | [] => .nil
  | v :: vs => .cons (is_vd v) (all_vd vs)
/-! ### their order -/
def ci (i j : Int) : Ordering := if i < j then .lt else if j < i then .gt else .eq
def cs (x y : Str) : Ordering := if x.cps.toList < y.cps.toList then .lt else if y.cps.toList < x.cps.toList then .gt else .eq
def cv : Vl → Vl → Ordering
  | .inl i, .inl j => ci i j
  | .inl _, .inr _ => .lt
  | .inr _, .inl _ => .gt
  | .inr x, .inr y => cs x y
def cl : List Vl → List Vl → Ordering
  | [], [] => .eq
  | [], _ :: _ => .lt
  | _ :: _, [] => .gt
  | x :: xs, y :: ys => match cv x y with
    | .eq => cl xs ys
    | .lt => .lt
    | .gt => .gt
def oi : Ordering → Int
  | .lt => -1
  | .eq => 0
  | .gt => 1
theorem str_ext {x y : Str} (h : x.cps.toList = y.cps.toList) : x = y := by
  obtain ⟨⟨a⟩⟩ := x
  obtain ⟨⟨b⟩⟩ := y
  have e : a = b := h
  rw [e]
theorem ci_cm (i j : Int) : Cm (.int i) (.int j) (ci i j) := by
  unfold ci
  by_cases h : i < j
  · rw [if_pos h]; exact .ilt h
  · rw [if_neg h]
    by_cases k : j < i
    · rw [if_pos k]; exact .igt k
    · rw [if_neg k]
      have e : i = j := by omega
      subst e
      exact .ieq
theorem cs_cm (x y : Str) : Cm (.str x) (.str y) (cs x y) := by
  unfold cs
  by_cases h : x.cps.toList < y.cps.toList
  · rw [if_pos h]; exact .slt h
  · rw [if_neg h]
    by_cases k : y.cps.toList < x.cps.toList
    · rw [if_pos k]; exact .sgt k
    · rw [if_neg k]
      have e : x = y := str_ext (List.le_antisymm (List.not_lt.mp k) (List.not_lt.mp h))
      subst e
      exact .seq
def tg : Vl → PyData
  | .inl i => .tuple [.int 0, .int i]
  | .inr x => .tuple [.int 1, .str x]
theorem CmL.two {d e d' e' : PyData} {o : Ordering} (h : Cm d e .eq) (k : Cm d' e' o) : CmL [d, d'] [e, e'] o := by
  cases o with
  | eq => exact .same h (.same k .nn)
  | lt => exact .same h (.diff k (by simp))
  | gt => exact .same h (.diff k (by simp))
theorem tg_cm (x y : Vl) : Cm (tg x) (tg y) (cv x y) := by
  cases x with
  | inl i => cases y with
    | inl j => exact .tup (.two .ieq (ci_cm i j))
    | inr y => exact .tup (.diff (.ilt (by decide)) (fun z => nomatch z))
  | inr x => cases y with
    | inl j => exact .tup (.diff (.igt (by decide)) (fun z => nomatch z))
    | inr y => exact .tup (.two .ieq (cs_cm x y))
theorem CmL.cl {f : Vl → PyData} (hf : ∀ x y, Cm (f x) (f y) (cv x y)) : ∀ xs ys : List Vl, CmL (xs.map f) (ys.map f) (Z.cl xs ys)
  | [], [] => .nn
  | [], _ :: _ => .nc
  | _ :: _, [] => .cn
  | x :: xs, y :: ys => by
    have h := hf x y
    unfold Z.cl
    rw [List.map_cons, List.map_cons]
    cases e : cv x y with
    | eq => rw [e] at h; exact .same h (CmL.cl hf xs ys)
    | lt => rw [e] at h; exact .diff h (by simp)
    | gt => rw [e] at h; exact .diff h (by simp)
theorem row_cm (xs ys : List Vl) : Cm (.tuple (xs.map tg)) (.tuple (ys.map tg)) (cl xs ys) := .tup (CmL.cl tg_cm xs ys)
theorem sh_tg {n m : Nat} {v : Vl} (h : Sm n v) : Sh (m + 1) (tg v) := by
  cases v with
  | inl i =>
    exact Sh.tuple fun d hd => by
      simp only [List.mem_cons, List.not_mem_nil, or_false] at hd
      rcases hd with rfl | rfl
      · exact .int _
      · exact .int _
  | inr x =>
    exact Sh.tuple fun d hd => by
      simp only [List.mem_cons, List.not_mem_nil, or_false] at hd
      rcases hd with rfl | rfl
      · exact .int _
      · exact .str (SOk.ok h)
theorem sh_row {n m : Nat} {vs : List Vl} (h : ∀ v ∈ vs, Sm n v) : Sh (m + 1) (.tuple (vs.map vd)) := Sh.tuple fun d hd => by
  obtain ⟨v, hv, rfl⟩ := List.mem_map.mp hd
  exact sh_vd (h v hv)
theorem sh_rowT {n m : Nat} {vs : List Vl} (h : ∀ v ∈ vs, Sm n v) : Sh (m + 2) (.tuple (vs.map tg)) := Sh.tuple fun d hd => by
  obtain ⟨v, hv, rfl⟩ := List.mem_map.mp hd
  exact sh_tg (h v hv)
/-- the turn that tells them apart -/
theorem cl_eq {xs ys : List Vl} {k : Nat} {x y : Vl} (hx : xs[k]? = some x) (hy : ys[k]? = some y) (h : cv x y = .eq) : cl (xs.drop k) (ys.drop k) = cl (xs.drop (k + 1)) (ys.drop (k + 1)) := by
  obtain ⟨h1, e1⟩ := List.getElem?_eq_some_iff.mp hx
  obtain ⟨h2, e2⟩ := List.getElem?_eq_some_iff.mp hy
  rw [List.drop_eq_getElem_cons h1, List.drop_eq_getElem_cons h2, e1, e2, cl, h]
theorem cl_ne {xs ys : List Vl} {k : Nat} {x y : Vl} (hx : xs[k]? = some x) (hy : ys[k]? = some y) (h : cv x y ≠ .eq) : cl (xs.drop k) (ys.drop k) = cv x y := by
  obtain ⟨h1, e1⟩ := List.getElem?_eq_some_iff.mp hx
  obtain ⟨h2, e2⟩ := List.getElem?_eq_some_iff.mp hy
  rw [List.drop_eq_getElem_cons h1, List.drop_eq_getElem_cons h2, e1, e2, cl]
  cases e : cv x y with
  | eq => exact absurd e h
  | lt => rfl
  | gt => rfl
theorem cl_end {xs ys : List Vl} {k : Nat} (hk : k = min xs.length ys.length) : oi (cl (xs.drop k) (ys.drop k)) = (if xs.length > ys.length then 1 else 0) - (if xs.length < ys.length then 1 else 0) := by
  by_cases h1 : xs.length > ys.length
  · have e1 : k = ys.length := by omega
    rw [e1, List.drop_length, List.drop_eq_getElem_cons h1, if_pos h1, if_neg (by omega)]
    rfl
  · by_cases h2 : xs.length < ys.length
    · have e1 : k = xs.length := by omega
      rw [e1, List.drop_length, List.drop_eq_getElem_cons h2, if_neg h1, if_pos h2]
      rfl
    · have e1 : k = xs.length := by omega
      have e2 : k = ys.length := by omega
      rw [if_neg h1, if_neg h2]
      conv => lhs; rw [e1]
      rw [List.drop_length, ← e1, e2, List.drop_length]
      rfl
theorem cv_swap (x y : Vl) : (cv y x == .lt) = (cv x y == .gt) := by
  have a : ∀ i j : Int, (ci j i == .lt) = (ci i j == .gt) := fun i j => by
    unfold ci
    by_cases h : i < j
    · rw [if_neg (by omega), if_pos h, if_pos h]; rfl
    · by_cases k : j < i
      · rw [if_pos k, if_neg h, if_pos k]; rfl
      · rw [if_neg k, if_neg h, if_neg h, if_neg k]; rfl
  have b : ∀ x y : Str, (cs y x == .lt) = (cs x y == .gt) := fun x y => by
    unfold cs
    by_cases h : x.cps.toList < y.cps.toList
    · rw [if_neg (lt_not h), if_pos h, if_pos h]; rfl
    · by_cases k : y.cps.toList < x.cps.toList
      · rw [if_pos k, if_neg h, if_pos k]; rfl
      · rw [if_neg k, if_neg h, if_neg h, if_neg k]; rfl
  cases x with
  | inl i => cases y with
    | inl j => exact a i j
    | inr y => rfl
  | inr x => cases y with
    | inl j => rfl
    | inr y => exact b x y
/-! ### the program's own -/
/-- keys of items -/
structure Ky where
  sort : Nat
  name : Str
  row : List Vl
def Ky.d (k : Ky) : PyData := .tuple [.int (k.sort : Int), .str k.name, .tuple (k.row.map vd)]
def Ky.o (k : Ky) : PyData := .tuple [.int (k.sort : Int), .str k.name, .tuple (k.row.map tg)]
def sp_vk : Sp := fun vs H Q _ => ∃ (M : List Addr) (v : Vl), vs = [vv v] ∧ Al M H ∧ ∀ p H', Ext [] H H' → Is M H' (.ref p) (tg v) → Q (.ref p) H'
def sp_rk : Sp := fun vs H Q _ => ∃ (M : List Addr) (a : Addr) (rs : List Vl), vs = [.ref a] ∧ Al M H ∧ Is M H (.ref a) (.tuple (rs.map vd)) ∧ rs.length ≤ 100000 ∧ ∀ p H', Ext [] H H' → Is M H' (.ref p) (.tuple (rs.map tg)) → Q (.ref p) H'
def sp_sr : Sp := fun vs H Q _ => ∃ (M : List Addr) (n : Nat) (a b : Addr) (xs ys : List Vl), vs = [.ref a, .ref b] ∧ Al M H ∧ Is M H (.ref a) (.tuple (xs.map vd)) ∧ Is M H (.ref b) (.tuple (ys.map vd)) ∧ xs.length ≤ 100000 ∧ ys.length ≤ 100000 ∧ (∀ v ∈ xs, Sm n v) ∧ (∀ v ∈ ys, Sm n v) ∧ ∀ H', Ext [] H H' → Q (.bl (cl xs ys == .eq)) H'
def sp_ko : Sp := fun vs H Q _ => ∃ (M : List Addr) (a : Addr) (k : Ky), vs = [.ref a] ∧ Al M H ∧ Is M H (.ref a) k.d ∧ k.row.length ≤ 100000 ∧ ∀ p H', Ext [] H H' → Is M H' (.ref p) k.o → Q (.ref p) H'
section
variable {P : Program} {w : World} {K : PySem.W.Frag} {mg : Str → Option Value} {base : Heap}
theorem ok_value_key (T : Txt K mg) : Cal P w K mg base 1 "value_key" sp_vk [] := by
  refine T.f_value_key.cal sc_value_key bd_value_key (fun vs H Q E h => ?_) fun f cdv A outer s H vs Q E hr h => ?_
  · obtain ⟨M, v, rfl, _⟩ := h; rfl
  obtain ⟨M, v, rfl, s0, q⟩ := h
  refine ⟨_, (pss_cons (ps_if (pt_val (pe_callB (call_isK K) (by rfl) T.z_isinstance (by decide +kernel) (pa_cons (pv 0) (pa_cons (pe_bltn (v := .ty "str") (by rfl) T.z_str (by decide +kernel) rfl) pa_nil)))) (pss_one (ps_ret (pe_tup (pa_cons pe_int (pa_cons (pv 0) pa_nil))))) pss_nil)
      (pss_one (ps_ret (pe_tup (pa_cons pe_int (pa_cons (pv 0) pa_nil)))))), ?_⟩
  walk_at "k"
  cases v with
  | inl i =>
    unfold vv
    walk_at "rd"
    refine rd_newT (M := M) s0 (by walk_at "all") (by simp) fun p H' hp e _ i => ?_
    exact q p H' e i
  | inr x =>
    unfold vv
    walk_at "rd"
    refine rd_newT (M := M) s0 (by walk_at "all") (by simp) fun p H' hp e _ i => ?_
    exact q p H' e i
theorem ok_row_key (T : Txt K mg) : Cal P w K mg base 2 "row_key" sp_rk [] := by
  refine T.f_row_key.cal sc_row_key bd_row_key (fun vs H Q E h => ?_) fun f cdv A outer s H vs Q E hr h => ?_
  · obtain ⟨M, a, rs, rfl, _⟩ := h; rfl
  obtain ⟨M, a, rs, rfl, s0, i0, hn, q⟩ := h
  refine ⟨_, (pss_one (ps_ret (pe_callTy (call_tupK K) (by rfl) T.z_tuple (by decide +kernel) (pa_cons (pe_lc (own := [("value", 1)]) (g := gName 1) (tt := tYes) rfl sc_row_key.nd (pi_tupK K (pv 0)) (blkOk_by (own := [("value", 1)]) (N := nm_row_key) (sc := defScope s_row_key) (by decide +kernel)) (fun _ _ _ _ _ => (pg_name (i := 1) sc_row_key.nd rfl (Or.inl rfl))) (fun _ _ _ _ _ => pts_nil) (fun _ _ _ _ _ => (pe_c (ok_value_key T) hr (by decide) rfl (pa_cons (pv 1) pa_nil)))) pa_nil)))), ?_⟩
  walk_at "k"
  walk_at "rd"
  intro D hD
  refine q_lcTM (M := M) tg s0 hD i0 hn (fun _ => rfl) (fun x y H' hy sD e ix R k => ?_) fun H' e i => ?_
  · cases ix.vdI
    walk_at "rd"
    exact ⟨_, y, rfl, sD, fun p H'' e' i' => k _ _ e' i'⟩
  · refine rd_dtuple (by walk_at "at") i fun p H'' hp e2 i2 => ?_
    exact q p H'' (e.trans e2) i2
theorem ok_same_row (T : Txt K mg) : Cal P w K mg base 3 "same_row" sp_sr [] := by
  refine T.f_same_row.cal sc_same_row bd_same_row (fun vs H Q E h => ?_) fun f cdv A outer s H vs Q E hr h => ?_
  · obtain ⟨M, n, a, b, xs, ys, rfl, _⟩ := h; rfl
  obtain ⟨M, n, a, b, xs, ys, rfl, s0, i1, i2, h1, h2, m1, m2, q⟩ := h
  refine ⟨_, (pss_one (ps_ret (pe_cmpR (op_eqDK K hr.units) (pe_c (ok_row_key T) hr (by decide) rfl (pa_cons (pv 0) pa_nil)) (pe_c (ok_row_key T) hr (by decide) rfl (pa_cons (pv 1) pa_nil)) (nomark _)))), ?_⟩
  walk_at "k"
  walk_at "rd"
  refine ⟨M, a, xs, rfl, s0, i1, h1, fun p H1 e1 j1 => ?_⟩
  walk_at "rd"
  refine ⟨M, b, ys, rfl, by walk_at "at", by walk_at "at", h2, fun p2 H2 e2 j2 => ?_⟩
  walk_at "rd"
  refine rd_eqC (n := 2) (m := 2) (at_is0 e2 j1) j2 (row_cm xs ys) (sh_rowT m1) (sh_rowT m2) ?_
  exact q _ (e1.trans e2)
theorem ok_key_order (T : Txt K mg) : Cal P w K mg base 3 "key_order" sp_ko [] := by
  refine T.f_key_order.cal sc_key_order bd_key_order (fun vs H Q E h => ?_) fun f cdv A outer s H vs Q E hr h => ?_
  · obtain ⟨M, a, k, rfl, _⟩ := h; rfl
  obtain ⟨M, a, k, rfl, s0, i0, hn, q⟩ := h
  refine ⟨_, (pss_cons (ps_asg (pv 0) (pg_tupK K rfl (pgs_cons (pg_name (i := 1) sc_key_order.nd rfl (Or.inl rfl)) (pgs_cons (pg_name (i := 2) sc_key_order.nd rfl (Or.inl rfl)) (pgs_cons (pg_name (i := 3) sc_key_order.nd rfl (Or.inl rfl)) pgs_nil)))))
      (pss_one (ps_ret (pe_tup (pa_cons (pv 1) (pa_cons (pv 2) (pa_cons (pe_c (ok_row_key T) hr (by decide) rfl (pa_cons (pv 3) pa_nil)) pa_nil))))))), ?_⟩
  walk_at "k"
  obtain ⟨xs, na, ha, ra⟩ := i0.tuple
  cases ra with
  | cons r1 ra =>
  cases ra with
  | cons r2 ra =>
  cases ra with
  | cons r3 ra =>
  cases ra
  cases r1
  cases r2
  obtain ⟨pr, ys, rfl, _⟩ := r3.tupleV
  walk_at "rd"
  refine ⟨M, pr, k.row, rfl, s0, r3, hn, fun p H1 e1 j1 => ?_⟩
  walk_at "rd"
  refine rd_newT (M := M) (by walk_at "at") (by walk_at "all") (by simp) fun p2 H2 hp2 e2 _ j2 => ?_
  exact q p2 H2 (e1.trans e2) j2
def WD : List Str := ["relation", "fact", "rule", "denial"]
/-- what the key of an item is -/
def itk (kd nm : Str) (ds : List PyData) : PyData := if kd = "fact" then .tuple [.int 1, .str nm, ds.headD .none] else .tuple [.int (WD.idxOf kd : Nat), .str nm, .tuple []]
def sp_itk : Sp := fun vs H Q _ => ∃ (M : List Addr) (a : Addr) (kd nm : Str) (ds : List PyData), vs = [.ref a] ∧ Al M H ∧ kd ∈ WD ∧ Is M H (.ref a) (.tuple (.str kd :: .str nm :: ds)) ∧ (kd = "fact" → ds ≠ []) ∧ ∀ p H', Ext [] H H' → Is M H' (.ref p) (itk kd nm ds) → Q (.ref p) H'
theorem WD_nth {kd : Str} (h : kd ∈ WD) : WD[WD.idxOf kd]? = some kd ∧ ∀ m, m < WD.idxOf kd → WD[m]? ≠ some kd := by
  simp only [WD, List.mem_cons, List.not_mem_nil, or_false] at h
  rcases h with rfl | rfl | rfl | rfl <;> decide
theorem ok_key_of (T : Txt K mg) : Cal P w K mg base 1 "key_of" sp_itk [] := by
  refine T.f_key_of.cal sc_key_of bd_key_of (fun vs H Q E h => ?_) fun f cdv A outer s H vs Q E hr h => ?_
  · obtain ⟨M, a, kd, nm, ds, rfl, _⟩ := h; rfl
  obtain ⟨M, a, kd, nm, ds, rfl, s0, hk, i0, hf, q⟩ := h
  refine ⟨_, (pss_cons (ps_set (i := 1) sc_key_of.nd rfl (Or.inl rfl) (pe_bm PySem.F.plainAttrs_tuple PySem.F.slot_tuple_index PySem.F.type_tuple_index mt_tup_index (pe_gc (v := .ref (He.ga K "WORDS")) (by rfl) ⟨_, T.t_WORDS.1, rfl⟩) (pa_cons (pe_ix (ix_tupK K) (pv 0) pe_int (fun _ _ => rfl)) pa_nil)))
      (pss_cons (ps_if (pt_cmpR op_eq (pe_ix (ix_tupK K) (pv 0) pe_int (fun _ _ => rfl)) pe_str (nomark _)) (pss_one (ps_ret (pe_tup (pa_cons (pv 1) (pa_cons (pe_ix (ix_tupK K) (pv 0) pe_int (fun _ _ => rfl)) (pa_cons (pe_ix (ix_tupK K) (pv 0) pe_int (fun _ _ => rfl)) pa_nil)))))) pss_nil)
      (pss_one (ps_ret (pe_tup (pa_cons (pv 1) (pa_cons (pe_ix (ix_tupK K) (pv 0) pe_int (fun _ _ => rfl)) (pa_cons (pe_tup pa_nil) pa_nil)))))))), ?_⟩
  walk_at "k"
  obtain ⟨h1, h2⟩ := WD_nth hk
  obtain ⟨xs, na, ha, ra⟩ := i0.tuple
  cases ra with
  | cons r1 ra =>
  cases ra with
  | @cons v2 rest _ _ r2 ra =>
  cases r1
  cases r2
  walk_at "rd"
  refine ⟨.inr (.inl ⟨rfl, T.d_WORDS⟩), ?_⟩
  walk_at "rd"
  refine ⟨_, WD, kd, _, rfl, rfl, T.t_WORDS.2 _, h1, h2, ?_⟩
  walk_at "rd"
  refine rd_ite (fun c => ?_) (fun c => ?_)
  · have e : kd = "fact" := V.str.inj (of_decide_eq_true c)
    have hne := hf e
    cases ra with
    | nil => exact absurd rfl hne
    | @cons v3 rest d3 ds3 r3 ra =>
      subst e
      have e : itk "fact" nm (d3 :: ds3) = .tuple [.int 1, .str nm, d3] := if_pos rfl
      rw [e] at q
      walk_at "rd"
      refine rd_newT (M := M) s0 (by walk_at "all") (by simp) fun p H' hp e _ i => ?_
      exact q p H' e i
  · have e : kd ≠ "fact" := fun z => of_decide_eq_false c (congrArg V.str z)
    have e2 : itk kd nm ds = .tuple [.int (WD.idxOf kd : Nat), .str nm, .tuple []] := if_neg e
    rw [e2] at q
    walk_at "rd"
    refine rd_newT (M := M) s0 (by walk_at "all") (by simp) fun p H1 hp e1 _ i1 => ?_
    walk_at "rd"
    refine rd_newT (M := M) (by walk_at "at") (by walk_at "all") (by simp) fun p2 H2 hp2 e2 _ i2 => ?_
    exact q p2 H2 (e1.trans e2) i2
/-! ### the law's orders -/
def sp_before : Sp := fun vs H Q _ => ∃ x y : Vl, vs = [vv x, vv y] ∧ Q (.bl (cv x y == .lt)) H
def sp_order : Sp := fun vs H Q _ => ∃ (M : List Addr) (a b : Addr) (xs ys : List Vl), vs = [.ref a, .ref b] ∧ Is M H (.ref a) (.tuple (xs.map vd)) ∧ Is M H (.ref b) (.tuple (ys.map vd)) ∧ xs.length ≤ 100000 ∧ ys.length ≤ 100000 ∧ Q (.int (oi (cl xs ys))) H
theorem ci_lt (i j : Int) : decide (i < j) = (ci i j == .lt) := by
  unfold ci
  by_cases h : i < j
  · rw [if_pos h, decide_eq_true h]; rfl
  · rw [if_neg h, decide_eq_false h]
    by_cases k : j < i
    · rw [if_pos k]; rfl
    · rw [if_neg k]; rfl
theorem cs_lt (x y : Str) : decide (x.cps.toList < y.cps.toList) = (cs x y == .lt) := by
  unfold cs
  by_cases h : x.cps.toList < y.cps.toList
  · rw [if_pos h, decide_eq_true h]; rfl
  · rw [if_neg h, decide_eq_false h]
    by_cases k : y.cps.toList < x.cps.toList
    · rw [if_pos k]; rfl
    · rw [if_neg k]; rfl
theorem ok_law_before (T : Txt K mg) : Cal P w K mg base 1 "_law_before" sp_before [] := by
  refine T.f_law_before.cal sc_law_before bd_law_before (fun vs H Q E h => ?_) fun f cdv A outer s H vs Q E hr h => ?_
  · obtain ⟨x, y, rfl, _⟩ := h; rfl
  obtain ⟨x, y, rfl, q⟩ := h
  refine ⟨_, (pss_cons (ps_if (pt_cmpR op_ne (pe_callB (call_isK K) (by rfl) T.z_isinstance (by decide +kernel) (pa_cons (pv 0) (pa_cons (pe_bltn (v := .ty "str") (by rfl) T.z_str (by decide +kernel) rfl) pa_nil))) (pe_callB (call_isK K) (by rfl) T.z_isinstance (by decide +kernel) (pa_cons (pv 1) (pa_cons (pe_bltn (v := .ty "str") (by rfl) T.z_str (by decide +kernel) rfl) pa_nil))) (nomark _)) (pss_one (ps_ret (pe_callB (call_isK K) (by rfl) T.z_isinstance (by decide +kernel) (pa_cons (pv 1) (pa_cons (pe_bltn (v := .ty "str") (by rfl) T.z_str (by decide +kernel) rfl) pa_nil))))) pss_nil)
      (pss_one (ps_ret (pe_cmpR op_ltV (pv 0) (pv 1) (nomark _))))), ?_⟩
  walk_at "k"
  cases x with
  | inl i => cases y with
    | inl j =>
      unfold vv
      walk_at "rd"
      refine iteNS rfl ?_
      walk_at "rd"
      refine .inl ⟨i, j, rfl, rfl, ?_⟩
      rw [ci_lt]
      exact q
    | inr y =>
      unfold vv
      walk_at "rd"
      refine iteNS' (by simp) ?_
      walk_at "rd"
      exact q
  | inr x => cases y with
    | inl j =>
      unfold vv
      walk_at "rd"
      refine iteNS' (by simp) ?_
      walk_at "rd"
      exact q
    | inr y =>
      unfold vv
      walk_at "rd"
      refine iteNS rfl ?_
      walk_at "rd"
      refine .inr ⟨x, y, rfl, rfl, ?_⟩
      rw [cs_lt]
      exact q
theorem ok_law_order (T : Txt K mg) : Cal P w K mg base 2 "_law_order" sp_order [] := by
  refine T.f_law_order.cal sc_law_order bd_law_order (fun vs H Q E h => ?_) fun f cdv A outer s H vs Q E hr h => ?_
  · obtain ⟨M, a, b, xs, ys, rfl, _⟩ := h; rfl
  obtain ⟨M, a, b, xs, ys, rfl, i1, i2, h1, h2, q⟩ := h
  refine ⟨_, (pss_cons (ps_for PassesOwn.never rfl (pi_range1 rfl T.z_range (pa_cons (pe_callB (call_min2q rfl) (by rfl) T.z_min (by decide +kernel) (pa_cons (pe_callB (call_lenK K) (by rfl) T.z_len (by decide +kernel) (pa_cons (pv 0) pa_nil)) (pa_cons (pe_callB (call_lenK K) (by rfl) T.z_len (by decide +kernel) (pa_cons (pv 1) pa_nil)) pa_nil))) pa_nil)) (pg_name (i := 2) sc_law_order.nd rfl (Or.inl rfl))
      (pss_cons (ps_if (pt_val (pe_c (ok_law_before T) hr (by decide) rfl (pa_cons (pe_ix (ix_tupK K) (pv 0) (pv 2) (fun _ _ => rfl)) (pa_cons (pe_ix (ix_tupK K) (pv 1) (pv 2) (fun _ _ => rfl)) pa_nil)))) (pss_one (ps_ret (pe_un un_neg pe_int))) pss_nil)
      (pss_one (ps_if (pt_val (pe_c (ok_law_before T) hr (by decide) rfl (pa_cons (pe_ix (ix_tupK K) (pv 1) (pv 2) (fun _ _ => rfl)) (pa_cons (pe_ix (ix_tupK K) (pv 0) (pv 2) (fun _ _ => rfl)) pa_nil)))) (pss_one (ps_ret pe_int)) pss_nil))))
      (pss_one (ps_ret (pe_op op_sub (pe_callTy call_int1q (by rfl) T.z_int (by decide +kernel) (pa_cons (pe_cmpR op_gt (pe_callB (call_lenK K) (by rfl) T.z_len (by decide +kernel) (pa_cons (pv 0) pa_nil)) (pe_callB (call_lenK K) (by rfl) T.z_len (by decide +kernel) (pa_cons (pv 1) pa_nil)) (nomark _)) pa_nil)) (pe_callTy call_int1q (by rfl) T.z_int (by decide +kernel) (pa_cons (pe_cmpR op_lt (pe_callB (call_lenK K) (by rfl) T.z_len (by decide +kernel) (pa_cons (pv 0) pa_nil)) (pe_callB (call_lenK K) (by rfl) T.z_len (by decide +kernel) (pa_cons (pv 1) pa_nil)) (nomark _)) pa_nil)))))), ?_⟩
  walk_at "k"
  obtain ⟨us, _, ha, ra⟩ := i1.tuple
  obtain ⟨vs, _, hb, rb⟩ := i2.tuple
  cases ra.vdI
  cases rb.vdI
  walk_at "rd"
  have em : (if ((ys.map vd).length : Int) < ((xs.map vd).length : Int) then ((ys.map vd).length : Int) else ((xs.map vd).length : Int)) = ((min xs.length ys.length : Nat) : Int) := by
    rw [List.length_map, List.length_map]
    split <;> omega
  refine ⟨_, _, rfl, ?_⟩
  rw [em]
  walk_at "rd"
  rw [Int.toNat_natCast]
  refine q_range (fun i σ H' => ∃ u : Option V, σ = [some (.ref a), some (.ref b), u] ∧ H' = H ∧ cl (xs.drop i) (ys.drop i) = cl xs ys) ⟨none, rfl, rfl, rfl⟩ ?_ ?_
  · rintro i σ H' hi ⟨u, rfl, rfl, ec⟩
    have hx : i < xs.length := by omega
    have hy : i < ys.length := by omega
    have gx := List.getElem?_eq_getElem hx
    have gy := List.getElem?_eq_getElem hy
    have rx : ∀ {Q : VK}, Q (vv xs[i]) H' → rIxT K (.ref a) (.int (0 + (i : Int))) H' Q := fun q => rd_ixT (SqT.of ha) (by rw [Int.zero_add]; exact atI_nat (by rw [List.getElem?_map, gx]; rfl)) q
    have ry : ∀ {Q : VK}, Q (vv ys[i]) H' → rIxT K (.ref b) (.int (0 + (i : Int))) H' Q := fun q => rd_ixT (SqT.of hb) (by rw [Int.zero_add]; exact atI_nat (by rw [List.getElem?_map, gy]; rfl)) q
    walk_at "rd"
    refine rx ?_
    walk_at "rd"
    refine ry ?_
    walk_at "rd"
    refine ⟨xs[i], ys[i], rfl, ?_⟩
    cases e : cv xs[i] ys[i] with
    | lt =>
      rw [cl_ne gx gy (by rw [e]; exact fun z => nomatch z), e] at ec
      rw [← ec] at q
      walk_at "rd"
      refine iteB rfl ?_
      walk_at "rd"
      exact q
    | gt =>
      rw [cl_ne gx gy (by rw [e]; exact fun z => nomatch z), e] at ec
      rw [← ec] at q
      walk_at "rd"
      refine iteBn rfl ?_
      walk_at "rd"
      refine ry ?_
      walk_at "rd"
      refine rx ?_
      walk_at "rd"
      refine ⟨ys[i], xs[i], rfl, ?_⟩
      rw [cv_swap, e]
      walk_at "rd"
      refine iteB rfl ?_
      walk_at "rd"
      exact q
    | eq =>
      rw [cl_eq gx gy e] at ec
      walk_at "rd"
      refine iteBn rfl ?_
      walk_at "rd"
      refine ry ?_
      walk_at "rd"
      refine rx ?_
      walk_at "rd"
      refine ⟨ys[i], xs[i], rfl, ?_⟩
      rw [cv_swap, e]
      walk_at "rd"
      refine iteBn rfl ?_
      walk_at "rd"
      exact ⟨_, rfl, rfl, ec⟩
  · rintro σ H' ⟨u, rfl, rfl, ec⟩
    walk_at "rd"
    have e := cl_end (xs := xs) (ys := ys) (k := min xs.length ys.length) rfl
    rw [ec] at e
    rw [e] at q
    simp only [List.length_map]
    have e1 : (if decide ((ys.length : Int) < (xs.length : Int)) = true then (1 : Int) else 0) = if xs.length > ys.length then 1 else 0 := by
      by_cases h : ys.length < xs.length
      · rw [if_pos h, decide_eq_true (by omega)]; rfl
      · rw [if_neg h, decide_eq_false (by omega)]; rfl
    have e2 : (if decide ((xs.length : Int) < (ys.length : Int)) = true then (1 : Int) else 0) = if xs.length < ys.length then 1 else 0 := by
      by_cases h : xs.length < ys.length
      · rw [if_pos h, decide_eq_true (by omega)]; rfl
      · rw [if_neg h, decide_eq_false (by omega)]; rfl
    rw [e1, e2]
    exact q
def sp_agrees : Sp := fun vs H Q _ => ∃ (M M' : List Addr) (n : Nat) (a b : Addr) (ds es : List PyData) (o : Ordering), vs = [.ref a, .ref b, .int (oi o)] ∧ Is M H (.ref a) (.tuple ds) ∧ Is M' H (.ref b) (.tuple es) ∧ Cm (.tuple ds) (.tuple es) o ∧ Sh n (.tuple ds) ∧ Sh n (.tuple es) ∧ n ≤ 64 ∧ ∀ H', Ext [] H H' → Q (.bl true) H'
theorem ok_law_agrees (T : Txt K mg) : Cal P w K mg base 1 "_law_agrees" sp_agrees [] := by
  refine T.f_law_agrees.cal sc_law_agrees bd_law_agrees (fun vs H Q E h => ?_) fun f cdv A outer s H vs Q E hr h => ?_
  · obtain ⟨M, M', n, a, b, ds, es, o, rfl, _⟩ := h; rfl
  obtain ⟨M, M', n, a, b, ds, es, o, rfl, i1, i2, c, s1, s2, hn, q⟩ := h
  refine ⟨_, (pss_cons (ps_if (PW.pt (pw_or (pt_not (pt_val (pe_callB (call_isK K) (by rfl) T.z_isinstance (by decide +kernel) (pa_cons (pv 0) (pa_cons (pe_bltn (v := .ty "tuple") (by rfl) T.z_tuple (by decide +kernel) rfl) pa_nil))))) (pw_or1 (pt_not (pt_val (pe_callB (call_isK K) (by rfl) T.z_isinstance (by decide +kernel) (pa_cons (pv 1) (pa_cons (pe_bltn (v := .ty "tuple") (by rfl) T.z_tuple (by decide +kernel) rfl) pa_nil)))))))) (pss_one (ps_ret pe_bl)) pss_nil)
      (pss_one (ps_ret (pe_cmpR (op_eqDK K hr.units) (pe_lst (pa_cons (pe_cmpR (op_ltC (u70 hr) K) (pv 0) (pv 1) (nomark _)) (pa_cons (pe_cmpR (op_eqDK K hr.units) (pv 0) (pv 1) (nomark _)) (pa_cons (pe_cmpR (op_gtC (u70 hr) K) (pv 0) (pv 1) (nomark _)) pa_nil)))) (pe_lst (pa_cons (pe_cmpR op_lt (pv 2) pe_int (nomark _)) (pa_cons (pe_cmpR op_eq (pv 2) pe_int (nomark _)) (pa_cons (pe_cmpR op_gt (pv 2) pe_int (nomark _)) pa_nil)))) (nomark _))))), ?_⟩
  walk_at "k"
  obtain ⟨us, _, ha, ra⟩ := i1.tuple
  obtain ⟨vs, _, hb, rb⟩ := i2.tuple
  walk_at "rd"
  refine rd_ltC i1 i2 c s1 s2 ?_ hn hn
  walk_at "rd"
  refine rd_eqC i1 i2 c s1 s2 ?_ hn hn
  walk_at "rd"
  refine rd_gtC i1 i2 c s1 s2 ?_ hn hn
  walk_at "rd"
  refine rd_newL (M := []) .nil (by walk_at "all") (by simp) fun p H1 hp e1 _ j1 => ?_
  walk_at "rd"
  have e0 : decide (oi o < 0) = (o == .lt) ∧ decide (oi o = 0) = (o == .eq) ∧ decide (0 < oi o) = (o == .gt) := by cases o <;> decide
  rw [e0.1, e0.2.1, e0.2.2]
  refine rd_newL (M := []) .nil (by walk_at "all") (by simp) fun p2 H2 hp2 e2 _ j2 => ?_
  have sh : Sh 1 (.list [.bool (o == .lt), .bool (o == .eq), .bool (o == .gt)]) := Sh.list fun d hd => by
    simp only [List.mem_cons, List.not_mem_nil, or_false] at hd
    rcases hd with rfl | rfl | rfl <;> exact .bl _
  refine rd_eqD (at_is0 e2 j1) j2 sh.ok sh.ok ?_
  rw [sh.refl]
  exact q _ (e1.trans e2)
theorem idx_fact {kd : Str} (h : kd ∈ WD) : ((WD.idxOf kd : Nat) : Int) = 1 ↔ kd = "fact" := by
  simp only [WD, List.mem_cons, List.not_mem_nil, or_false] at h
  rcases h with rfl | rfl | rfl | rfl <;> decide
theorem rd_windex {K : PySem.W.Frag} {H : Hp} {Q : VK} {p : Addr} {kd : Str} (h : H p = some (.lst [.str "relation", .str "fact", .str "rule", .str "denial"])) (hk : kd ∈ WD) (q : Q (.int (WD.idxOf kd : Nat)) H) : rIndex K (.ref p) [.str kd] H Q := by
  have hk2 := hk
  simp only [WD, List.mem_cons, List.not_mem_nil, or_false] at hk2
  refine ⟨p, _, .str kd, WD.idxOf kd, .str kd, rfl, rfl, SqL.of h, rfl, rfl, ?_, ?_, fun m z' hm hz => ?_, q⟩
  · rcases hk2 with rfl | rfl | rfl | rfl <;> rfl
  · rcases hk2 with rfl | rfl | rfl | rfl <;> rfl
  · rcases hk2 with rfl | rfl | rfl | rfl
    · exact absurd hm (by show ¬ m < 0; omega)
    · have e : m = 0 := by have : m < 1 := hm; omega
      subst e
      cases hz
      decide
    · have e : m = 0 ∨ m = 1 := by have : m < 2 := hm; omega
      rcases e with rfl | rfl <;> (cases hz; decide)
    · have e : m = 0 ∨ m = 1 ∨ m = 2 := by have : m < 3 := hm; omega
      rcases e with rfl | rfl | rfl <;> (cases hz; decide)
theorem ok_law_key (T : Txt K mg) : Cal P w K mg base 1 "_law_key" sp_itk [] := by
  refine T.f_law_key.cal sc_law_key bd_law_key (fun vs H Q E h => ?_) fun f cdv A outer s H vs Q E hr h => ?_
  · obtain ⟨M, a, kd, nm, ds, rfl, _⟩ := h; rfl
  obtain ⟨M, a, kd, nm, ds, rfl, s0, hk, i0, hf, q⟩ := h
  refine ⟨_, (pss_cons (ps_set (i := 1) sc_law_key.nd rfl (Or.inl rfl) (pe_bm PySem.F.plainAttrs_list PySem.F.slot_list_index PySem.F.type_list_index mt_index (pe_lst (pa_cons pe_str (pa_cons pe_str (pa_cons pe_str (pa_cons pe_str pa_nil))))) (pa_cons (pe_ix (ix_tupK K) (pv 0) pe_int (fun _ _ => rfl)) pa_nil)))
      (pss_cons (ps_if (pt_cmpR op_eq (pv 1) pe_int (nomark _)) (pss_one (ps_ret (pe_tup (pa_cons pe_int (pa_cons (pe_ix (ix_tupK K) (pv 0) pe_int (fun _ _ => rfl)) (pa_cons (pe_ix (ix_tupK K) (pv 0) pe_int (fun _ _ => rfl)) pa_nil)))))) pss_nil)
      (pss_one (ps_ret (pe_tup (pa_cons (pv 1) (pa_cons (pe_ix (ix_tupK K) (pv 0) pe_int (fun _ _ => rfl)) (pa_cons (pe_tup pa_nil) pa_nil)))))))), ?_⟩
  walk_at "k"
  obtain ⟨xs, na, ha, ra⟩ := i0.tuple
  cases ra with
  | cons r1 ra =>
  cases ra with
  | @cons v2 rest _ _ r2 ra =>
  cases r1
  cases r2
  walk_at "rd"
  refine rd_newL (M := M) s0 (by walk_at "all") (by simp) fun p H0 hp e0 h0 i0 => ?_
  refine ⟨.inl ⟨rfl, _, SqL.of h0⟩, ?_⟩
  have ha0 := e0.keep _ _ (by simp) ha
  walk_at "rd"
  refine rd_windex h0 hk ?_
  walk_at "rd"
  refine rd_ite (fun c => ?_) (fun c => ?_)
  · have e : kd = "fact" := (idx_fact hk).mp (of_decide_eq_true c)
    have hne := hf e
    cases ra with
    | nil => exact absurd rfl hne
    | @cons v3 rest d3 ds3 r3 ra =>
      subst e
      have e : itk "fact" nm (d3 :: ds3) = .tuple [.int 1, .str nm, d3] := if_pos rfl
      rw [e] at q
      walk_at "rd"
      refine rd_newT (M := M) (by walk_at "at") (by walk_at "all") (by simp) fun p H' hp e _ i => ?_
      exact q p H' (e0.trans e) i
  · have e : kd ≠ "fact" := fun z => of_decide_eq_false c ((idx_fact hk).mpr z)
    have e2 : itk kd nm ds = .tuple [.int (WD.idxOf kd : Nat), .str nm, .tuple []] := if_neg e
    rw [e2] at q
    walk_at "rd"
    refine rd_newT (M := M) (by walk_at "at") (by walk_at "all") (by simp) fun p H1 hp e1 _ i1 => ?_
    walk_at "rd"
    refine rd_newT (M := M) (by walk_at "at") (by walk_at "all") (by simp) fun p2 H2 hp2 e2 _ i2 => ?_
    exact q p2 H2 (e0.trans (e1.trans e2)) i2
/-! keys in their order -/
def cp (k l : Ky) : Ordering := match ci k.sort l.sort with
  | .eq => cs k.name l.name
  | .lt => .lt
  | .gt => .gt
def ck (k l : Ky) : Ordering := match cp k l with
  | .eq => cl k.row l.row
  | .lt => .lt
  | .gt => .gt
def Ky.p (k : Ky) : PyData := .tuple [.int (k.sort : Int), .str k.name]
theorem cp_cm (k l : Ky) : Cm k.p l.p (cp k l) := by
  have h1 := ci_cm k.sort l.sort
  have h2 := cs_cm k.name l.name
  refine .tup ?_
  unfold cp
  cases e : ci k.sort l.sort with
  | eq => rw [e] at h1; exact .two h1 h2
  | lt => rw [e] at h1; exact .diff h1 (fun z => nomatch z)
  | gt => rw [e] at h1; exact .diff h1 (fun z => nomatch z)
theorem ck_cm (k l : Ky) : Cm k.o l.o (ck k l) := by
  have h1 := ci_cm k.sort l.sort
  have h2 := cs_cm k.name l.name
  have h3 := row_cm k.row l.row
  refine .tup ?_
  unfold ck cp
  cases e : ci k.sort l.sort with
  | lt => rw [e] at h1; exact .diff h1 (fun z => nomatch z)
  | gt => rw [e] at h1; exact .diff h1 (fun z => nomatch z)
  | eq =>
    rw [e] at h1
    refine .same h1 ?_
    cases e2 : cs k.name l.name with
    | lt => rw [e2] at h2; exact .diff h2 (fun z => nomatch z)
    | gt => rw [e2] at h2; exact .diff h2 (fun z => nomatch z)
    | eq =>
      rw [e2] at h2
      refine .same h2 ?_
      show CmL _ _ (cl k.row l.row)
      cases e3 : cl k.row l.row with
      | lt => rw [e3] at h3; exact .diff h3 (fun z => nomatch z)
      | gt => rw [e3] at h3; exact .diff h3 (fun z => nomatch z)
      | eq => rw [e3] at h3; exact .same h3 .nn
/-- of bounded texts -/
def Ky.Sm (k : Ky) : Prop := SOk 1000 k.name ∧ (∀ v ∈ k.row, Z.Sm 1000 v) ∧ k.row.length ≤ 1000
theorem sh_kp {k : Ky} (h : k.Sm) : Sh 1 k.p := Sh.tuple fun d hd => by
  simp only [List.mem_cons, List.not_mem_nil, or_false] at hd
  rcases hd with rfl | rfl
  · exact .int _
  · exact .str h.1.ok
theorem sh_kd {k : Ky} (h : k.Sm) : Sh 2 k.d := Sh.tuple fun d hd => by
  simp only [List.mem_cons, List.not_mem_nil, or_false] at hd
  rcases hd with rfl | rfl | rfl
  · exact .int _
  · exact .str h.1.ok
  · exact sh_row h.2.1
theorem sh_ko {k : Ky} (h : k.Sm) : Sh 3 k.o := Sh.tuple fun d hd => by
  simp only [List.mem_cons, List.not_mem_nil, or_false] at hd
  rcases hd with rfl | rfl | rfl
  · exact .int _
  · exact .str h.1.ok
  · exact sh_rowT h.2.1
def sp_kor : Sp := fun vs H Q _ => ∃ (M : List Addr) (a b : Addr) (k l : Ky), vs = [.ref a, .ref b] ∧ Al M H ∧ Is M H (.ref a) k.d ∧ Is M H (.ref b) l.d ∧ k.Sm ∧ l.Sm ∧ ∀ H', Ext [] H H' → Q (.int (oi (ck k l))) H'
theorem rd_ix2D {M : List Addr} {H : Hp} {Q : VK} {a : Addr} {d0 d1 d2 : PyData} (i : Is M H (.ref a) (.tuple [d0, d1, d2])) (q : ∀ v, Is M H v d2 → Q v H) : rIxT K (.ref a) (.int 2) H Q := rd_dixT i (j := 2) rfl rfl q
theorem ok_law_key_order (T : Txt K mg) : Cal P w K mg base 3 "_law_key_order" sp_kor [] := by
  refine T.f_law_key_order.cal sc_law_key_order bd_law_key_order (fun vs H Q E h => ?_) fun f cdv A outer s H vs Q E hr h => ?_
  · obtain ⟨M, a, b, k, l, rfl, _⟩ := h; rfl
  obtain ⟨M, a, b, k, l, rfl, s0, i1, i2, hk, hl, q⟩ := h
  refine ⟨_, (pss_cons (ps_if (pt_cmpR (op_neDK K hr.units) (pe_slice (sl_tupK K) (pv 0) po_none (po_some pe_int)) (pe_slice (sl_tupK K) (pv 1) po_none (po_some pe_int)) (nomark _)) (pss_one (ps_ret (pe_op op_sub pe_int (pe_op op_mul pe_int (pe_callTy call_int1q (by rfl) T.z_int (by decide +kernel) (pa_cons (pe_cmpR (op_ltC (u70 hr) K) (pe_slice (sl_tupK K) (pv 0) po_none (po_some pe_int)) (pe_slice (sl_tupK K) (pv 1) po_none (po_some pe_int)) (nomark _)) pa_nil)))))) pss_nil)
      (pss_one (ps_ret (pe_c (ok_law_order T) hr (by decide) rfl (pa_cons (pe_ix (ix_tupK K) (pv 0) pe_int (fun _ _ => rfl)) (pa_cons (pe_ix (ix_tupK K) (pv 1) pe_int (fun _ _ => rfl)) pa_nil)))))), ?_⟩
  walk_at "k"
  walk_at "rd"
  refine rd_tcut0 s0 i1 (h := 2) rfl (by show 2 < 3; decide) fun p1 H1 hp1 e1 j1 => ?_
  walk_at "rd"
  refine rd_tcut0 (M := M) (by walk_at "at") (at_is0 e1 i2) (h := 2) rfl (by show 2 < 3; decide) fun p2 H2 hp2 e2 j2 => ?_
  walk_at "rd"
  have c := cp_cm k l
  refine rd_neD (at_is0 e2 j1) j2 (sh_kp hk).ok (sh_kp hl).ok ?_
  have ev : PyData.eqv k.p l.p = (cp k l == .eq) := c.eqv
  show ∃ z, V.bl (!PyData.eqv k.p l.p) = .bl z ∧ _
  rw [ev]
  walk_at "rd"
  cases eo : cp k l with
  | eq =>
    refine iteBn rfl ?_
    have eck : ck k l = cl k.row l.row := by unfold ck; rw [eo]
    rw [eck] at q
    walk_at "rd"
    have ja : Is M H2 (.ref a) k.d := by walk_at "at"
    refine rd_ix2D ja fun v3 j3 => ?_
    obtain ⟨q1, ys1, rfl, _⟩ := j3.tupleV
    walk_at "rd"
    have jb : Is M H2 (.ref b) l.d := by walk_at "at"
    refine rd_ix2D jb fun v4 j4 => ?_
    obtain ⟨q2, ys2, rfl, _⟩ := j4.tupleV
    walk_at "rd"
    refine ⟨M, q1, q2, k.row, l.row, rfl, j3, j4, Nat.le_trans hk.2.2 (by decide), Nat.le_trans hl.2.2 (by decide), ?_⟩
    exact q _ (e1.trans e2)
  | lt =>
    refine iteB rfl ?_
    have eck : ck k l = .lt := by unfold ck; rw [eo]
    rw [eck] at q
    walk_at "rd"
    have ja : Is M H2 (.ref a) k.d := by walk_at "at"
    refine rd_tcut0 (M := M) (by walk_at "at") ja (h := 2) rfl (by show 2 < 3; decide) fun p3 H3 hp3 e3 j3 => ?_
    walk_at "rd"
    have jb : Is M H3 (.ref b) l.d := by walk_at "at"
    refine rd_tcut0 (M := M) (by walk_at "at") jb (h := 2) rfl (by show 2 < 3; decide) fun p4 H4 hp4 e4 j4 => ?_
    walk_at "rd"
    refine rd_ltC (at_is0 e4 j3) j4 c (sh_kp hk) (sh_kp hl) ?_
    rw [eo]
    walk_at "rd"
    exact q _ (e1.trans (e2.trans (e3.trans e4)))
  | gt =>
    refine iteB rfl ?_
    have eck : ck k l = .gt := by unfold ck; rw [eo]
    rw [eck] at q
    walk_at "rd"
    have ja : Is M H2 (.ref a) k.d := by walk_at "at"
    refine rd_tcut0 (M := M) (by walk_at "at") ja (h := 2) rfl (by show 2 < 3; decide) fun p3 H3 hp3 e3 j3 => ?_
    walk_at "rd"
    have jb : Is M H3 (.ref b) l.d := by walk_at "at"
    refine rd_tcut0 (M := M) (by walk_at "at") jb (h := 2) rfl (by show 2 < 3; decide) fun p4 H4 hp4 e4 j4 => ?_
    walk_at "rd"
    refine rd_ltC (at_is0 e4 j3) j4 c (sh_kp hk) (sh_kp hl) ?_
    rw [eo]
    walk_at "rd"
    exact q _ (e1.trans (e2.trans (e3.trans e4)))
end
/-! ### what is drawn -/
theorem keepP {H H' : Hp} {p q : Addr} {o : HO} (e : Ext [p] H H') (hq : q ≠ p) (h : H q = some o) : H' q = some o := e.keep q o (by simpa using hq) h
def ALP : Str := " !\"#$&'()*+,-./0123456789:;<=>?@ABCDEFGHIJKLMNOPQRSTUVWXYZ[\\]^_`abcdefghijklmnopqrstuvwxyz{|}~"
theorem alp_len : ALP.length = 94 := by decide +kernel
theorem alp_cps : ∀ c ∈ ALP.cps.toList, c < 1114112 := by decide +kernel
theorem alp_get {j : Nat} (h : j < 94) : ∃ c, ALP.cps.toList[j]? = some c ∧ c < 1114112 := by
  have hl : j < ALP.cps.toList.length := by
    have e : ALP.cps.toList.length = 94 := by rw [Array.length_toList]; exact alp_len
    omega
  exact ⟨_, List.getElem?_eq_getElem hl, alp_cps _ (List.getElem_mem hl)⟩
def sp_alp : Sp := fun vs H Q _ => vs = [] ∧ Q (.str ALP) H
def sp_val : Sp := fun vs H Q _ => ∃ p l : Addr, vs = [.ref p] ∧ StAt H p l ∧ ∀ (x : Vl) H', Sm 40 x → StAt H' p l → Ext [p] H H' → Q (vv x) H'
def sp_drow : Sp := fun vs H Q _ => ∃ (M : List Addr) (p l : Addr) (n : Nat), vs = [.ref p, .int n] ∧ n ≤ 100 ∧ StAt H p l ∧ Al M H ∧ p ∈ M ∧ ∀ (r : Addr) (xs : List Vl) H', xs.length = n → (∀ x ∈ xs, Sm 40 x) → StAt H' p l → Ext [p] H H' → Is M H' (.ref r) (.tuple (xs.map vd)) → Q (.ref r) H'
def sp_name : Sp := fun vs H Q _ => ∃ p l : Addr, vs = [.ref p] ∧ StAt H p l ∧ ∀ (x : Str) H', SOk 40 x → StAt H' p l → Ext [p] H H' → Q (.str x) H'
/-- some tuple -/
def sp_any : Sp := fun vs H Q _ => ∃ (M : List Addr) (p l : Addr), vs = [.ref p] ∧ StAt H p l ∧ Al M H ∧ p ∈ M ∧ ∀ (r : Addr) (d : PyData) H', StAt H' p l → Ext [p] H H' → Is M H' (.ref r) d → Q (.ref r) H'
theorem inM {M : List Addr} {p : Addr} (h : p ∈ M) : ∀ b ∈ [p], b ∈ M := fun b hb => by rw [List.mem_singleton.mp hb]; exact h
section
variable {P : Program} {w : World} {K : PySem.W.Frag} {mg : Str → Option Value} {base : Heap}
theorem ok_law_characters (T : Txt K mg) : Cal P w K mg base 1 "_law_characters" sp_alp [] := by
  refine T.f_law_characters.cal sc_law_characters bd_law_characters (fun vs H Q E h => ?_) fun f cdv A outer s H vs Q E hr h => ?_
  · obtain ⟨rfl, _⟩ := h; rfl
  obtain ⟨rfl, q⟩ := h
  refine ⟨_, (pss_one (ps_ret pe_str)), ?_⟩
  walk_at "k"
  walk_at "rd"
  exact q
theorem ok_law_value (T : Txt K mg) : Cal P w K mg base 2 "_law_value" sp_val [] := by
  refine T.f_law_value.cal sc_law_value bd_law_value (fun vs H Q E h => ?_) fun f cdv A outer s H vs Q E hr h => ?_
  · obtain ⟨p, l, rfl, _⟩ := h; rfl
  obtain ⟨p, l, rfl, hs, q⟩ := h
  refine ⟨_, (pss_cons (ps_set (i := 1) sc_law_value.nd rfl (Or.inl rfl) (pe_c (ok_law_next T) hr (by decide) rfl (pa_cons (pv 0) (pa_cons pe_int pa_nil))))
      (pss_cons (ps_if (pt_cmpR op_lt (pv 1) pe_int (nomark _)) (pss_one (ps_ret (pe_ix (ix_listK K) (pe_lst (pa_cons pe_int (pa_cons pe_int (pa_cons pe_int (pa_cons (pe_un un_neg pe_int) pa_nil))))) (pv 1) (fun _ _ => rfl)))) pss_nil)
      (pss_cons (ps_if (pt_cmpR op_eq (pv 1) pe_int (nomark _)) (pss_one (ps_ret (pe_op op_mul (pe_op op_sub pe_int (pe_op op_mul pe_int (pe_c (ok_law_next T) hr (by decide) rfl (pa_cons (pv 0) (pa_cons pe_int pa_nil))))) (pe_op op_sub (pe_op op_sub (pe_op op_pow pe_int pe_int) pe_int) (pe_c (ok_law_next T) hr (by decide) rfl (pa_cons (pv 0) (pa_cons pe_int pa_nil))))))) pss_nil)
      (pss_cons (ps_if (pt_cmpR op_eq (pv 1) pe_int (nomark _)) (pss_one (ps_ret (pe_op op_mul (pe_op op_sub pe_int (pe_op op_mul pe_int (pe_c (ok_law_next T) hr (by decide) rfl (pa_cons (pv 0) (pa_cons pe_int pa_nil))))) (pe_ix (ix_listK K) (pe_lst (pa_cons pe_int (pa_cons pe_int (pa_cons pe_int (pa_cons pe_int (pa_cons (pe_c (ok_law_next T) hr (by decide) rfl (pa_cons (pv 0) (pa_cons (pe_op op_pow pe_int pe_int) pa_nil))) pa_nil)))))) (pe_c (ok_law_next T) hr (by decide) rfl (pa_cons (pv 0) (pa_cons pe_int pa_nil))) (fun _ _ => rfl))))) pss_nil)
      (pss_cons (ps_if (pt_cmpR op_lt (pv 1) pe_int (nomark _)) (pss_one (ps_ret (pe_ix (ix_listK K) (pe_lst (pa_cons pe_str (pa_cons pe_str (pa_cons pe_str (pa_cons pe_str pa_nil))))) (pe_op op_sub (pv 1) pe_int) (fun _ _ => rfl)))) pss_nil)
      (pss_cons (ps_set (i := 2) sc_law_value.nd rfl (Or.inr rfl) (pe_c (ok_law_next T) hr (by decide) rfl (pa_cons (pv 0) (pa_cons pe_int pa_nil))))
      (pss_cons (ps_set (i := 3) sc_law_value.nd rfl (Or.inr rfl) (pe_c (ok_law_next T) hr (by decide) rfl (pa_cons (pv 0) (pa_cons pe_int pa_nil))))
      (pss_one (ps_ret (pe_join pe_str (pe_lc (own := [("j", 4)]) (g := gName 4) (tt := tYes) rfl sc_law_value.nd (pi_range1 rfl T.z_range (pa_cons (pe_c (ok_law_next T) hr (by decide) rfl (pa_cons (pv 0) (pa_cons pe_int pa_nil))) pa_nil)) (blkOk_by (own := [("j", 4)]) (N := nm_law_value) (sc := defScope s_law_value) (by decide +kernel)) (fun _ _ _ _ _ => (pg_name (i := 4) sc_law_value.nd rfl (Or.inl rfl))) (fun _ _ _ _ _ => pts_nil) (fun _ _ _ _ _ => (pe_ix ix_str (pe_c0 (ok_law_characters T) hr (by decide) rfl) (pe_op op_mod (pe_op op_add (pv 2) (pe_op op_mul (pv 3) (pv 4))) pe_int) (fun _ _ => rfl)))))))))))))), ?_⟩
  walk_at "k"
  walk_at "rd"
  refine rd_next hs (by decide) (by decide) fun v H1 hv s1 e1 => ?_
  walk_at "rd"
  refine rd_ite (fun c => ?_) (fun c => ?_)
  · have c' := of_decide_eq_true c
    walk_at "rd"
    refine rd_newL (M := [p]) s1.als (by walk_at "all") (by simp) fun r H2 hr2 e2 h2 _ => ?_
    walk_at "rd"
    refine rd_pickV (P := fun x => ∃ n : Int, x = .int n) h2 (j := v) rfl (by simp; omega) (fun x hx => ?_) ?_
    · simp only [List.mem_cons, List.not_mem_nil, or_false] at hx
      rcases hx with rfl | rfl | rfl | rfl <;> exact ⟨_, rfl⟩
    · rintro x ⟨n, rfl⟩
      exact q (.inl n) H2 trivial (s1.ext0 e2) (e1.trans e2.any)
  have c1 := of_decide_eq_false c
  walk_at "rd"
  refine rd_ite (fun c => ?_) (fun c => ?_)
  · walk_at "rd"
    refine rd_next s1 (by decide) (by decide) fun v2 H2 hv2 s2 e2 => ?_
    walk_at "rd"
    refine rd_next s2 (by decide) (by decide) fun v3 H3 hv3 s3 e3 => ?_
    walk_at "rd"
    exact q (.inl _) H3 trivial s3 (e1.trans (e2.trans e3))
  have c2 := of_decide_eq_false c
  walk_at "rd"
  refine rd_ite (fun c => ?_) (fun c => ?_)
  · walk_at "rd"
    refine rd_next s1 (by decide) (by decide) fun v2 H2 hv2 s2 e2 => ?_
    walk_at "rd"
    refine rd_next s2 (by decide) (by decide +kernel) fun v3 H3 hv3 s3 e3 => ?_
    walk_at "rd"
    refine rd_newL (M := [p]) s3.als (by walk_at "all") (by simp) fun r H4 hr4 e4 h4 _ => ?_
    walk_at "rd"
    refine rd_next (s3.ext0 e4) (by decide) (by decide) fun v5 H5 hv5 s5 e5 => ?_
    have hne : r ≠ p := s3.ne_new hr4
    refine rd_pickV (P := fun x => ∃ n : Int, x = .int n) (keepP e5 hne h4) (j := v5) rfl (by simp; omega) (fun x hx => ?_) ?_
    · simp only [List.mem_cons, List.not_mem_nil, or_false] at hx
      rcases hx with rfl | rfl | rfl | rfl | rfl <;> exact ⟨_, rfl⟩
    · rintro x ⟨n, rfl⟩
      walk_at "rd"
      exact q (.inl _) H5 trivial s5 (e1.trans (e2.trans (e3.trans (e4.any.trans e5))))
  have c3 := of_decide_eq_false c
  walk_at "rd"
  refine rd_ite (fun c => ?_) (fun c => ?_)
  · have c4 := of_decide_eq_true c
    walk_at "rd"
    refine rd_newL (M := [p]) s1.als (by walk_at "all") (by simp) fun r H2 hr2 e2 h2 _ => ?_
    walk_at "rd"
    refine rd_pickV (P := fun x => ∃ n : Str, x = .str n ∧ SOk 40 n) h2 (j := v - 6) (by omega) (by simp; omega) (fun x hx => ?_) ?_
    · simp only [List.mem_cons, List.not_mem_nil, or_false] at hx
      rcases hx with rfl | rfl | rfl | rfl <;> exact ⟨_, rfl, by decide, by decide⟩
    · rintro x ⟨n, rfl, hn⟩
      exact q (.inr n) H2 hn (s1.ext0 e2) (e1.trans e2.any)
  walk_at "rd"
  refine rd_next s1 (by decide) (by decide) fun v2 H2 hv2 s2 e2 => ?_
  walk_at "rd"
  refine rd_next s2 (by decide) (by decide) fun v3 H3 hv3 s3 e3 => ?_
  walk_at "rd"
  refine ⟨⟨_, rfl⟩, ?_⟩
  walk_at "rd"
  refine rd_next s3 (by decide) (by decide) fun v4 H4 hv4 s4 e4 => ?_
  walk_at "rd"
  intro D hD
  refine q_lcAR (N := []) (M := [p]) (fun _ => True) (fun _ e => ∃ c : Nat, e = .str ⟨#[c]⟩ ∧ c < 1114112) (by simp) s4.als hD (by omega) (fun _ => rfl) trivial (fun _ _ _ => trivial) (fun i H' hi sD e _ _ R k => ?_) fun H5 es e5 _ r5 i5 => ?_
  · walk_at "rd"
    refine ⟨rfl, ?_⟩
    walk_at "rd"
    have e0 : ((v2 : Int) + v3 * (0 + (i : Int))) % 94 = (((v2 + v3 * i) % 94 : Nat) : Int) := by rw [Int.zero_add]; rfl
    obtain ⟨c, hc, hc2⟩ := alp_get (j := (v2 + v3 * i) % 94) (Nat.mod_lt _ (by decide))
    refine rd_ixS (by rw [alp_len]; decide) e0 hc ?_
    exact k _ _ _ .refl trivial (.str _) ⟨c, rfl, hc2⟩
  · obtain ⟨cs, rfl, rc⟩ := r5.pick
    obtain ⟨xs, _, hx, rx⟩ := i5.list
    have hlen : cs.length = v4 := by rw [← rc.length, List.length_range]; rfl
    have rx' : IsAll [p] H5 xs ((cs.map fun c => (⟨#[c]⟩ : Str)).map PyData.str) := by rw [List.map_map]; exact rx
    refine ⟨_, D, cs.map fun c => ⟨#[c]⟩, rfl, rfl, .inl (SqL.of (by rw [← rx'.ofStrs]; exact hx)), ?_, ?_⟩
    · rw [List.map_map, List.length_map]
      have e1 : ((cs.map ((fun x => x.length) ∘ fun c => (⟨#[c]⟩ : Str)))) = List.replicate cs.length 1 := by
        rw [List.eq_replicate_iff]
        refine ⟨by rw [List.length_map], fun b hb => ?_⟩
        obtain ⟨c, _, rfl⟩ := List.mem_map.mp hb
        rfl
      rw [e1, List.sum_replicate_nat]
      have e2 : (Str.ofString "").length = 0 := by decide
      rw [e2]
      omega
    · have ho := SOk.join (cs := cs) fun c hc => by
        obtain ⟨_, _, h⟩ := rc.mem hc
        exact h
      exact q (.inr _) H5 (ho.mono (by omega)) (s4.ext0 e5) (e1.trans (e2.trans (e3.trans (e4.trans e5.any))))
theorem ok_law_row (T : Txt K mg) : Cal P w K mg base 3 "_law_row" sp_drow [] := by
  refine T.f_law_row.cal sc_law_row bd_law_row (fun vs H Q E h => ?_) fun f cdv A outer s H vs Q E hr h => ?_
  · obtain ⟨M, p, l, n, rfl, _⟩ := h; rfl
  obtain ⟨M, p, l, n, rfl, hn, hs, sM, hp, q⟩ := h
  refine ⟨_, (pss_one (ps_ret (pe_callTy (call_tupK K) (by rfl) T.z_tuple (by decide +kernel) (pa_cons (pe_lc (own := [("k", 2)]) (g := gName 2) (tt := tYes) rfl sc_law_row.nd (pi_range1 rfl T.z_range (pa_cons (pv 1) pa_nil)) (blkOk_by (own := [("k", 2)]) (N := nm_law_row) (sc := defScope s_law_row) (by decide +kernel)) (fun _ _ _ _ _ => (pg_name (i := 2) sc_law_row.nd rfl (Or.inl rfl))) (fun _ _ _ _ _ => pts_nil) (fun _ _ _ _ _ => (pe_c (ok_law_value T) hr (by decide) rfl (pa_cons (pv 0) pa_nil)))) pa_nil)))), ?_⟩
  walk_at "k"
  walk_at "rd"
  intro D hD
  refine q_lcAR (N := [p]) (M := M) (fun A => StAt A p l) (fun _ e => ∃ x : Vl, e = vd x ∧ Sm 40 x) (inM hp) sM hD (by omega) (fun _ => rfl) hs (fun A o sA => ?_) (fun i H' hi sD e sA _ R k => ?_) fun H5 es e5 s5 r5 i5 => ?_
  · exact hs.updN hD sA
  · walk_at "rd"
    refine ⟨p, l, rfl, sA, fun x H'' hx s2 e2 => ?_⟩
    exact k _ _ _ e2 s2 (is_vd x) ⟨x, rfl, hx⟩
  · obtain ⟨xs, rfl, rc⟩ := r5.pick
    refine rd_dtuple (sM.ext e5) i5 fun r H6 hr6 e6 i6 => ?_
    exact q r xs H6 (by rw [← rc.length, List.length_range]; rfl) (fun x hx => by obtain ⟨_, _, h⟩ := rc.mem hx; exact h) (s5.ext0 e6) (e5.trans e6.any) i6
theorem ok_law_name (T : Txt K mg) : Cal P w K mg base 2 "_law_name" sp_name [] := by
  refine T.f_law_name.cal sc_law_name bd_law_name (fun vs H Q E h => ?_) fun f cdv A outer s H vs Q E hr h => ?_
  · obtain ⟨p, l, rfl, _⟩ := h; rfl
  obtain ⟨p, l, rfl, hs, q⟩ := h
  refine ⟨_, (pss_one (ps_ret (pe_ix (ix_listK K) (pe_lst (pa_cons pe_str (pa_cons pe_str (pa_cons pe_str (pa_cons pe_str (pa_cons pe_str (pa_cons pe_str (pa_cons pe_str (pa_cons pe_str (pa_cons pe_str (pa_cons pe_str pa_nil))))))))))) (pe_c (ok_law_next T) hr (by decide) rfl (pa_cons (pv 0) (pa_cons pe_int pa_nil))) (fun _ _ => rfl)))), ?_⟩
  walk_at "k"
  walk_at "rd"
  refine rd_newL (M := [p]) hs.als (by walk_at "all") (by simp) fun r H1 hr1 e1 h1 _ => ?_
  walk_at "rd"
  refine rd_next (hs.ext0 e1) (by decide) (by decide) fun v H2 hv s2 e2 => ?_
  refine rd_pickV (P := fun x => ∃ n : Str, x = .str n ∧ SOk 40 n) (keepP e2 (hs.ne_new hr1) h1) (j := v) rfl (by simp; omega) (fun x hx => ?_) ?_
  · simp only [List.mem_cons, List.not_mem_nil, or_false] at hx
    rcases hx with rfl | rfl | rfl | rfl | rfl | rfl | rfl | rfl | rfl | rfl <;> exact ⟨_, rfl, by decide, by decide⟩
  · rintro x ⟨n, rfl, hn⟩
    exact q n H2 hn s2 (e1.any.trans e2)
theorem ok_law_term (T : Txt K mg) : Cal P w K mg base 3 "_law_term" sp_any [] := by
  refine T.f_law_term.cal sc_law_term bd_law_term (fun vs H Q E h => ?_) fun f cdv A outer s H vs Q E hr h => ?_
  · obtain ⟨M, p, l, rfl, _⟩ := h; rfl
  obtain ⟨M, p, l, rfl, hs, sM, hp, q⟩ := h
  refine ⟨_, (pss_cons (ps_set (i := 1) sc_law_term.nd rfl (Or.inl rfl) (pe_c (ok_law_next T) hr (by decide) rfl (pa_cons (pv 0) (pa_cons pe_int pa_nil))))
      (pss_cons (ps_if (pt_cmpR op_eq (pv 1) pe_int (nomark _)) (pss_one (ps_ret (pe_tup (pa_cons pe_str pa_nil)))) pss_nil)
      (pss_cons (ps_if (pt_cmpR op_eq (pv 1) pe_int (nomark _)) (pss_one (ps_ret (pe_tup (pa_cons pe_str (pa_cons (pe_c (ok_law_value T) hr (by decide) rfl (pa_cons (pv 0) pa_nil)) pa_nil))))) pss_nil)
      (pss_one (ps_ret (pe_tup (pa_cons pe_str (pa_cons (pe_c (ok_law_name T) hr (by decide) rfl (pa_cons (pv 0) pa_nil)) pa_nil)))))))), ?_⟩
  walk_at "k"
  walk_at "rd"
  refine rd_next hs (by decide) (by decide) fun v H1 hv s1 e1 => ?_
  have m1 := sM.ext e1
  walk_at "rd"
  refine rd_ite (fun c => ?_) (fun c => ?_)
  · walk_at "rd"
    refine rd_newT (M := M) m1 (by walk_at "all") (by simp) fun r H2 hr2 e2 h2 i2 => ?_
    exact q r _ H2 (s1.ext0 e2) (e1.trans e2.any) i2
  walk_at "rd"
  refine rd_ite (fun c => ?_) (fun c => ?_)
  · walk_at "rd"
    refine ⟨p, l, rfl, s1, fun x H2 hx s2 e2 => ?_⟩
    have ix : Is M H2 (vv x) (vd x) := is_vd x
    walk_at "rd"
    refine rd_newT (M := M) (m1.ext e2) (by walk_at "all") (by simp) fun r H3 hr3 e3 h3 i3 => ?_
    exact q r _ H3 (s2.ext0 e3) (e1.trans (e2.trans e3.any)) i3
  · walk_at "rd"
    refine ⟨p, l, rfl, s1, fun x H2 hx s2 e2 => ?_⟩
    walk_at "rd"
    refine rd_newT (M := M) (m1.ext e2) (by walk_at "all") (by simp) fun r H3 hr3 e3 h3 i3 => ?_
    exact q r _ H3 (s2.ext0 e3) (e1.trans (e2.trans e3.any)) i3
theorem ok_law_terms (T : Txt K mg) : Cal P w K mg base 4 "_law_terms" sp_any [] := by
  refine T.f_law_terms.cal sc_law_terms bd_law_terms (fun vs H Q E h => ?_) fun f cdv A outer s H vs Q E hr h => ?_
  · obtain ⟨M, p, l, rfl, _⟩ := h; rfl
  obtain ⟨M, p, l, rfl, hs, sM, hp, q⟩ := h
  refine ⟨_, (pss_one (ps_ret (pe_callTy (call_tupK K) (by rfl) T.z_tuple (by decide +kernel) (pa_cons (pe_lc (own := [("k", 1)]) (g := gName 1) (tt := tYes) rfl sc_law_terms.nd (pi_range1 rfl T.z_range (pa_cons (pe_c (ok_law_next T) hr (by decide) rfl (pa_cons (pv 0) (pa_cons pe_int pa_nil))) pa_nil)) (blkOk_by (own := [("k", 1)]) (N := nm_law_terms) (sc := defScope s_law_terms) (by decide +kernel)) (fun _ _ _ _ _ => (pg_name (i := 1) sc_law_terms.nd rfl (Or.inl rfl))) (fun _ _ _ _ _ => pts_nil) (fun _ _ _ _ _ => (pe_c (ok_law_term T) hr (by decide) rfl (pa_cons (pv 0) pa_nil)))) pa_nil)))), ?_⟩
  walk_at "k"
  walk_at "rd"
  refine rd_next hs (by decide) (by decide) fun v H1 hv s1 e1 => ?_
  have m1 := sM.ext e1
  walk_at "rd"
  intro D hD
  refine q_lcAR (N := [p]) (M := M) (fun A => StAt A p l) (fun _ _ => True) (inM hp) m1 hD (by omega) (fun _ => rfl) s1 (fun A o sA => s1.updN hD sA) (fun i H' hi sD e sA _ R k => ?_) fun H5 es e5 s5 r5 i5 => ?_
  · walk_at "rd"
    refine ⟨D :: M, p, l, rfl, sA, sD, List.mem_cons_of_mem _ hp, fun r d H'' s2 e2 i2 => ?_⟩
    exact k _ _ _ e2 s2 i2 trivial
  · refine rd_dtuple (m1.ext e5) i5 fun r H6 hr6 e6 i6 => ?_
    exact q r _ H6 (s5.ext0 e6) (e1.trans (e5.trans e6.any)) i6
theorem ok_law_literal (T : Txt K mg) : Cal P w K mg base 5 "_law_literal" sp_any [] := by
  refine T.f_law_literal.cal sc_law_literal bd_law_literal (fun vs H Q E h => ?_) fun f cdv A outer s H vs Q E hr h => ?_
  · obtain ⟨M, p, l, rfl, _⟩ := h; rfl
  obtain ⟨M, p, l, rfl, hs, sM, hp, q⟩ := h
  refine ⟨_, (pss_cons (ps_set (i := 1) sc_law_literal.nd rfl (Or.inl rfl) (pe_ix (ix_listK K) (pe_lst (pa_cons pe_str (pa_cons pe_str (pa_cons pe_str (pa_cons pe_str (pa_cons pe_str (pa_cons pe_str pa_nil))))))) (pe_c (ok_law_next T) hr (by decide) rfl (pa_cons (pv 0) (pa_cons pe_int pa_nil))) (fun _ _ => rfl)))
      (pss_cons (ps_if (pt_cmpR op_eq (pv 1) pe_str (nomark _)) (pss_cons (ps_set (i := 2) sc_law_literal.nd rfl (Or.inl rfl) (pe_ix (ix_listK K) (pe_lst (pa_cons pe_str (pa_cons pe_str (pa_cons pe_str (pa_cons pe_str (pa_cons pe_str (pa_cons pe_str pa_nil))))))) (pe_c (ok_law_next T) hr (by decide) rfl (pa_cons (pv 0) (pa_cons pe_int pa_nil))) (fun _ _ => rfl)))
      (pss_one (ps_ret (pe_tup (pa_cons (pv 1) (pa_cons (pv 2) (pa_cons (pe_c (ok_law_term T) hr (by decide) rfl (pa_cons (pv 0) pa_nil)) (pa_cons (pe_c (ok_law_term T) hr (by decide) rfl (pa_cons (pv 0) pa_nil)) pa_nil)))))))) pss_nil)
      (pss_cons (ps_if (pt_cmpR op_eq (pv 1) pe_str (nomark _)) (pss_one (ps_ret (pe_tup (pa_cons (pv 1) (pa_cons (pe_c (ok_law_name T) hr (by decide) rfl (pa_cons (pv 0) pa_nil)) (pa_cons (pe_ix (ix_listK K) (pe_lst (pa_cons pe_str (pa_cons pe_str (pa_cons pe_str pa_nil)))) (pe_c (ok_law_next T) hr (by decide) rfl (pa_cons (pv 0) (pa_cons pe_int pa_nil))) (fun _ _ => rfl)) (pa_cons (pe_c (ok_law_term T) hr (by decide) rfl (pa_cons (pv 0) pa_nil)) (pa_cons (pe_c (ok_law_term T) hr (by decide) rfl (pa_cons (pv 0) pa_nil)) pa_nil)))))))) pss_nil)
      (pss_cons (ps_if (pt_cmpR op_eq (pv 1) pe_str (nomark _)) (pss_one (ps_ret (pe_tup (pa_cons (pv 1) (pa_cons (pe_c (ok_law_name T) hr (by decide) rfl (pa_cons (pv 0) pa_nil)) (pa_cons (pe_c (ok_law_name T) hr (by decide) rfl (pa_cons (pv 0) pa_nil)) (pa_cons (pe_c (ok_law_terms T) hr (by decide) rfl (pa_cons (pv 0) pa_nil)) pa_nil))))))) pss_nil)
      (pss_one (ps_ret (pe_tup (pa_cons (pv 1) (pa_cons (pe_c (ok_law_name T) hr (by decide) rfl (pa_cons (pv 0) pa_nil)) (pa_cons (pe_c (ok_law_terms T) hr (by decide) rfl (pa_cons (pv 0) pa_nil)) pa_nil)))))))))), ?_⟩
  walk_at "k"
  have hN := inM hp
  walk_at "rd"
  refine rd_newL (M := M) sM (by walk_at "all") (by simp) fun r H1 hr1 e1 h1 _ => ?_
  walk_at "rd"
  refine rd_next (hs.ext0 e1) (by decide) (by decide) fun v H2 hv s2 e2 => ?_
  have m2 := (sM.ext e1).ext e2
  have e02 : Ext [p] H H2 := e1.any.trans e2
  refine rd_pickV (P := fun x => ∃ n : Str, x = .str n) (keepP e2 (hs.ne_new hr1) h1) (j := v) rfl (by simp; omega) (fun x hx => ?_) ?_
  · simp only [List.mem_cons, List.not_mem_nil, or_false] at hx
    rcases hx with rfl | rfl | rfl | rfl | rfl | rfl <;> exact ⟨_, rfl⟩
  rintro x ⟨form, rfl⟩
  walk_at "rd"
  refine rd_ite (fun c => ?_) (fun c => ?_)
  · walk_at "rd"
    refine rd_newL (M := M) m2 (by walk_at "all") (by simp) fun r3 H3 hr3 e3 h3 _ => ?_
    walk_at "rd"
    refine rd_next (s2.ext0 e3) (by decide) (by decide) fun v4 H4 hv4 s4 e4 => ?_
    have m4 := (m2.ext e3).ext e4
    refine rd_pickV (P := fun x => ∃ n : Str, x = .str n) (keepP e4 (s2.ne_new hr3) h3) (j := v4) rfl (by simp; omega) (fun x hx => ?_) ?_
    · simp only [List.mem_cons, List.not_mem_nil, or_false] at hx
      rcases hx with rfl | rfl | rfl | rfl | rfl | rfl <;> exact ⟨_, rfl⟩
    rintro x ⟨op, rfl⟩
    walk_at "rd"
    refine ⟨M, p, l, rfl, s4, m4, hp, fun r5 d5 H5 s5 e5 i5 => ?_⟩
    walk_at "rd"
    refine ⟨M, p, l, rfl, s5, m4.ext e5, hp, fun r6 d6 H6 s6 e6 i6 => ?_⟩
    have i5' := i5.mono (e6.more hN)
    walk_at "rd"
    refine rd_newT (M := M) ((m4.ext e5).ext e6) (by walk_at "all") (by simp) fun r7 H7 hr7 e7 h7 i7 => ?_
    exact q r7 _ H7 (s6.ext0 e7) (e02.trans (e3.any.trans (e4.trans (e5.trans (e6.trans e7.any))))) i7
  walk_at "rd"
  refine rd_ite (fun c => ?_) (fun c => ?_)
  · walk_at "rd"
    refine ⟨p, l, rfl, s2, fun x3 H3 hx3 s3 e3 => ?_⟩
    walk_at "rd"
    refine rd_newL (M := M) (m2.ext e3) (by walk_at "all") (by simp) fun r4 H4 hr4 e4 h4 _ => ?_
    walk_at "rd"
    refine rd_next (s3.ext0 e4) (by decide) (by decide) fun v5 H5 hv5 s5 e5 => ?_
    have m5 := ((m2.ext e3).ext e4).ext e5
    refine rd_pickV (P := fun x => ∃ n : Str, x = .str n) (keepP e5 (s3.ne_new hr4) h4) (j := v5) rfl (by simp; omega) (fun x hx => ?_) ?_
    · simp only [List.mem_cons, List.not_mem_nil, or_false] at hx
      rcases hx with rfl | rfl | rfl <;> exact ⟨_, rfl⟩
    rintro x ⟨op, rfl⟩
    walk_at "rd"
    refine ⟨M, p, l, rfl, s5, m5, hp, fun r6 d6 H6 s6 e6 i6 => ?_⟩
    walk_at "rd"
    refine ⟨M, p, l, rfl, s6, m5.ext e6, hp, fun r7 d7 H7 s7 e7 i7 => ?_⟩
    have i6' := i6.mono (e7.more hN)
    walk_at "rd"
    refine rd_newT (M := M) ((m5.ext e6).ext e7) (by walk_at "all") (by simp) fun r8 H8 hr8 e8 h8 i8 => ?_
    exact q r8 _ H8 (s7.ext0 e8) (e02.trans (e3.trans (e4.any.trans (e5.trans (e6.trans (e7.trans e8.any)))))) i8
  walk_at "rd"
  refine rd_ite (fun c => ?_) (fun c => ?_)
  · walk_at "rd"
    refine ⟨p, l, rfl, s2, fun x3 H3 hx3 s3 e3 => ?_⟩
    walk_at "rd"
    refine ⟨p, l, rfl, s3, fun x4 H4 hx4 s4 e4 => ?_⟩
    walk_at "rd"
    refine ⟨M, p, l, rfl, s4, (m2.ext e3).ext e4, hp, fun r5 d5 H5 s5 e5 i5 => ?_⟩
    walk_at "rd"
    refine rd_newT (M := M) (((m2.ext e3).ext e4).ext e5) (by walk_at "all") (by simp) fun r6 H6 hr6 e6 h6 i6 => ?_
    exact q r6 _ H6 (s5.ext0 e6) (e02.trans (e3.trans (e4.trans (e5.trans e6.any)))) i6
  · walk_at "rd"
    refine ⟨p, l, rfl, s2, fun x3 H3 hx3 s3 e3 => ?_⟩
    walk_at "rd"
    refine ⟨M, p, l, rfl, s3, m2.ext e3, hp, fun r4 d4 H4 s4 e4 i4 => ?_⟩
    walk_at "rd"
    refine rd_newT (M := M) ((m2.ext e3).ext e4) (by walk_at "all") (by simp) fun r5 H5 hr5 e5 h5 i5 => ?_
    exact q r5 _ H5 (s4.ext0 e5) (e02.trans (e3.trans (e4.trans e5.any))) i5
theorem ok_law_body (T : Txt K mg) : Cal P w K mg base 6 "_law_body" sp_any [] := by
  refine T.f_law_body.cal sc_law_body bd_law_body (fun vs H Q E h => ?_) fun f cdv A outer s H vs Q E hr h => ?_
  · obtain ⟨M, p, l, rfl, _⟩ := h; rfl
  obtain ⟨M, p, l, rfl, hs, sM, hp, q⟩ := h
  refine ⟨_, (pss_one (ps_ret (pe_callTy (call_tupK K) (by rfl) T.z_tuple (by decide +kernel) (pa_cons (pe_lc (own := [("k", 1)]) (g := gName 1) (tt := tYes) rfl sc_law_body.nd (pi_range1 rfl T.z_range (pa_cons (pe_c (ok_law_next T) hr (by decide) rfl (pa_cons (pv 0) (pa_cons pe_int pa_nil))) pa_nil)) (blkOk_by (own := [("k", 1)]) (N := nm_law_body) (sc := defScope s_law_body) (by decide +kernel)) (fun _ _ _ _ _ => (pg_name (i := 1) sc_law_body.nd rfl (Or.inl rfl))) (fun _ _ _ _ _ => pts_nil) (fun _ _ _ _ _ => (pe_c (ok_law_literal T) hr (by decide) rfl (pa_cons (pv 0) pa_nil)))) pa_nil)))), ?_⟩
  walk_at "k"
  walk_at "rd"
  refine rd_next hs (by decide) (by decide) fun v H1 hv s1 e1 => ?_
  have m1 := sM.ext e1
  walk_at "rd"
  intro D hD
  refine q_lcAR (N := [p]) (M := M) (fun A => StAt A p l) (fun _ _ => True) (inM hp) m1 hD (by omega) (fun _ => rfl) s1 (fun A o sA => s1.updN hD sA) (fun i H' hi sD e sA _ R k => ?_) fun H5 es e5 s5 r5 i5 => ?_
  · walk_at "rd"
    refine ⟨D :: M, p, l, rfl, sA, sD, List.mem_cons_of_mem _ hp, fun r d H'' s2 e2 i2 => ?_⟩
    exact k _ _ _ e2 s2 i2 trivial
  · refine rd_dtuple (m1.ext e5) i5 fun r H6 hr6 e6 i6 => ?_
    exact q r _ H6 (s5.ext0 e6) (e1.trans (e5.trans e6.any)) i6
/-- an item, as far as its key goes -/
def sp_item : Sp := fun vs H Q _ => ∃ (M : List Addr) (p l : Addr), vs = [.ref p] ∧ StAt H p l ∧ Al M H ∧ p ∈ M ∧ ∀ (r : Addr) (kd nm : Str) (ds : List PyData) H', kd ∈ WD → SOk 40 nm → (kd = "fact" → ∃ rs : List Vl, ds = [.tuple (rs.map vd)] ∧ (∀ v ∈ rs, Sm 40 v) ∧ rs.length ≤ 10) → StAt H' p l → Ext [p] H H' → Is M H' (.ref r) (.tuple (.str kd :: .str nm :: ds)) → Q (.ref r) H'
theorem ok_law_item (T : Txt K mg) : Cal P w K mg base 7 "_law_item" sp_item [] := by
  refine T.f_law_item.cal sc_law_item bd_law_item (fun vs H Q E h => ?_) fun f cdv A outer s H vs Q E hr h => ?_
  · obtain ⟨M, p, l, rfl, _⟩ := h; rfl
  obtain ⟨M, p, l, rfl, hs, sM, hp, q⟩ := h
  refine ⟨_, (pss_cons (ps_set (i := 1) sc_law_item.nd rfl (Or.inl rfl) (pe_c (ok_law_next T) hr (by decide) rfl (pa_cons (pv 0) (pa_cons pe_int pa_nil))))
      (pss_cons (ps_set (i := 2) sc_law_item.nd rfl (Or.inl rfl) (pe_c (ok_law_name T) hr (by decide) rfl (pa_cons (pv 0) pa_nil)))
      (pss_cons (ps_if (pt_cmpR op_lt (pv 1) pe_int (nomark _)) (pss_one (ps_ret (pe_tup (pa_cons pe_str (pa_cons (pv 2) (pa_cons (pe_op op_add pe_int (pe_c (ok_law_next T) hr (by decide) rfl (pa_cons (pv 0) (pa_cons pe_int pa_nil)))) pa_nil)))))) pss_nil)
      (pss_cons (ps_if (pt_cmpR op_lt (pv 1) pe_int (nomark _)) (pss_one (ps_ret (pe_tup (pa_cons pe_str (pa_cons (pv 2) (pa_cons (pe_c (ok_law_row T) hr (by decide) rfl (pa_cons (pv 0) (pa_cons (pe_op op_add pe_int (pe_c (ok_law_next T) hr (by decide) rfl (pa_cons (pv 0) (pa_cons pe_int pa_nil)))) pa_nil))) pa_nil)))))) pss_nil)
      (pss_cons (ps_if (pt_cmpR op_lt (pv 1) pe_int (nomark _)) (pss_one (ps_ret (pe_tup (pa_cons pe_str (pa_cons (pv 2) (pa_cons (pe_c (ok_law_name T) hr (by decide) rfl (pa_cons (pv 0) pa_nil)) (pa_cons (pe_c (ok_law_terms T) hr (by decide) rfl (pa_cons (pv 0) pa_nil)) (pa_cons (pe_c (ok_law_body T) hr (by decide) rfl (pa_cons (pv 0) pa_nil)) pa_nil)))))))) pss_nil)
      (pss_one (ps_ret (pe_tup (pa_cons pe_str (pa_cons (pv 2) (pa_cons (pe_c (ok_law_body T) hr (by decide) rfl (pa_cons (pv 0) pa_nil)) pa_nil))))))))))), ?_⟩
  walk_at "k"
  have hN := inM hp
  walk_at "rd"
  refine rd_next hs (by decide) (by decide) fun v H1 hv s1 e1 => ?_
  walk_at "rd"
  refine ⟨p, l, rfl, s1, fun nm H2 hnm s2 e2 => ?_⟩
  have m2 := (sM.ext e1).ext e2
  have e02 : Ext [p] H H2 := e1.trans e2
  walk_at "rd"
  refine rd_ite (fun c => ?_) (fun c => ?_)
  · walk_at "rd"
    refine rd_next s2 (by decide) (by decide) fun v3 H3 hv3 s3 e3 => ?_
    walk_at "rd"
    refine rd_newT (M := M) (m2.ext e3) (by walk_at "all") (by simp) fun r4 H4 hr4 e4 h4 i4 => ?_
    exact q r4 "relation" nm _ H4 (by decide) hnm (fun z => absurd z (by decide)) (s3.ext0 e4) (e02.trans (e3.trans e4.any)) i4
  walk_at "rd"
  refine rd_ite (fun c => ?_) (fun c => ?_)
  · walk_at "rd"
    refine rd_next s2 (by decide) (by decide) fun v3 H3 hv3 s3 e3 => ?_
    walk_at "rd"
    have ev : (1 : Int) + (v3 : Int) = ((1 + v3 : Nat) : Int) := by omega
    rw [ev]
    refine ⟨M, p, l, 1 + v3, rfl, by omega, s3, m2.ext e3, hp, fun r4 xs H4 hl hx s4 e4 i4 => ?_⟩
    walk_at "rd"
    refine rd_newT (M := M) ((m2.ext e3).ext e4) (by walk_at "all") (by simp) fun r5 H5 hr5 e5 h5 i5 => ?_
    exact q r5 "fact" nm _ H5 (by decide) hnm (fun _ => ⟨xs, rfl, hx, by omega⟩) (s4.ext0 e5) (e02.trans (e3.trans (e4.trans e5.any))) i5
  walk_at "rd"
  refine rd_ite (fun c => ?_) (fun c => ?_)
  · walk_at "rd"
    refine ⟨p, l, rfl, s2, fun x3 H3 hx3 s3 e3 => ?_⟩
    walk_at "rd"
    refine ⟨M, p, l, rfl, s3, m2.ext e3, hp, fun r4 d4 H4 s4 e4 i4 => ?_⟩
    walk_at "rd"
    refine ⟨M, p, l, rfl, s4, (m2.ext e3).ext e4, hp, fun r5 d5 H5 s5 e5 i5 => ?_⟩
    have i4' := i4.mono (e5.more hN)
    walk_at "rd"
    refine rd_newT (M := M) (((m2.ext e3).ext e4).ext e5) (by walk_at "all") (by simp) fun r6 H6 hr6 e6 h6 i6 => ?_
    exact q r6 "rule" nm _ H6 (by decide) hnm (fun z => absurd z (by decide)) (s5.ext0 e6) (e02.trans (e3.trans (e4.trans (e5.trans e6.any)))) i6
  · walk_at "rd"
    refine ⟨M, p, l, rfl, s2, m2, hp, fun r3 d3 H3 s3 e3 i3 => ?_⟩
    walk_at "rd"
    refine rd_newT (M := M) (m2.ext e3) (by walk_at "all") (by simp) fun r4 H4 hr4 e4 h4 i4 => ?_
    exact q r4 "denial" nm _ H4 (by decide) hnm (fun z => absurd z (by decide)) (s3.ext0 e4) (e02.trans (e3.trans e4.any)) i4
def sp_great : Sp := fun vs H Q _ => ∃ p l : Addr, vs = [.ref p] ∧ StAt H p l ∧ ∀ (n : Int) H', StAt H' p l → Ext [p] H H' → Q (.int n) H'
theorem ok_law_great (T : Txt K mg) : Cal P w K mg base 2 "_law_great" sp_great [] := by
  refine T.f_law_great.cal sc_law_great bd_law_great (fun vs H Q E h => ?_) fun f cdv A outer s H vs Q E hr h => ?_
  · obtain ⟨p, l, rfl, _⟩ := h; rfl
  obtain ⟨p, l, rfl, hs, q⟩ := h
  refine ⟨_, (pss_cons (ps_set (i := 1) sc_law_great.nd rfl (Or.inl rfl) (pe_op op_add pe_int (pe_c (ok_law_next T) hr (by decide) rfl (pa_cons (pv 0) (pa_cons pe_int pa_nil)))))
      (pss_cons (ps_for PassesOwn.never rfl (pi_range1 rfl T.z_range (pa_cons (pe_op op_add pe_int (pe_c (ok_law_next T) hr (by decide) rfl (pa_cons (pv 0) (pa_cons pe_int pa_nil)))) pa_nil)) (pg_name (i := 2) sc_law_great.nd rfl (Or.inl rfl))
      (pss_one (ps_set (i := 1) sc_law_great.nd rfl (Or.inl rfl) (pe_op op_add (pe_op op_mul (pv 1) pe_int) (pe_c (ok_law_next T) hr (by decide) rfl (pa_cons (pv 0) (pa_cons pe_int pa_nil)))))))
      (pss_one (ps_ret (pe_op op_mul (pv 1) (pe_op op_sub pe_int (pe_op op_mul pe_int (pe_c (ok_law_next T) hr (by decide) rfl (pa_cons (pv 0) (pa_cons pe_int pa_nil)))))))))), ?_⟩
  walk_at "k"
  walk_at "rd"
  refine rd_next hs (by decide) (by decide) fun v H1 hv s1 e1 => ?_
  walk_at "rd"
  refine rd_next s1 (by decide) (by decide) fun v2 H2 hv2 s2 e2 => ?_
  walk_at "rd"
  refine q_range (fun i σ H' => ∃ (n : Int) (u : Option V), σ = [some (.ref p), some (.int n), u] ∧ StAt H' p l ∧ Ext [p] H2 H') ⟨_, none, rfl, s2, .refl⟩ ?_ ?_
  · rintro i σ H' hi ⟨n, u, rfl, s3, e3⟩
    walk_at "rd"
    walk_at "rd"
    refine rd_next s3 (by decide) (by decide) fun v4 H4 hv4 s4 e4 => ?_
    walk_at "rd"
    exact ⟨_, _, rfl, s4, e3.trans e4⟩
  · rintro σ H' ⟨n, u, rfl, s3, e3⟩
    walk_at "rd"
    refine rd_next s3 (by decide) (by decide) fun v4 H4 hv4 s4 e4 => ?_
    walk_at "rd"
    exact q _ H4 s4 (e1.trans (e2.trans (e3.trans e4)))
end
abbrev rd1 (xs : List Vl) : PyData := .tuple (xs.map vd)
/-- is a text -/
def isS : PyData → Bool
  | .str _ => true
  | _ => false
def BOK (n : Nat) (vs : List Vl) : Prop := ∀ v ∈ vs, Sm n v
theorem row_off {M : List Addr} {H : Hp} {x : V} {D : Addr} {ys : List V} {xs : List Vl} (h : H D = some (.lst ys)) (i : Is M H x (rd1 xs)) : Is (D :: M) H x (rd1 xs) := by
  obtain ⟨a, us, rfl, na, ha, ra⟩ := i.tupleV
  cases ra.vdI
  refine .tup (fun z => ?_) ha (all_vd xs)
  rcases List.mem_cons.mp z with rfl | z
  · rw [h] at ha; cases ha
  · exact na z
theorem rows_off {M : List Addr} {H : Hp} {D : Addr} {ys : List V} (h : H D = some (.lst ys)) : ∀ {us : List V} {rs : List (List Vl)}, IsAll M H us (rs.map rd1) → IsAll (D :: M) H us (rs.map rd1)
  | _, [], .nil => .nil
  | _, _ :: _, .cons i r => .cons (row_off h i) (rows_off h r)
theorem is_vals {M : List Addr} {H : Hp} {a : Addr} {vs : List Vl} (i : Is M H (.ref a) (.list (vs.map vd))) : H a = some (.lst (vs.map vv)) := by
  obtain ⟨xs, _, h, r⟩ := i.list
  rw [← r.vdI]; exact h
theorem sg_get {j : Nat} (h : j < 6) : ∃ c, ("abz~ A" : Str).cps.toList[j]? = some c ∧ c < 1114112 := by
  have hl : j < ("abz~ A" : Str).cps.toList.length := by show j < 6; exact h
  exact ⟨_, List.getElem?_eq_getElem hl, (by decide +kernel : ∀ c ∈ ("abz~ A" : Str).cps.toList, c < 1114112) _ (List.getElem_mem hl)⟩
theorem rd_sgn {H : Hp} {p l : Addr} {R : V → Hp → Prop} {E : XK} (s : StAt H p l) (k : ∀ c H', c < 1114112 → StAt H' p l → Ext [p] H H' → R (.str ⟨#[c]⟩) H') : sp_next ([.ref p, .int 6] ++ []) H (fun y H2 => rIxS (.str "abz~ A") y H2 R) E := by
  refine rd_next s (by decide) (by decide) fun v H' hv s' e => ?_
  obtain ⟨c, hc, hc2⟩ := sg_get (j := v) (by omega)
  exact rd_ixS (by decide) rfl hc (k c H' hc2 s' e)
theorem rd_addS {H : Hp} {Q : VK} {i j : Str} {n m : Nat} (h : SOk n i) (k : SOk m j) (hz : n + m ≤ 100000) (q : SOk (n + m) (i ++ j) → Q (.str (i ++ j)) H) :
    rAddSt (.str i) (.str j) H Q :=
  ⟨i, j, rfl, rfl, szL (Nat.le_trans (Nat.add_le_add h.1 k.1) hz), q (h.app k)⟩
def tgL : Vl → List PyData
  | .inl i => [.int 0, .int i]
  | .inr x => [.int 1, .str x]
theorem tg_tup (v : Vl) : tg v = .tuple (tgL v) := by cases v <;> rfl
theorem cl_one (x y : Vl) : cl [x] [y] = cv x y := by
  unfold cl
  cases e : cv x y with
  | eq => rfl
  | lt => rfl
  | gt => rfl
theorem rd_agrees {M M' : List Addr} {H : Hp} {Q : VK} {E : XK} {a b : Addr} {d e : PyData} {z : Int} {o : Ordering} (n : Nat) {ds es : List PyData} (hz : z = oi o) (hd : d = .tuple ds) (he : e = .tuple es) (i1 : Is M H (.ref a) d) (i2 : Is M' H (.ref b) e) (c : Cm d e o) (s1 : Sh n d) (s2 : Sh n e) (hn : n ≤ 64) (q : ∀ H', Ext [] H H' → Q (.bl true) H') :
    sp_agrees ([.ref a, .ref b, .int z] ++ []) H Q E := by
  subst hz hd he
  exact ⟨M, M', n, a, b, ds, es, o, rfl, i1, i2, c, s1, s2, hn, q⟩
theorem oi_eq (o : Ordering) : decide (oi o = 0) = (o == .eq) := by cases o <;> rfl
def sp_law (K : PySem.W.Frag) : Sp := fun vs H Q _ => ∃ (a : Addr) (ns : List Int), vs = [.ref a] ∧ SqL K H a (ns.map V.int) ∧ ns.length ≤ 63 ∧ Only H ∧ ∀ H', Q (.bl true) H'
section
variable {P : Program} {w : World} {K : PySem.W.Frag} {mg : Str → Option Value} {base : Heap}
theorem law_end {fa : Addr} (T : Txt K mg) (hmg : mg "law" = some (.ref fa)) :
    ∃ fd : FuncData, (∀ (s : Shared) (v : Value), BindsTo s fd ⟨[v], []⟩ [("script", v)]) ∧ ∀ base : Heap, FnOk P w K mg base CX0 8 fa fd ["script"] (sp_law K) := by
  refine T.f_law.law hmg sc_law bd_law (fun vs H Q E h => ?_) fun base f cdv A outer s H vs Q E hr h => ?_
  · obtain ⟨a, ns, rfl, _⟩ := h; rfl
  obtain ⟨a, ns, rfl, hS, hl63, hO, k⟩ := h
  refine ⟨_, (pss_cons (ps_set (i := 1) sc_law.nd rfl (Or.inr rfl) (pe_lst (pa_cons (pe_callTy (call_listK K) (by rfl) T.z_list (by decide +kernel) (pa_cons (pv 0) pa_nil)) (pa_cons pe_int (pa_cons pe_int (pa_cons pe_int pa_nil))))))
      (pss_cons (ps_setLc (i := 2) (own := [("k", 3)]) (g := gName 3) (tt := tYes) rfl sc_law.nd rfl rfl (sw_true rfl rfl rfl (by decide +kernel)) (pi_range1 rfl T.z_range (pa_cons (pe_c (ok_law_next T) hr (by decide) rfl (pa_cons (pv 1) (pa_cons pe_int pa_nil))) pa_nil)) (blkOk_by (own := [("k", 3)]) (N := nm_law) (sc := defScope s_law) (by decide +kernel)) (fun _ _ _ _ _ => (pg_name (i := 3) sc_law.nd rfl (Or.inl rfl))) (fun _ _ _ _ _ => pts_nil) (fun _ _ _ _ _ => (pe_c (ok_law_value T) hr (by decide) rfl (pa_cons (pv 1) pa_nil))))
      (pss_cons (ps_set (i := 4) sc_law.nd rfl (Or.inl rfl) (pe_slice sl_str (pe_ix (ix_listK K) (pe_op op_cat (pe_lc (own := [("value", 5)]) (g := gName 5) rfl sc_law.nd (pi_listK K (pv 2)) (blkOk_by (own := [("value", 5)]) (N := nm_law) (sc := defScope s_law) (by decide +kernel)) (fun _ _ _ _ _ => (pg_name (i := 5) sc_law.nd rfl (Or.inl rfl))) (fun _ _ _ _ _ => pts_one (pt_val (pe_callB (call_isK K) (by rfl) T.z_isinstance (by decide +kernel) (pa_cons (pv 5) (pa_cons (pe_bltn (v := .ty "str") (by rfl) T.z_str (by decide +kernel) rfl) pa_nil))))) (fun _ _ _ _ _ => (pv 5))) (pe_lst (pa_cons pe_str pa_nil))) pe_int (fun _ _ => rfl)) po_none (po_some pe_int)))
      (pss_cons (ps_set (i := 2) sc_law.nd rfl (Or.inl rfl) (pe_op op_cat (pv 2) (pe_lst (pa_cons (pe_op op_addSt (pe_op op_addSt (pv 4) (pe_ix ix_str pe_str (pe_c (ok_law_next T) hr (by decide) rfl (pa_cons (pv 1) (pa_cons pe_int pa_nil))) (fun _ _ => rfl))) pe_str) (pa_cons (pe_op op_addSt (pv 4) (pe_ix ix_str pe_str (pe_c (ok_law_next T) hr (by decide) rfl (pa_cons (pv 1) (pa_cons pe_int pa_nil))) (fun _ _ => rfl))) pa_nil)))))
      (pss_cons (ps_set (i := 2) sc_law.nd rfl (Or.inl rfl) (pe_op op_cat (pv 2) (pe_lst (pa_cons (pe_op op_addSt (pe_op op_mulS pe_str pe_int) (pe_ix ix_str pe_str (pe_c (ok_law_next T) hr (by decide) rfl (pa_cons (pv 1) (pa_cons pe_int pa_nil))) (fun _ _ => rfl))) (pa_cons (pe_op op_addSt (pe_op op_mulS pe_str pe_int) (pe_ix ix_str pe_str (pe_c (ok_law_next T) hr (by decide) rfl (pa_cons (pv 1) (pa_cons pe_int pa_nil))) (fun _ _ => rfl))) pa_nil)))))
      (pss_cons (ps_setLc (i := 6) (own := [("k", 3)]) (g := gName 3) (tt := tYes) rfl sc_law.nd rfl rfl (sw_true rfl rfl rfl (by decide +kernel)) (pi_range1 rfl T.z_range (pa_cons (pe_c (ok_law_next T) hr (by decide) rfl (pa_cons (pv 1) (pa_cons pe_int pa_nil))) pa_nil)) (blkOk_by (own := [("k", 3)]) (N := nm_law) (sc := defScope s_law) (by decide +kernel)) (fun _ _ _ _ _ => (pg_name (i := 3) sc_law.nd rfl (Or.inl rfl))) (fun _ _ _ _ _ => pts_nil) (fun _ _ _ _ _ => (pe_c (ok_law_row T) hr (by decide) rfl (pa_cons (pv 1) (pa_cons (pe_c (ok_law_next T) hr (by decide) rfl (pa_cons (pv 1) (pa_cons (pe_ix (ix_listK K) (pe_lst (pa_cons pe_int (pa_cons pe_int (pa_cons pe_int pa_nil)))) (pe_c (ok_law_next T) hr (by decide) rfl (pa_cons (pv 1) (pa_cons pe_int pa_nil))) (fun _ _ => rfl)) pa_nil))) pa_nil)))))
      (pss_join (ps_if (pt_cmpR op_gt (pe_callB (call_lenK K) (by rfl) T.z_len (by decide +kernel) (pa_cons (pv 6) pa_nil)) pe_int (nomark _)) (pss_one (ps_asg (pe_op (op_catT0 K) (pe_ix (ix_listK K) (pv 6) pe_int (fun _ _ => rfl)) (pe_c (ok_law_row T) hr (by decide) rfl (pa_cons (pv 1) (pa_cons (pe_c (ok_law_next T) hr (by decide) rfl (pa_cons (pv 1) (pa_cons pe_int pa_nil))) pa_nil)))) (pg_sub (pv 6) pe_int set_list))) pss_nil)
      (pss_join (ps_if (pt_cmpR op_eq (pe_c (ok_law_next T) hr (by decide) rfl (pa_cons (pv 1) (pa_cons pe_int pa_nil))) pe_int (nomark _)) (pss_cons (ps_set (i := 7) sc_law.nd rfl (Or.inl rfl) (pe_c (ok_law_great T) hr (by decide) rfl (pa_cons (pv 1) pa_nil)))
      (pss_cons (ps_set (i := 2) sc_law.nd rfl (Or.inl rfl) (pe_op op_cat (pv 2) (pe_lst (pa_cons (pv 7) (pa_cons (pe_op op_add (pv 7) pe_int) (pa_cons (pe_c (ok_law_great T) hr (by decide) rfl (pa_cons (pv 1) pa_nil)) pa_nil))))))
      (pss_one (ps_set (i := 6) sc_law.nd rfl (Or.inl rfl) (pe_op op_cat (pv 6) (pe_lst (pa_cons (pe_tup (pa_cons (pv 7) (pa_cons pe_int pa_nil))) (pa_cons (pe_tup (pa_cons (pe_op op_add (pv 7) pe_int) pa_nil)) (pa_cons (pe_tup (pa_cons (pv 7) (pa_cons pe_str pa_nil))) pa_nil))))))))) pss_nil)
      (pss_cons (ps_for PassesOwn.never rfl (pi_listK K (pv 2)) (pg_name (i := 8) sc_law.nd rfl (Or.inl rfl))
      (pss_one (ps_for PassesOwn.never rfl (pi_listK K (pv 2)) (pg_name (i := 9) sc_law.nd rfl (Or.inl rfl))
      (pss_one (ps_if (pt_not (pt_val (pe_c (ok_law_agrees T) hr (by decide) rfl (pa_cons (pe_c (ok_value_key T) hr (by decide) rfl (pa_cons (pv 8) pa_nil)) (pa_cons (pe_c (ok_value_key T) hr (by decide) rfl (pa_cons (pv 9) pa_nil)) (pa_cons (pe_c (ok_law_order T) hr (by decide) rfl (pa_cons (pe_tup (pa_cons (pv 8) pa_nil)) (pa_cons (pe_tup (pa_cons (pv 9) pa_nil)) pa_nil))) pa_nil)))))) (pss_one (ps_ret pe_bl)) pss_nil)))))
      (pss_cons (ps_for PassesOwn.never rfl (pi_listK K (pv 6)) (pg_name (i := 8) sc_law.nd rfl (Or.inl rfl))
      (pss_one (ps_for PassesOwn.never rfl (pi_listK K (pv 6)) (pg_name (i := 9) sc_law.nd rfl (Or.inl rfl))
      (pss_cons (ps_set (i := 10) sc_law.nd rfl (Or.inl rfl) (pe_c (ok_law_order T) hr (by decide) rfl (pa_cons (pv 8) (pa_cons (pv 9) pa_nil))))
      (pss_one (ps_if (PW.pt (pw_or (pt_not (pt_val (pe_c (ok_law_agrees T) hr (by decide) rfl (pa_cons (pe_c (ok_row_key T) hr (by decide) rfl (pa_cons (pv 8) pa_nil)) (pa_cons (pe_c (ok_row_key T) hr (by decide) rfl (pa_cons (pv 9) pa_nil)) (pa_cons (pv 10) pa_nil)))))) (pw_or1 (pt_not (pt_val (pe_c (ok_law_same T 3) hr (by decide) rfl (pa_cons (pe_c (ok_same_row T) hr (by decide) rfl (pa_cons (pv 8) (pa_cons (pv 9) pa_nil))) (pa_cons (pe_cmpR op_eq (pv 10) pe_int (nomark _)) pa_nil)))))))) (pss_one (ps_ret pe_bl)) pss_nil))))))
      (pss_cons (ps_set (i := 11) sc_law.nd rfl (Or.inl rfl) (pe_lst pa_nil))
      (pss_cons (ps_for PassesOwn.never rfl (pi_range1 rfl T.z_range (pa_cons (pe_c (ok_law_next T) hr (by decide) rfl (pa_cons (pv 1) (pa_cons pe_int pa_nil))) pa_nil)) (pg_name (i := 3) sc_law.nd rfl (Or.inl rfl))
      (pss_cons (ps_set (i := 12) sc_law.nd rfl (Or.inl rfl) (pe_c (ok_law_item T) hr (by decide) rfl (pa_cons (pv 1) pa_nil)))
      (pss_cons (ps_if (pt_not (pt_val (pe_c (ok_law_same T 3) hr (by decide) rfl (pa_cons (pe_c (ok_key_of T) hr (by decide) rfl (pa_cons (pv 12) pa_nil)) (pa_cons (pe_c (ok_law_key T) hr (by decide) rfl (pa_cons (pv 12) pa_nil)) pa_nil))))) (pss_one (ps_ret pe_bl)) pss_nil)
      (pss_one (ps_expr (pe_bm PySem.F.plainAttrs_list PySem.F.slot_list_append PySem.F.type_list_append mt_append (pv 11) (pa_cons (pe_c (ok_law_key T) hr (by decide) rfl (pa_cons (pv 12) pa_nil)) pa_nil)))))))
      (pss_cons (ps_for PassesOwn.never rfl (pi_listK K (pv 11)) (pg_name (i := 8) sc_law.nd rfl (Or.inl rfl))
      (pss_one (ps_for PassesOwn.never rfl (pi_listK K (pv 11)) (pg_name (i := 9) sc_law.nd rfl (Or.inl rfl))
      (pss_one (ps_if (pt_not (pt_val (pe_c (ok_law_agrees T) hr (by decide) rfl (pa_cons (pe_c (ok_key_order T) hr (by decide) rfl (pa_cons (pv 8) pa_nil)) (pa_cons (pe_c (ok_key_order T) hr (by decide) rfl (pa_cons (pv 9) pa_nil)) (pa_cons (pe_c (ok_law_key_order T) hr (by decide) rfl (pa_cons (pv 8) (pa_cons (pv 9) pa_nil))) pa_nil)))))) (pss_one (ps_ret pe_bl)) pss_nil)))))
      (pss_one (ps_ret pe_bl))))))))))))))), ?_⟩
  walk_at "k"
  walk_at "rd"
  refine rd_listL hS fun l0 hl0 => ?_
  walk_at "rd"
  refine ⟨szl (by simp), fun p hp => ?_⟩
  walk_at "rd"
  have hne : p ≠ l0 := fun e => by rw [e, upd_same] at hp; cases hp
  have s0 : StAt (upd (upd H l0 (.lst (ns.map V.int))) p (.lst [.ref l0, .int 0, .int 0, .int 1])) p l0 := ⟨⟨ns, 0, 0, 1, upd_same, by rw [upd_ne hne.symm, upd_same], by decide, by omega, by decide⟩, hne⟩
  generalize upd (upd H l0 (.lst (ns.map V.int))) p (.lst [.ref l0, .int 0, .int 0, .int 1]) = H0 at s0 ⊢
  refine rd_next s0 (by decide) (by decide) fun v1 H1 hv1 s1 e1 => ?_
  walk_at "rd"
  intro D hD
  refine q_lcAR (N := [p]) (M := [p]) (fun A => StAt A p l0) (fun _ e => ∃ x : Vl, e = vd x ∧ Sm 40 x) (by simp) s1.als hD (by omega) (fun _ => rfl) s1 (fun A o sA => s1.updN hD sA) (fun i H' hi sD e sA _ R k => ?_) fun H2 es e2 s2 r2 i2 => ?_
  · walk_at "rd"
    refine ⟨p, l0, rfl, sA, fun x H'' hx s2 e2 => ?_⟩
    exact k _ _ _ e2 s2 (is_vd x) ⟨x, rfl, hx⟩
  obtain ⟨vs, rfl, rc⟩ := r2.pick
  have hvl : vs.length ≤ 6 := by
    have z := rc.length
    rw [List.length_range] at z
    omega
  have hvs : BOK 40 vs := fun x hx => by obtain ⟨_, _, h⟩ := rc.mem hx; exact h
  clear rc r2
  walk_at "rd"
  intro D2 hD2
  refine q_lcF (M := [p]) id isS s2.als hD2 i2 (by rw [List.length_map]; omega) (fun _ => rfl) (fun x d H' hd sD e ix R kk => ?_) (fun x d H' hd hp2 sD e ix R kk => ?_) fun H3 e3 i3 => ?_
  · obtain ⟨v, hv, rfl⟩ := List.mem_map.mp hd
    cases ix.vdI
    cases v with
    | inl n =>
      unfold vv
      walk_at "rd"
      exact kk _ .refl
    | inr n =>
      unfold vv
      walk_at "rd"
      exact kk _ .refl
  · walk_at "rd"
    exact kk _ _ .refl ix
  walk_at "rd"
  refine rd_newL (M := [p]) (by walk_at "at") (by walk_at "all") (by simp) fun r4 H4 hr4 e4 _ i4 => ?_
  have hfl : ((vs.map vd).filter isS).length ≤ 6 := Nat.le_trans (List.length_filter_le _ _) (by rw [List.length_map]; exact hvl)
  have i3' : Is [p] H4 (.ref D2) (.list ((vs.map vd).filter isS)) := by
    rw [List.map_id] at i3
    exact at_is0 e4 i3
  refine rd_dcat (M := [p]) (by walk_at "at") i3' i4 (by rw [List.length_singleton]; omega) fun r5 H5 hr5 e5 _ i5 => ?_
  walk_at "rd"
  obtain ⟨stem, hst, hso⟩ : ∃ x : Str, ((vs.map vd).filter isS ++ [.str "ab"])[0]? = some (.str x) ∧ SOk 40 x := by
    cases e : (vs.map vd).filter isS with
    | nil => exact ⟨"ab", rfl, by decide, by decide⟩
    | cons d ds =>
      have hm : d ∈ (vs.map vd).filter isS := by rw [e]; exact List.mem_cons_self ..
      obtain ⟨h1, h2⟩ := List.mem_filter.mp hm
      obtain ⟨v, hv, rfl⟩ := List.mem_map.mp h1
      cases v with
      | inl n => cases h2
      | inr x => exact ⟨x, rfl, hvs _ hv⟩
  refine rd_dix i5 (j := 0) rfl hst fun sv isv => ?_
  cases isv
  walk_at "rd"
  refine ⟨stem, rfl, szL (Nat.le_trans hso.1 (by decide)), ?_⟩
  have hso' := hso.cut none (some 27)
  generalize cutS stem none (some 27) = stem' at hso' ⊢
  clear hso hst i5
  have s5 : StAt H5 p l0 := by walk_at "at"
  walk_at "rd"
  refine rd_sgn s5 fun c6 H6 hc6 s6 e6 => ?_
  refine rd_addS hso' (.one hc6) (by decide) fun ho6 => ?_
  walk_at "rd"
  refine rd_addS (j := "a") (m := 1) ho6 ⟨by decide, by decide⟩ (by decide) fun ho6' => ?_
  walk_at "rd"
  refine rd_sgn s6 fun c7 H7 hc7 s7 e7 => ?_
  refine rd_addS hso' (.one hc7) (by decide) fun ho7 => ?_
  walk_at "rd"
  generalize stem' ++ (⟨#[c6]⟩ : Str) ++ ("a" : Str) = t1 at ho6' ⊢
  generalize stem' ++ (⟨#[c7]⟩ : Str) = t2 at ho7 ⊢
  clear ho6
  refine rd_newL (M := [p]) s7.als (by walk_at "all") (by simp) fun r8 H8 hr8 e8 _ i8 => ?_
  have iD : Is [p] H8 (.ref D) (.list (vs.map vd)) := by walk_at "at"
  have i8' : Is [p] H8 (.ref r8) (.list ([Sum.inr t1, Sum.inr t2].map vd)) := i8
  refine rd_mcat (M := [p]) (by walk_at "at") iD i8' (by show vs.length + 2 ≤ _; omega) fun r9 H9 hr9 e9 _ i9 => ?_
  have hvs9 : BOK 100 (vs ++ [Sum.inr t1, Sum.inr t2]) := fun v hv => by
    rcases List.mem_append.mp hv with hv | hv
    · exact (hvs v hv).mono (by decide)
    · simp only [List.mem_cons, List.not_mem_nil, or_false] at hv
      rcases hv with rfl | rfl
      · exact SOk.mono ho6' (by decide)
      · exact SOk.mono ho7 (by decide)
  have hvl9 : (vs ++ [Sum.inr t1, Sum.inr t2]).length ≤ 8 := by rw [List.length_append]; show vs.length + 2 ≤ 8; omega
  have s9 : StAt H9 p l0 := by walk_at "at"
  generalize vs ++ [Sum.inr t1, Sum.inr t2] = vs2 at i9 hvs9 hvl9
  clear i8 i8' iD i3 i3' i4
  walk_at "rd"
  refine rd_mulS ⟨by decide, fun _ _ => by decide, fun _ _ => by decide⟩ ?_
  walk_at "rd"
  refine rd_sgn s9 fun c10 H10 hc10 s10 e10 => ?_
  refine rd_addS (i := Txt.mul "m" 29) (n := 29) ⟨by decide, by decide⟩ (.one hc10) (by decide) fun ho10 => ?_
  walk_at "rd"
  refine rd_mulS ⟨by decide, fun _ _ => by decide, fun _ _ => by decide⟩ ?_
  walk_at "rd"
  refine rd_sgn s10 fun c11 H11 hc11 s11 e11 => ?_
  refine rd_addS (i := Txt.mul "m" 29) (n := 29) ⟨by decide, by decide⟩ (.one hc11) (by decide) fun ho11 => ?_
  walk_at "rd"
  generalize Txt.mul "m" 29 ++ (⟨#[c10]⟩ : Str) = t3 at ho10 ⊢
  generalize Txt.mul "m" 29 ++ (⟨#[c11]⟩ : Str) = t4 at ho11 ⊢
  refine rd_newL (M := [p]) s11.als (by walk_at "all") (by simp) fun r12 H12 hr12 e12 _ i12 => ?_
  have iD : Is [p] H12 (.ref r9) (.list (vs2.map vd)) := by walk_at "at"
  have i12' : Is [p] H12 (.ref r12) (.list ([Sum.inr t3, Sum.inr t4].map vd)) := i12
  refine rd_mcat (M := [p]) (by walk_at "at") iD i12' (by show vs2.length + 2 ≤ _; omega) fun r13 H13 hr13 e13 _ i13 => ?_
  have hvs13 : BOK 100 (vs2 ++ [Sum.inr t3, Sum.inr t4]) := fun v hv => by
    rcases List.mem_append.mp hv with hv | hv
    · exact (hvs9 v hv).mono (by decide)
    · simp only [List.mem_cons, List.not_mem_nil, or_false] at hv
      rcases hv with rfl | rfl
      · exact SOk.mono ho10 (by decide)
      · exact SOk.mono ho11 (by decide)
  have hvl13 : (vs2 ++ [Sum.inr t3, Sum.inr t4]).length ≤ 10 := by rw [List.length_append]; show vs2.length + 2 ≤ 10; omega
  have s13 : StAt H13 p l0 := by walk_at "at"
  generalize vs2 ++ [Sum.inr t3, Sum.inr t4] = vs3 at i13 hvs13 hvl13
  clear i12 i12' iD i9
  walk_at "rd"
  refine rd_next s13 (by decide) (by decide) fun v14 H14 hv14 s14 e14 => ?_
  have i14 : Is [p] H14 (.ref r13) (.list (vs3.map vd)) := by walk_at "at"
  walk_at "rd"
  intro D15 hD15
  refine q_lcAR (N := [p]) (M := [p]) (fun A => StAt A p l0) (fun _ e => ∃ x : List Vl, e = rd1 x ∧ BOK 100 x ∧ x.length ≤ 10) (by simp) s14.als hD15 (by omega) (fun _ => rfl) s14 (fun A o sA => s14.updN hD15 sA) (fun i H' hi sD e sA _ R kk => ?_) fun H15 es e15 s15 r15 i15 => ?_
  · walk_at "rd"
    refine rd_newL (M := [D15, p]) sD (by walk_at "all") (by simp) fun r16 H16 hr16 e16 h16 _ => ?_
    walk_at "rd"
    refine rd_next (sA.ext0 e16) (by decide) (by decide) fun v17 H17 hv17 s17 e17 => ?_
    refine rd_pick (P := fun n => ∃ m : Nat, n = m ∧ 1 ≤ m ∧ m ≤ 10) (ns := [5, 5, 10]) (v := v17) (keepP e17 (sA.ne_new hr16) h16) (by simp; omega) (fun n hn => ?_) ?_
    · simp only [List.mem_cons, List.not_mem_nil, or_false] at hn
      rcases hn with rfl | rfl | rfl
      · exact ⟨5, rfl, by decide, by decide⟩
      · exact ⟨5, rfl, by decide, by decide⟩
      · exact ⟨10, rfl, by decide, by decide⟩
    rintro n ⟨m, rfl, hm, hm2⟩
    walk_at "rd"
    refine rd_next s17 (by omega) (by omega) fun v18 H18 hv18 s18 e18 => ?_
    walk_at "rd"
    have sD18 : Al [D15, p] H18 := ((sD.ext e16).ext e17).ext e18
    refine ⟨[D15, p], p, l0, v18, rfl, by omega, s18, sD18, by simp, fun r xs H19 hl hx s19 e19 i19 => ?_⟩
    exact kk _ _ _ (e16.any.trans (e17.trans (e18.trans e19))) s19 i19 ⟨xs, rfl, fun v hv => (hx v hv).mono (by decide), by omega⟩
  obtain ⟨rows, rfl, rc⟩ := r15.pick
  have hrl : rows.length ≤ 6 := by
    have z := rc.length
    rw [List.length_range] at z
    omega
  have hrows : ∀ xs ∈ rows, BOK 100 xs ∧ xs.length ≤ 10 := fun x hx => by obtain ⟨_, _, h⟩ := rc.mem hx; exact h
  clear rc r15
  have i15v : Is [D15, p] H15 (.ref r13) (.list (vs3.map vd)) := (i14.off hD15).mono (e15.more (by simp))
  have i15p := i15v.on
  obtain ⟨us, nD, hus, rus⟩ := i15.list
  have rus' := rows_off hus rus
  walk_at "rd"
  refine ⟨fun σ H' => ∃ rows' : List (List Vl), σ = [some (.ref a), some (.ref p), some (.ref r13), none, some (.str stem'), none, some (.ref D15), none, none, none, none, none, none] ∧ StAt H' p l0 ∧ Is [p] H' (.ref r13) (.list (vs3.map vd)) ∧ Is [p] H' (.ref D15) (.list (rows'.map rd1)) ∧ rows'.length ≤ 6 ∧ ∀ xs ∈ rows', BOK 100 xs ∧ xs.length ≤ 20, ?_, ?_⟩
  · walk_at "rd"
    refine rd_ite (fun c => ?_) (fun c => ?_)
    · have c' := of_decide_eq_true c
      have hul := rus.length
      rw [List.length_map] at hul
      have h0 : 0 < rows.length := by omega
      walk_at "rd"
      refine rd_mix i15 (j := 0) rfl (List.getElem?_eq_getElem h0) fun v0 j0 => ?_
      have j0' := row_off hus j0
      obtain ⟨pr0, ys0, rfl, _⟩ := j0.tupleV
      walk_at "rd"
      refine rd_next s15 (by decide) (by decide) fun v16 H16 hv16 s16 e16 => ?_
      walk_at "rd"
      refine ⟨[D15, p], p, l0, v16, rfl, by omega, s16, (Al.cons (some_ne hus) s15.als).ext e16, by simp, fun r xs H17 hl hx s17 e17 i17 => ?_⟩
      have em : Ext [D15, p] H15 H17 := (e16.trans e17).more (by simp)
      have j17 := j0'.mono em
      have hb0 := hrows _ (List.getElem_mem h0)
      refine rd_dcatT0 (M := [D15, p]) ((Al.cons (some_ne hus) s15.als).ext em) j17 i17 (by rw [List.length_map, List.length_map]; have := hb0.2; omega) fun pt H18 e18 i18 => ?_
      have hD : D15 ≠ p := fun z => nD (by rw [z]; simp)
      have em18 : Ext [p] H15 H18 := (e16.trans e17).trans e18.any
      walk_at "rd"
      refine rd_setL (j := 1) (em18.keep _ _ (by simpa using hD) hus) (by
        have z := rus.length
        rw [List.length_map] at z
        unfold ixN
        rw [if_pos (by decide), if_pos (by omega)]
        rfl) ?_
      have em' : Ext [D15, p] H15 (upd H18 D15 (.lst (us.set 1 (.ref pt)))) := (em18.more (by simp)).trans (.set (by simp))
      refine ⟨rows.set 1 (rows[0] ++ xs), rfl, ?_, (i15v.mono em').on, .lst nD upd_same ?_, by rw [List.length_set]; exact hrl, fun zs hz => ?_⟩
      · exact (s17.ext0 e18).ext (M := [D15]) (.set (by simp)) (by simpa using hD.symm) (fun z => by
          have z' : l0 = D15 := by simpa using z
          have q1 := hD15
          rw [← z'] at q1
          exact s14.al2 q1)
      · have rset := ((rus'.mono (em18.more (by simp) : Ext [D15, p] H15 H18)).set 1 i18).mono (.set (p := D15) (o := .lst (us.set 1 (.ref pt))) (by simp))
        have er : (rows.map rd1).set 1 (.tuple (rows[0].map vd ++ xs.map vd)) = (rows.set 1 (rows[0] ++ xs)).map rd1 := by rw [List.map_set, ← List.map_append]
        rw [er] at rset
        exact rset.on
      · rcases List.mem_or_eq_of_mem_set hz with hz | rfl
        · have := hrows _ hz
          exact ⟨this.1, by omega⟩
        · refine ⟨fun v hv => ?_, by rw [List.length_append]; have := hb0.2; omega⟩
          rcases List.mem_append.mp hv with hv | hv
          · exact hb0.1 v hv
          · exact (hx v hv).mono (by decide)
    · walk_at "rd"
      exact ⟨rows, rfl, s15, i15p, i15, hrl, fun xs hx => ⟨(hrows xs hx).1, by have := (hrows xs hx).2; omega⟩⟩
  clear hrows hrl i15 i15v i15p hus rus rus' nD e15 s15 hD15
  rintro σ H20 ⟨rows, rfl, s20, iv20, ir20, hrl, hrows⟩
  walk_at "rd"
  refine ⟨fun σ H' => ∃ (rv rr : Addr) (vs : List Vl) (rows' : List (List Vl)) (u : Option V), σ = [some (.ref a), some (.ref p), some (.ref rv), none, some (.str stem'), none, some (.ref rr), u, none, none, none, none, none] ∧ StAt H' p l0 ∧ Is [p] H' (.ref rv) (.list (vs.map vd)) ∧ Is [p] H' (.ref rr) (.list (rows'.map rd1)) ∧ vs.length ≤ 20 ∧ BOK 100 vs ∧ rows'.length ≤ 20 ∧ ∀ xs ∈ rows', BOK 100 xs ∧ xs.length ≤ 20, ?_, ?_⟩
  · walk_at "rd"
    refine rd_next s20 (by decide) (by decide) fun v21 H21 hv21 s21 e21 => ?_
    have iv21 : Is [p] H21 (.ref r13) (.list (vs3.map vd)) := by walk_at "at"
    have ir21 : Is [p] H21 (.ref D15) (.list (rows.map rd1)) := by walk_at "at"
    walk_at "rd"
    refine rd_ite (fun c => ?_) (fun c => ?_)
    · walk_at "rd"
      refine ⟨p, l0, rfl, s21, fun n H22 s22 e22 => ?_⟩
      walk_at "rd"
      refine ⟨p, l0, rfl, s22, fun n2 H23 s23 e23 => ?_⟩
      walk_at "rd"
      refine rd_newL (M := [p]) s23.als (by walk_at "all") (by simp) fun r24 H24 hr24 e24 _ i24 => ?_
      have iv24 : Is [p] H24 (.ref r13) (.list (vs3.map vd)) := by walk_at "at"
      have i24' : Is [p] H24 (.ref r24) (.list ([Sum.inl n, Sum.inl (n + 1), Sum.inl n2].map vd)) := i24
      have s24 : StAt H24 p l0 := by walk_at "at"
      refine rd_mcat (M := [p]) s24.als iv24 i24' (by show vs3.length + 3 ≤ _; omega) fun r25 H25 hr25 e25 _ i25 => ?_
      walk_at "rd"
      have s25 : StAt H25 p l0 := by walk_at "at"
      have ir25 : Is [p] H25 (.ref D15) (.list (rows.map rd1)) := by walk_at "at"
      refine rd_newT (M := [p]) s25.als (by walk_at "all") (by simp) fun t26 H26 ht26 e26 _ i26 => ?_
      walk_at "rd"
      refine rd_newT (M := [p]) (by walk_at "at") (by walk_at "all") (by simp) fun t27 H27 ht27 e27 _ i27 => ?_
      walk_at "rd"
      refine rd_newT (M := [p]) (by walk_at "at") (by walk_at "all") (by simp) fun t28 H28 ht28 e28 _ i28 => ?_
      walk_at "rd"
      refine rd_newL (M := [p]) (by walk_at "at") (by walk_at "all") (by simp) fun r29 H29 hr29 e29 _ i29 => ?_
      have ir29 : Is [p] H29 (.ref D15) (.list (rows.map rd1)) := by walk_at "at"
      have i29' : Is [p] H29 (.ref r29) (.list (([[Sum.inl n, Sum.inl 1], [Sum.inl (n + 1)], [Sum.inl n, Sum.inr "a"]] : List (List Vl)).map rd1)) := i29
      refine rd_mcat (M := [p]) (by walk_at "at") ir29 i29' (by show rows.length + 3 ≤ _; omega) fun r30 H30 hr30 e30 _ i30 => ?_
      walk_at "rd"
      have ha : SOk 100 ("a" : Str) := ⟨by decide, by decide⟩
      refine ⟨r25, r30, _, _, _, rfl, by walk_at "at", by walk_at "at", i30, by rw [List.length_append]; show vs3.length + 3 ≤ 20; omega, fun v hv => ?_, by rw [List.length_append]; show rows.length + 3 ≤ 20; omega, fun xs hx => ?_⟩
      · rcases List.mem_append.mp hv with hv | hv
        · exact hvs13 v hv
        · simp only [List.mem_cons, List.not_mem_nil, or_false] at hv
          rcases hv with rfl | rfl | rfl <;> trivial
      · rcases List.mem_append.mp hx with hx | hx
        · exact hrows xs hx
        · simp only [List.mem_cons, List.not_mem_nil, or_false] at hx
          rcases hx with rfl | rfl | rfl
          · refine ⟨fun v hv => ?_, by simp⟩
            simp only [List.mem_cons, List.not_mem_nil, or_false] at hv
            rcases hv with rfl | rfl <;> trivial
          · refine ⟨fun v hv => ?_, by simp⟩
            simp only [List.mem_cons, List.not_mem_nil, or_false] at hv
            rcases hv with rfl
            trivial
          · refine ⟨fun v hv => ?_, by simp⟩
            simp only [List.mem_cons, List.not_mem_nil, or_false] at hv
            rcases hv with rfl | rfl
            · trivial
            · exact ha
    · walk_at "rd"
      exact ⟨r13, D15, vs3, rows, none, rfl, s21, iv21, ir21, by omega, hvs13, by omega, hrows⟩
  clear hrows hrl ir20 iv20 s20
  rintro σ H30 ⟨rv, rr, vs, rows, ug, rfl, s30, iv30, ir30, hvl, hvs, hrl, hrows⟩
  walk_at "rd"
  -- values, each two
  refine q_dataM (M := [p]) (L := vs) iv30 (fun i σ H' => ∃ u8 u9, σ = [some (.ref a), some (.ref p), some (.ref rv), none, some (.str stem'), none, some (.ref rr), ug, u8, u9, none, none, none] ∧ Ext [p] H30 H' ∧ StAt H' p l0) ⟨none, none, rfl, .refl, s30⟩ (fun i σ H' h => by obtain ⟨_, _, _, e, _⟩ := h; exact e) ?_ ?_
  · rintro i x v σ H31 hx ix ⟨u8, u9, rfl, e31, s31⟩
    cases ix.vdI
    walk_at "rd"
    have iv31 : Is [p] H31 (.ref rv) (.list (vs.map vd)) := by walk_at "at"
    walk_at "rd"
    refine q_dataM (M := [p]) (L := vs) iv31 (fun i σ H' => ∃ u9, σ = [some (.ref a), some (.ref p), some (.ref rv), none, some (.str stem'), none, some (.ref rr), ug, some (vv x), u9, none, none, none] ∧ Ext [p] H31 H' ∧ StAt H' p l0) ⟨_, rfl, .refl, s31⟩ (fun i σ H' h => by obtain ⟨_, _, e, _⟩ := h; exact e) ?_ ?_
    · rintro j y vy σ H32 hy iy ⟨u9, rfl, e32, s32⟩
      cases iy.vdI
      have bx : Sm 100 x := hvs x (List.mem_of_getElem? hx)
      have bY : Sm 100 y := hvs y (List.mem_of_getElem? hy)
      walk_at "rd"
      refine ⟨[p], x, rfl, s32.als, fun p1 H33 e33 i33 => ?_⟩
      have s33 : StAt H33 p l0 := by walk_at "at"
      walk_at "rd"
      refine ⟨[p], y, rfl, s33.als, fun p2 H34 e34 i34 => ?_⟩
      have s34 : StAt H34 p l0 := by walk_at "at"
      have jx : Is [p] H34 (vv x) (vd x) := is_vd x
      have jy : ∀ H, Is [p] H (vv y) (vd y) := fun H => is_vd y
      walk_at "rd"
      refine rd_newT (M := [p]) s34.als (.one jx) (by simp) fun t1 H35 ht1 e35 _ i35 => ?_
      have s35 : StAt H35 p l0 := by walk_at "at"
      walk_at "rd"
      refine rd_newT (M := [p]) s35.als (.one (jy _)) (by simp) fun t2 H36 ht2 e36 _ i36 => ?_
      have s36 : StAt H36 p l0 := by walk_at "at"
      walk_at "rd"
      refine ⟨[p], t1, t2, [x], [y], rfl, at_is0 e36 i35, i36, by simp, by simp, ?_⟩
      rw [cl_one]
      walk_at "rd"
      refine rd_agrees (M := [p]) (M' := [p]) 1 rfl (tg_tup x) (tg_tup y) (by walk_at "at") (by walk_at "at") (tg_cm x y) (sh_tg bx) (sh_tg bY) (by decide) fun H37 e37 => ?_
      walk_at "rd"
      exact ⟨_, rfl, by walk_at "at", by walk_at "at"⟩
    · rintro σ H38 ⟨u9, rfl, e38, s38⟩
      exact ⟨_, _, rfl, e31.trans e38, s38⟩
  rintro σ H40 ⟨u8, u9, rfl, e40, s40⟩
  have ir40 : Is [p] H40 (.ref rr) (.list (rows.map rd1)) := by walk_at "at"
  clear iv30 hvs hvl
  walk_at "rd"
  -- rows, each two
  refine q_dataM (M := [p]) (L := rows) ir40 (fun i σ H' => ∃ u8 u9 u10, σ = [some (.ref a), some (.ref p), some (.ref rv), none, some (.str stem'), none, some (.ref rr), ug, u8, u9, u10, none, none] ∧ Ext [p] H40 H' ∧ StAt H' p l0) ⟨_, _, _, rfl, .refl, s40⟩ (fun i σ H' h => by obtain ⟨_, _, _, _, e, _⟩ := h; exact e) ?_ ?_
  · rintro i xs v σ H41 hx ix ⟨u8, u9, u10, rfl, e41, s41⟩
    have bx := hrows xs (List.mem_of_getElem? hx)
    have ix41 : Is [p] H41 v (rd1 xs) := by walk_at "at"
    obtain ⟨px, zs, rfl, _⟩ := ix41.tupleV
    walk_at "rd"
    have ir41 : Is [p] H41 (.ref rr) (.list (rows.map rd1)) := by walk_at "at"
    walk_at "rd"
    refine q_dataM (M := [p]) (L := rows) ir41 (fun i σ H' => ∃ u9 u10, σ = [some (.ref a), some (.ref p), some (.ref rv), none, some (.str stem'), none, some (.ref rr), ug, some (.ref px), u9, u10, none, none] ∧ Ext [p] H41 H' ∧ StAt H' p l0) ⟨_, _, rfl, .refl, s41⟩ (fun i σ H' h => by obtain ⟨_, _, _, e, _⟩ := h; exact e) ?_ ?_
    · rintro j ys vy σ H42 hy iy ⟨u9, u10, rfl, e42, s42⟩
      have bY := hrows ys (List.mem_of_getElem? hy)
      have iy42 : Is [p] H42 vy (rd1 ys) := by walk_at "at"
      have ix42 : Is [p] H42 (.ref px) (rd1 xs) := by walk_at "at"
      obtain ⟨py, zs2, rfl, _⟩ := iy42.tupleV
      walk_at "rd"
      refine ⟨[p], px, py, xs, ys, rfl, ix42, iy42, by have := bx.2; omega, by have := bY.2; omega, ?_⟩
      walk_at "rd"
      refine ⟨[p], px, xs, rfl, s42.als, ix42, by have := bx.2; omega, fun p1 H43 e43 i43 => ?_⟩
      have s43 : StAt H43 p l0 := by walk_at "at"
      have iy43 : Is [p] H43 (.ref py) (rd1 ys) := by walk_at "at"
      walk_at "rd"
      refine ⟨[p], py, ys, rfl, s43.als, iy43, by have := bY.2; omega, fun p2 H44 e44 i44 => ?_⟩
      walk_at "rd"
      refine rd_agrees (M := [p]) (M' := [p]) 2 rfl rfl rfl (by walk_at "at") (by walk_at "at") (row_cm xs ys) (sh_rowT bx.1) (sh_rowT bY.1) (by decide) fun H45 e45 => ?_
      have s45 : StAt H45 p l0 := by walk_at "at"
      have iy45 : Is [p] H45 (.ref py) (rd1 ys) := by walk_at "at"
      have ix45 : Is [p] H45 (.ref px) (rd1 xs) := by walk_at "at"
      walk_at "rd"
      refine ⟨[p], 100, px, py, xs, ys, rfl, s45.als, ix45, iy45, by have := bx.2; omega, by have := bY.2; omega, bx.1, bY.1, fun H46 e46 => ?_⟩
      walk_at "rd"
      rw [oi_eq]
      refine rd_same (M := []) (M' := []) (.bl _) (.bl _) (.bl _) ?_
      walk_at "rd"
      exact ⟨_, _, rfl, by walk_at "at", by walk_at "at"⟩
    · rintro σ H48 ⟨u9, u10, rfl, e48, s48⟩
      exact ⟨_, _, _, rfl, e41.trans e48, s48⟩
  rintro σ H50 ⟨u8, u9, u10, rfl, e50, s50⟩
  clear ir40 ir30 hrows hrl e40
  -- keys
  walk_at "rd"
  refine ⟨szl (by simp), fun D51 hD51 => ?_⟩
  walk_at "rd"
  have m51 : MadeN [p] [p] H50 D51 [] (upd H50 D51 (.lst [])) := MadeN.start (by simp) s50.als hD51
  have s51 : StAt (upd H50 D51 (.lst [])) p l0 := s50.updN hD51 s50
  refine rd_next s51 (by decide) (by decide) fun v52 H52 hv52 s52 e52 => ?_
  walk_at "rd"
  have m52 := m51.go e52
  refine q_range (fun i σ H' => ∃ (u3 u12 : Option V) (ks : List Ky), σ = [some (.ref a), some (.ref p), some (.ref rv), u3, some (.str stem'), none, some (.ref rr), ug, u8, u9, u10, some (.ref D51), u12] ∧ StAt H' p l0 ∧ MadeN [p] [p] H50 D51 (ks.map Ky.d) H' ∧ ks.length ≤ i ∧ ∀ k ∈ ks, k.Sm) ⟨_, _, [], rfl, s52, m52, by simp, by simp⟩ ?_ ?_
  · rintro i σ H53 hi ⟨u3, u12, ks, rfl, s53, m53, hkl, hks⟩
    have al53 := m53.al s50.als
    walk_at "rd"
    refine ⟨[D51, p], p, l0, rfl, s53, al53, by simp, fun r kd nm ds H54 hkd hnm hf s54 e54 i54 => ?_⟩
    have al54 := al53.ext e54
    have hf' : kd = "fact" → ds ≠ [] := fun z => by
      obtain ⟨rs, rfl, _⟩ := hf z
      exact fun z => nomatch z
    obtain ⟨kk, hkk, hsm⟩ : ∃ kk : Ky, itk kd nm ds = kk.d ∧ kk.Sm := by
      by_cases e : kd = "fact"
      · obtain ⟨rs, rfl, h1, h2⟩ := hf e
        exact ⟨⟨1, nm, rs⟩, if_pos e, hnm.mono (by decide), fun v hv => (h1 v hv).mono (by decide), by show rs.length ≤ 1000; omega⟩
      · exact ⟨⟨WD.idxOf kd, nm, []⟩, if_neg e, hnm.mono (by decide), (fun v hv => nomatch hv), Nat.zero_le _⟩
    walk_at "rd"
    refine ⟨[D51, p], r, kd, nm, ds, rfl, al54, hkd, i54, hf', fun q1 H55 e55 i55 => ?_⟩
    have i54' : Is [D51, p] H55 (.ref r) (.tuple (.str kd :: .str nm :: ds)) := at_is0 e55 i54
    walk_at "rd"
    refine ⟨[D51, p], r, kd, nm, ds, rfl, al54.ext e55, hkd, i54', hf', fun q2 H56 e56 i56 => ?_⟩
    rw [hkk] at i55 i56
    walk_at "rd"
    refine rd_same (at_is0 e56 i55) i56 (n := 3) ?_ ?_
    · exact ⟨(sh_kd hsm).1, Nat.le_trans (sh_kd hsm).2 (by decide)⟩
    walk_at "rd"
    have e57 : Ext [p] H53 H56 := (e54.trans e55.any).trans e56.any
    have m57 := m53.go e57
    obtain ⟨ys, hys⟩ := m57.lst
    refine rd_app hys ?_
    walk_at "rd"
    have i56' : Is [D51, p] H56 (.ref r) (.tuple (.str kd :: .str nm :: ds)) := at_is0 e56 i54'
    refine ⟨[D51, p], r, kd, nm, ds, rfl, (al54.ext e55).ext e56, hkd, i56', hf', fun q3 H58 e58 i58 => ?_⟩
    rw [hkk] at i58
    refine rd_appE m57 e58.any i58 (by rw [List.length_map]; omega) fun acc m59 => ?_
    refine ⟨_, _, ks ++ [kk], rfl, ?_, by rw [List.map_append]; exact m59, by rw [List.length_append]; show ks.length + 1 ≤ i + 1; omega, fun k hk => ?_⟩
    · exact s50.updN hD51 (s54.ext0 (e55.trans (e56.trans e58)))
    · rcases List.mem_append.mp hk with hk | hk
      · exact hks k hk
      · rw [List.mem_singleton.mp hk]; exact hsm
  rintro σ H60 ⟨u3, u12, ks, rfl, s60, m60, hkl, hks⟩
  have ik60 : Is [p] H60 (.ref D51) (.list (ks.map Ky.d)) := m60.is
  walk_at "rd"
  refine q_dataM (M := [p]) (L := ks) ik60 (fun i σ H' => ∃ u8 u9, σ = [some (.ref a), some (.ref p), some (.ref rv), u3, some (.str stem'), none, some (.ref rr), ug, u8, u9, u10, some (.ref D51), u12] ∧ Ext [p] H60 H' ∧ StAt H' p l0) ⟨_, _, rfl, .refl, s60⟩ (fun i σ H' h => by obtain ⟨_, _, _, e, _⟩ := h; exact e) ?_ ?_
  · rintro i k1 v σ H61 hx ix ⟨u8, u9, rfl, e61, s61⟩
    have bx := hks k1 (List.mem_of_getElem? hx)
    have ix61 : Is [p] H61 v k1.d := by walk_at "at"
    obtain ⟨px, zs, rfl, _⟩ := ix61.tupleV
    have ik61 : Is [p] H61 (.ref D51) (.list (ks.map Ky.d)) := by walk_at "at"
    walk_at "rd"
    refine q_dataM (M := [p]) (L := ks) ik61 (fun i σ H' => ∃ u9, σ = [some (.ref a), some (.ref p), some (.ref rv), u3, some (.str stem'), none, some (.ref rr), ug, some (.ref px), u9, u10, some (.ref D51), u12] ∧ Ext [p] H61 H' ∧ StAt H' p l0) ⟨_, rfl, .refl, s61⟩ (fun i σ H' h => by obtain ⟨_, _, e, _⟩ := h; exact e) ?_ ?_
    · rintro j k2 vy σ H62 hy iy ⟨u9, rfl, e62, s62⟩
      have bY := hks k2 (List.mem_of_getElem? hy)
      have iy62 : Is [p] H62 vy k2.d := by walk_at "at"
      have ix62 : Is [p] H62 (.ref px) k1.d := by walk_at "at"
      obtain ⟨py, zs2, rfl, _⟩ := iy62.tupleV
      walk_at "rd"
      refine ⟨[p], px, k1, rfl, s62.als, ix62, Nat.le_trans bx.2.2 (by decide), fun p1 H63 e63 i63 => ?_⟩
      have s63 : StAt H63 p l0 := by walk_at "at"
      have iy63 : Is [p] H63 (.ref py) k2.d := by walk_at "at"
      walk_at "rd"
      refine ⟨[p], py, k2, rfl, s63.als, iy63, Nat.le_trans bY.2.2 (by decide), fun p2 H64 e64 i64 => ?_⟩
      have s64 : StAt H64 p l0 := by walk_at "at"
      have iy64 : Is [p] H64 (.ref py) k2.d := by walk_at "at"
      have ix64 : Is [p] H64 (.ref px) k1.d := by walk_at "at"
      walk_at "rd"
      refine ⟨[p], px, py, k1, k2, rfl, s64.als, ix64, iy64, bx, bY, fun H65 e65 => ?_⟩
      walk_at "rd"
      have i63' : Is [p] H65 (.ref p1) k1.o := by walk_at "at"
      have i64' : Is [p] H65 (.ref p2) k2.o := by walk_at "at"
      refine rd_agrees (M := [p]) (M' := [p]) 3 rfl rfl rfl i63' i64' (ck_cm k1 k2) (sh_ko bx) (sh_ko bY) (by decide) fun H66 e66 => ?_
      walk_at "rd"
      exact ⟨_, rfl, by walk_at "at", by walk_at "at"⟩
    · rintro σ H68 ⟨u9, rfl, e68, s68⟩
      exact ⟨_, _, rfl, e61.trans e68, s68⟩
  rintro σ H70 ⟨u8, u9, rfl, e70, s70⟩
  walk_at "rd"
  exact k _
end
def d_value_key : He.DefD := ⟨("value_key", none), "value_key", "value_key", defArgs s_value_key, defBody s_value_key, defScope s_value_key, [], []⟩
def d_row_key : He.DefD := ⟨("row_key", none), "row_key", "row_key", defArgs s_row_key, defBody s_row_key, defScope s_row_key, [], []⟩
def d_same_row : He.DefD := ⟨("same_row", none), "same_row", "same_row", defArgs s_same_row, defBody s_same_row, defScope s_same_row, [], []⟩
def d_key_of : He.DefD := ⟨("key_of", none), "key_of", "key_of", defArgs s_key_of, defBody s_key_of, defScope s_key_of, [], []⟩
def d_key_order : He.DefD := ⟨("key_order", none), "key_order", "key_order", defArgs s_key_order, defBody s_key_order, defScope s_key_order, [], []⟩
def d_law_next : He.DefD := ⟨("_law_next", none), "_law_next", "_law_next", defArgs s_law_next, defBody s_law_next, defScope s_law_next, [], []⟩
def d_law_same : He.DefD := ⟨("_law_same", none), "_law_same", "_law_same", defArgs s_law_same, defBody s_law_same, defScope s_law_same, [], []⟩
def d_law_characters : He.DefD := ⟨("_law_characters", none), "_law_characters", "_law_characters", defArgs s_law_characters, defBody s_law_characters, defScope s_law_characters, [], []⟩
def d_law_value : He.DefD := ⟨("_law_value", none), "_law_value", "_law_value", defArgs s_law_value, defBody s_law_value, defScope s_law_value, [], []⟩
def d_law_row : He.DefD := ⟨("_law_row", none), "_law_row", "_law_row", defArgs s_law_row, defBody s_law_row, defScope s_law_row, [], []⟩
def d_law_name : He.DefD := ⟨("_law_name", none), "_law_name", "_law_name", defArgs s_law_name, defBody s_law_name, defScope s_law_name, [], []⟩
def d_law_term : He.DefD := ⟨("_law_term", none), "_law_term", "_law_term", defArgs s_law_term, defBody s_law_term, defScope s_law_term, [], []⟩
def d_law_terms : He.DefD := ⟨("_law_terms", none), "_law_terms", "_law_terms", defArgs s_law_terms, defBody s_law_terms, defScope s_law_terms, [], []⟩
def d_law_literal : He.DefD := ⟨("_law_literal", none), "_law_literal", "_law_literal", defArgs s_law_literal, defBody s_law_literal, defScope s_law_literal, [], []⟩
def d_law_body : He.DefD := ⟨("_law_body", none), "_law_body", "_law_body", defArgs s_law_body, defBody s_law_body, defScope s_law_body, [], []⟩
def d_law_item : He.DefD := ⟨("_law_item", none), "_law_item", "_law_item", defArgs s_law_item, defBody s_law_item, defScope s_law_item, [], []⟩
def d_law_before : He.DefD := ⟨("_law_before", none), "_law_before", "_law_before", defArgs s_law_before, defBody s_law_before, defScope s_law_before, [], []⟩
def d_law_order : He.DefD := ⟨("_law_order", none), "_law_order", "_law_order", defArgs s_law_order, defBody s_law_order, defScope s_law_order, [], []⟩
def d_law_key : He.DefD := ⟨("_law_key", none), "_law_key", "_law_key", defArgs s_law_key, defBody s_law_key, defScope s_law_key, [], []⟩
def d_law_key_order : He.DefD := ⟨("_law_key_order", none), "_law_key_order", "_law_key_order", defArgs s_law_key_order, defBody s_law_key_order, defScope s_law_key_order, [], []⟩
def d_law_agrees : He.DefD := ⟨("_law_agrees", none), "_law_agrees", "_law_agrees", defArgs s_law_agrees, defBody s_law_agrees, defScope s_law_agrees, [], []⟩
def d_law_great : He.DefD := ⟨("_law_great", none), "_law_great", "_law_great", defArgs s_law_great, defBody s_law_great, defScope s_law_great, [], []⟩
def d_law : He.DefD := ⟨("law", none), "law", "law", defArgs s_law, defBody s_law, defScope s_law, [], []⟩
def fn : List He.DefD := [d_value_key, d_row_key, d_same_row, d_key_of, d_key_order, d_law_next, d_law_same, d_law_characters, d_law_value, d_law_row, d_law_name, d_law_term, d_law_terms, d_law_literal, d_law_body, d_law_item, d_law_before, d_law_order, d_law_key, d_law_key_order, d_law_agrees, d_law_great, d_law]
def fa : List He.Fa := [.glo "value_key", .glo "row_key", .glo "same_row", .glo "key_of", .glo "key_order", .glo "_law_next", .glo "_law_same", .glo "_law_characters", .glo "_law_value", .glo "_law_row", .glo "_law_name", .glo "_law_term", .glo "_law_terms", .glo "_law_literal", .glo "_law_body", .glo "_law_item", .glo "_law_before", .glo "_law_order", .glo "_law_key", .glo "_law_key_order", .glo "_law_agrees", .glo "_law_great", .glo "law", .glo "WORDS", .free "bool", .free "int", .free "isinstance", .free "len", .free "list", .free "min", .free "range", .free "str", .free "tuple"]
def exs : List (PySem.W.Frag → Bool) := [fun K => He.tupB K "WORDS" [.str "relation", .str "fact", .str "rule", .str "denial"], fun K => tnB K "WORDS"]
def ex (K : PySem.W.Frag) : Bool := exs.all fun f => f K
theorem txt_of {K : PySem.W.Frag} {h : Heap} {mg : Str → Option Value} (X : K.In h) (G : h.Ns mainGlobals mg) (c : He.SaysD fa fn K) (cx : ex K = true) : Txt K mg where
  f_value_key := by obtain ⟨fd, F⟩ := c.def_ 0 (d := d_value_key) rfl; exact ⟨_, fd, F, He.glo_ok X G (c.fact 0 (f := .glo "value_key") rfl)⟩
  f_row_key := by obtain ⟨fd, F⟩ := c.def_ 1 (d := d_row_key) rfl; exact ⟨_, fd, F, He.glo_ok X G (c.fact 1 (f := .glo "row_key") rfl)⟩
  f_same_row := by obtain ⟨fd, F⟩ := c.def_ 2 (d := d_same_row) rfl; exact ⟨_, fd, F, He.glo_ok X G (c.fact 2 (f := .glo "same_row") rfl)⟩
  f_key_of := by obtain ⟨fd, F⟩ := c.def_ 3 (d := d_key_of) rfl; exact ⟨_, fd, F, He.glo_ok X G (c.fact 3 (f := .glo "key_of") rfl)⟩
  f_key_order := by obtain ⟨fd, F⟩ := c.def_ 4 (d := d_key_order) rfl; exact ⟨_, fd, F, He.glo_ok X G (c.fact 4 (f := .glo "key_order") rfl)⟩
  f_law_next := by obtain ⟨fd, F⟩ := c.def_ 5 (d := d_law_next) rfl; exact ⟨_, fd, F, He.glo_ok X G (c.fact 5 (f := .glo "_law_next") rfl)⟩
  f_law_same := by obtain ⟨fd, F⟩ := c.def_ 6 (d := d_law_same) rfl; exact ⟨_, fd, F, He.glo_ok X G (c.fact 6 (f := .glo "_law_same") rfl)⟩
  f_law_characters := by obtain ⟨fd, F⟩ := c.def_ 7 (d := d_law_characters) rfl; exact ⟨_, fd, F, He.glo_ok X G (c.fact 7 (f := .glo "_law_characters") rfl)⟩
  f_law_value := by obtain ⟨fd, F⟩ := c.def_ 8 (d := d_law_value) rfl; exact ⟨_, fd, F, He.glo_ok X G (c.fact 8 (f := .glo "_law_value") rfl)⟩
  f_law_row := by obtain ⟨fd, F⟩ := c.def_ 9 (d := d_law_row) rfl; exact ⟨_, fd, F, He.glo_ok X G (c.fact 9 (f := .glo "_law_row") rfl)⟩
  f_law_name := by obtain ⟨fd, F⟩ := c.def_ 10 (d := d_law_name) rfl; exact ⟨_, fd, F, He.glo_ok X G (c.fact 10 (f := .glo "_law_name") rfl)⟩
  f_law_term := by obtain ⟨fd, F⟩ := c.def_ 11 (d := d_law_term) rfl; exact ⟨_, fd, F, He.glo_ok X G (c.fact 11 (f := .glo "_law_term") rfl)⟩
  f_law_terms := by obtain ⟨fd, F⟩ := c.def_ 12 (d := d_law_terms) rfl; exact ⟨_, fd, F, He.glo_ok X G (c.fact 12 (f := .glo "_law_terms") rfl)⟩
  f_law_literal := by obtain ⟨fd, F⟩ := c.def_ 13 (d := d_law_literal) rfl; exact ⟨_, fd, F, He.glo_ok X G (c.fact 13 (f := .glo "_law_literal") rfl)⟩
  f_law_body := by obtain ⟨fd, F⟩ := c.def_ 14 (d := d_law_body) rfl; exact ⟨_, fd, F, He.glo_ok X G (c.fact 14 (f := .glo "_law_body") rfl)⟩
  f_law_item := by obtain ⟨fd, F⟩ := c.def_ 15 (d := d_law_item) rfl; exact ⟨_, fd, F, He.glo_ok X G (c.fact 15 (f := .glo "_law_item") rfl)⟩
  f_law_before := by obtain ⟨fd, F⟩ := c.def_ 16 (d := d_law_before) rfl; exact ⟨_, fd, F, He.glo_ok X G (c.fact 16 (f := .glo "_law_before") rfl)⟩
  f_law_order := by obtain ⟨fd, F⟩ := c.def_ 17 (d := d_law_order) rfl; exact ⟨_, fd, F, He.glo_ok X G (c.fact 17 (f := .glo "_law_order") rfl)⟩
  f_law_key := by obtain ⟨fd, F⟩ := c.def_ 18 (d := d_law_key) rfl; exact ⟨_, fd, F, He.glo_ok X G (c.fact 18 (f := .glo "_law_key") rfl)⟩
  f_law_key_order := by obtain ⟨fd, F⟩ := c.def_ 19 (d := d_law_key_order) rfl; exact ⟨_, fd, F, He.glo_ok X G (c.fact 19 (f := .glo "_law_key_order") rfl)⟩
  f_law_agrees := by obtain ⟨fd, F⟩ := c.def_ 20 (d := d_law_agrees) rfl; exact ⟨_, fd, F, He.glo_ok X G (c.fact 20 (f := .glo "_law_agrees") rfl)⟩
  f_law_great := by obtain ⟨fd, F⟩ := c.def_ 21 (d := d_law_great) rfl; exact ⟨_, fd, F, He.glo_ok X G (c.fact 21 (f := .glo "_law_great") rfl)⟩
  f_law := by obtain ⟨fd, F⟩ := c.def_ 22 (d := d_law) rfl; exact ⟨_, fd, F, He.glo_ok X G (c.fact 22 (f := .glo "law") rfl)⟩
  t_WORDS := ⟨He.glo_ok X G (c.fact 23 (f := .glo "WORDS") rfl), fun H => He.tupB_ok (ex_at (exs := exs) cx 0) H⟩
  z_bool := He.free_ok X G (c.fact 24 (f := .free "bool") rfl)
  z_int := He.free_ok X G (c.fact 25 (f := .free "int") rfl)
  z_isinstance := He.free_ok X G (c.fact 26 (f := .free "isinstance") rfl)
  z_len := He.free_ok X G (c.fact 27 (f := .free "len") rfl)
  z_list := He.free_ok X G (c.fact 28 (f := .free "list") rfl)
  z_min := He.free_ok X G (c.fact 29 (f := .free "min") rfl)
  z_range := He.free_ok X G (c.fact 30 (f := .free "range") rfl)
  z_str := He.free_ok X G (c.fact 31 (f := .free "str") rfl)
  z_tuple := He.free_ok X G (c.fact 32 (f := .free "tuple") rfl)
  d_WORDS := tnB_ok (ex_at (exs := exs) cx 1)
def loose : List Str := (["WORDS", "value_key", "row_key", "same_row", "key_of", "key_order", "_law_next", "_law_same", "_law_characters", "_law_value", "_law_row", "_law_name", "_law_term", "_law_terms", "_law_literal", "_law_body", "_law_item", "_law_before", "_law_order", "_law_key", "_law_key_order", "_law_agrees", "_law_great"] : List Str)
abbrev R : PySem.W.OpenRow := PySem.W.OpenLaw.row PySem.Challenge.rw_steadwhole_k45_values_rows_and_keys
abbrev hk : PySem.W.Hook := hookX 5 fa fn ex
def ob (s : PySem.W.SharedT) : He.AlD × Bool := obsX 5 fa fn ex (HandSHeadRun.getT s)
theorem ob_eq (s : PySem.W.SharedT) : ob s = hk.obs s.abs := obsX_eq (HandSHeadRun.getT_eq s)
theorem run (w : World) : HandSHeadRun.RunEq R (PySem.W.view R.prog [25]) hk ob 2000 loose w := by
  intro os
  kernel_rfl
end Z
open PySem PySem.W PySem.Calls PyProof.Rows
theorem PySem.Challenge.cw_steadwhole_k45_values_rows_and_keys_holds : PySem.Challenge.rw_steadwhole_k45_values_rows_and_keys.Holds := by
  w_on; o_law
  refine HandSHeadRun.head_any (r := OpenLaw.row PySem.Challenge.rw_steadwhole_k45_values_rows_and_keys) (q := view (OpenLaw.row PySem.Challenge.rw_steadwhole_k45_values_rows_and_keys).prog [25]) (H := Z.hk) (ob := Z.ob) (M := 2000) (loose := Z.loose) (d := HandSHeadRun.topDef (OpenLaw.row PySem.Challenge.rw_steadwhole_k45_values_rows_and_keys).prog 25) (kwd := []) Z.ob_eq
    (by kernel_rfl) (fun s => by kernel_rfl) Z.run (by kernel_rfl) (by kernel_rfl) (by kernel_rfl) (by rfl) (by first | assumption | decide +kernel) (by decide +kernel) ⟨rfl, rfl, rfl, rfl, rfl, by decide +kernel⟩ ?hw ?hc
  case hw => w_witness2
  case hc =>
    refine L2.walk_ofE (l := PySem.Challenge.rw_steadwhole_k45_values_rows_and_keys) (n := 63) (k := 8) (x := "script") (CX := L2.CX0) rfl (by decide) (by kernel_rfl) ⟨rfl, by decide, by decide⟩ ?F (fun _ _ _ _ z => z)
    intro w mg fa h Y G hmg0
    obtain ⟨K, KX, c, cx⟩ := Y
    have hmg : mg ("law" : PySem.Str) = some (.ref fa) := by
      have e : (HandSHeadRun.topDef (OpenLaw.row PySem.Challenge.rw_steadwhole_k45_values_rows_and_keys).prog 25).name = ("law" : PySem.Str) := by kernel_rfl
      rw [← e]
      exact hmg0
    have T : Z.Txt K mg := Z.txt_of KX G c cx
    obtain ⟨fd, hb, hF⟩ := Z.law_end (P := (PySem.Challenge.rw_steadwhole_k45_values_rows_and_keys).prog) (w := w) T hmg
    exact ⟨K, fd, Z.sp_law K, KX, hb, fun H a ns hl hO hS => ⟨a, ns, rfl, hS, hl, hO, fun _ => rfl⟩, fun base _ _ => hF base⟩

