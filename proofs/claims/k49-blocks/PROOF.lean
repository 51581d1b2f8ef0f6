import PyProof.Rows.All
import Wide.All
import OpenK.AllK
import Wide.FinOn
import HandS.ForMost
import HandS.Text
import HandS.Codes
import HandS.Defaults
import HandS.IsInst
import HandS.Style
import HandS.Head0
import HandS.Head1
import HandS.Head2
import HandS.HeadEnd
import HandS.HeadHook1
import HandS.HeadHook2
import HandS.Wide
import PySem.Challenge.RW_steadwhole_k49_blocks_and_heads
set_option Elab.async false
set_option linter.all false
set_option maxRecDepth 100000
set_option maxHeartbeats 4000000
namespace Z
/-! ### the layer of this claim: defs by names, short rules of reading -/
open PySem PySem.Spec PyProof.Rows L2
set_option autoImplicit false
abbrev BindAll (x qual : Str) (st : Stmt) (ps : List Str) : Prop := ∀ (kV doc pm : Value) (an : Option Addr) (cdv ct : Value) (us : List Value), us.length = ps.length →
  bindArgs (PySem.W.fnOf x qual (defArgs st) (defBody st) (defScope st) .none kV doc pm an cdv ct) ⟨us, []⟩ = pure (ps.zip us)
structure GFun (K : PySem.W.Frag) (mg : Str → Option Value) (x : Str) (st : Stmt) : Prop where
  ex : ∃ (f : Addr) (fd : FuncData), FunD K x x (defArgs st) (defBody st) (defScope st) [] [] f fd ∧ mg x = some (.ref f)
structure GMet (K : PySem.W.Frag) (C : Addr) (m qual : Str) (st : Stmt) : Prop where
  ex : ∃ (f : Addr) (fd : FuncData), FunD K m qual (defArgs st) (defBody st) (defScope st) [] [] f fd ∧ Cls K C ∧ Meth K C m f
/-- a def that may be called by its name (CX: what it may let out) -/
structure CalX (CX : CXT) (P : Program) (w : World) (K : PySem.W.Frag) (mg : Str → Option Value) (base : Heap) (k : Nat) (x : Str) (sp : Sp) (dvs : List V) : Prop where
  ex : ∃ (f : Addr) (fd : FuncData) (ps : List Str) (ds : List Value), FnOk P w K mg base CX k f fd ps sp ∧ mg x = some (.ref f) ∧ PySem.W.keepIn K (.ref f) = true ∧ Binds K fd ps ds ∧ Vals dvs ds
structure MetX (CX : CXT) (P : Program) (w : World) (K : PySem.W.Frag) (mg : Str → Option Value) (base : Heap) (k : Nat) (C : Addr) (m : Str) (sp : Sp) (dvs : List V) : Prop where
  ex : ∃ (f : Addr) (fd : FuncData) (ps : List Str) (ds : List Value), Cls K C ∧ Meth K C m f ∧ FnOk P w K mg base CX k f fd ps sp ∧ Binds K fd ps ds ∧ Vals dvs ds
structure MakX (CX : CXT) (P : Program) (w : World) (K : PySem.W.Frag) (mg : Str → Option Value) (base : Heap) (k : Nat) (x : Str) (C : Addr) (sp : Sp) (dvs : List V) : Prop where
  ex : ∃ (f : Addr) (fd : FuncData) (ps : List Str) (ds : List Value), Mk K C f ∧ FnOk P w K mg base CX k f fd ps sp ∧ mg x = some (.ref C) ∧ Binds K fd ps ds ∧ Vals dvs ds
abbrev Cal := CalX CX0
abbrev Met := MetX CX0
abbrev Mak := MakX CX0
section
variable {P : Program} {w : World} {K : PySem.W.Frag} {mg : Str → Option Value} {base : Heap} {x qual m : Str} {st : Stmt} {N ps : List Str} {k : Nat} {sp : Sp} {C : Addr}
theorem fnd_ok {f : Addr} {fd : FuncData} (F : FunD K x qual (defArgs st) (defBody st) (defScope st) [] [] f fd) (S : FnScope N ps (defScope st)) (len : ∀ vs H Q E, sp vs H Q E → vs.length = ps.length)
    (hbody : ∀ (cdv : Value) (A : Around) (outer : List Env) (s : Shared) (H : Hp) (vs : List V) (Q : VK) (E : XK), Room k (A.deeper (envOfC qual (defScope st) s.heap.objs.size f cdv)) → sp vs H Q E →
      ∃ t, PSs (cxOf CX0 P w K mg base N qual (defScope st) f cdv A outer s H E).nox (defBody st) t ∧ t { nx := fun _ H' => Q .non H', rt := Q } (start N vs) H) : FnOk P w K mg base CX0 (k + 1) f fd ps sp :=
  F.ok S len fun cdv A outer s H vs Q E hr h => by
    obtain ⟨t, h1, h2⟩ := hbody cdv A outer s H vs Q E hr h
    exact ⟨t, h1.nox, h2⟩
theorem GFun.cal (g : GFun K mg x st) (S : FnScope N ps (defScope st)) (b : BindAll x x st ps) (len : ∀ vs H Q E, sp vs H Q E → vs.length = ps.length)
    (hbody : ∀ (f : Addr) (cdv : Value) (A : Around) (outer : List Env) (s : Shared) (H : Hp) (vs : List V) (Q : VK) (E : XK), Room k (A.deeper (envOfC x (defScope st) s.heap.objs.size f cdv)) → sp vs H Q E →
      ∃ t, PSs (cxOf CX0 P w K mg base N x (defScope st) f cdv A outer s H E).nox (defBody st) t ∧ t { nx := fun _ H' => Q .non H', rt := Q } (start N vs) H) : Cal P w K mg base (k + 1) x sp [] := by
  obtain ⟨f, fd, F, hm⟩ := g.ex
  exact ⟨f, fd, ps, [], fnd_ok F S len (hbody f), hm, F.kp, F.bindsN b, .nil⟩
theorem GMet.met (g : GMet K C m qual st) (S : FnScope N ps (defScope st)) (b : BindAll m qual st ps) (len : ∀ vs H Q E, sp vs H Q E → vs.length = ps.length)
    (hbody : ∀ (f : Addr) (cdv : Value) (A : Around) (outer : List Env) (s : Shared) (H : Hp) (vs : List V) (Q : VK) (E : XK), Room k (A.deeper (envOfC qual (defScope st) s.heap.objs.size f cdv)) → sp vs H Q E →
      ∃ t, PSs (cxOf CX0 P w K mg base N qual (defScope st) f cdv A outer s H E).nox (defBody st) t ∧ t { nx := fun _ H' => Q .non H', rt := Q } (start N vs) H) : Met P w K mg base (k + 1) C m sp [] := by
  obtain ⟨f, fd, F, c, hm⟩ := g.ex
  exact ⟨f, fd, ps, [], c, hm, fnd_ok F S len (hbody f), F.bindsN b, .nil⟩
theorem GFun.law {fa : Addr} (g : GFun K mg "law" st) (hmg : mg "law" = some (.ref fa)) (S : FnScope N ["script"] (defScope st)) (b : BindAll "law" "law" st ["script"]) (len : ∀ vs H Q E, sp vs H Q E → vs.length = 1)
    (hbody : ∀ (base : Heap) (f : Addr) (cdv : Value) (A : Around) (outer : List Env) (s : Shared) (H : Hp) (vs : List V) (Q : VK) (E : XK), Room k (A.deeper (envOfC "law" (defScope st) s.heap.objs.size f cdv)) → sp vs H Q E →
      ∃ t, PSs (cxOf CX0 P w K mg base N "law" (defScope st) f cdv A outer s H E).nox (defBody st) t ∧ t { nx := fun _ H' => Q .non H', rt := Q } (start N vs) H) :
    ∃ fd : FuncData, (∀ (s : Shared) (v : Value), BindsTo s fd ⟨[v], []⟩ [("script", v)]) ∧ ∀ base : Heap, FnOk P w K mg base CX0 (k + 1) fa fd ["script"] sp := by
  obtain ⟨f, fd, F, hm⟩ := g.ex
  have e := hmg.symm.trans hm
  cases e
  exact ⟨fd, fun s v => F.bindsA (ps := ["script"]) b s [v] rfl, fun base => fnd_ok F S len (hbody base fa)⟩
end
section
variable {X : Cx} {k j : Nat} {C : Addr} {x m : Str} {sp : Sp} {dvs : List V} {p pos apos : Pos}
theorem pe_cX {CX : CXT} {E : XK} {e : Expr} {es : List Expr} {t : TA} (c : CalX CX X.prog X.w X.K X.mg X.base k x sp dvs) (hr : Room j X.A) (hk : k ≤ j) (hx : Passes CX X E) (hg : Gl X x) (ha : PA X (e :: es) t)
    (hdb : (x == ("__debug__" : Str)) = false := by decide) (he : starEach (e :: es) X.env = (false, eval e X.env) :: starEach es X.env := by rfl) (hpl : (backTo pos (starEach es X.env)).any (·.1) = false := by rfl) :
    PE X (.Call (.Name x p) (e :: es) [] pos) (tCall sp dvs E t) := by
  obtain ⟨f, fd, ps, ds, F, hm, kp, b, d⟩ := c.ex
  exact pe_call F (hr.mono hk) hg hm kp b d hx ha hdb he hpl
theorem pe_cX0 {CX : CXT} {E : XK} (c : CalX CX X.prog X.w X.K X.mg X.base k x sp dvs) (hr : Room j X.A) (hk : k ≤ j) (hx : Passes CX X E) (hg : Gl X x) (hdb : (x == ("__debug__" : Str)) = false := by decide) :
    PE X (.Call (.Name x p) [] [] pos) (tCall sp dvs E tNil) := by
  obtain ⟨f, fd, ps, ds, F, hm, kp, b, d⟩ := c.ex
  exact pe_call0 F (hr.mono hk) hg hm kp b d hx hdb
theorem pe_c {e : Expr} {es : List Expr} {t : TA} (c : Cal X.prog X.w X.K X.mg X.base k x sp dvs) (hr : Room j X.A) (hk : k ≤ j) (hg : Gl X x) (ha : PA X (e :: es) t)
    (hdb : (x == ("__debug__" : Str)) = false := by decide) (he : starEach (e :: es) X.env = (false, eval e X.env) :: starEach es X.env := by rfl) (hpl : (backTo pos (starEach es X.env)).any (·.1) = false := by rfl) :
    PE X (.Call (.Name x p) (e :: es) [] pos) (tCall sp dvs E0 t) := pe_cX c hr hk pass0 hg ha hdb he hpl
theorem pe_c0 (c : Cal X.prog X.w X.K X.mg X.base k x sp dvs) (hr : Room j X.A) (hk : k ≤ j) (hg : Gl X x) (hdb : (x == ("__debug__" : Str)) = false := by decide) :
    PE X (.Call (.Name x p) [] [] pos) (tCall sp dvs E0 tNil) := pe_cX0 c hr hk pass0 hg hdb
theorem pe_mkX {CX : CXT} {E : XK} {e : Expr} {es : List Expr} {t : TA} (c : MakX CX X.prog X.w X.K X.mg X.base k x C sp dvs) (hr : Room j X.A) (hk : k + 1 ≤ j) (hx : Passes CX X E) (hg : Gl X x) (ha : PA X (e :: es) t)
    (hdb : (x == ("__debug__" : Str)) = false := by decide) (he : starEach (e :: es) X.env = (false, eval e X.env) :: starEach es X.env := by rfl) (hpl : (backTo pos (starEach es X.env)).any (·.1) = false := by rfl) :
    PE X (.Call (.Name x p) (e :: es) [] pos) (tMake C sp dvs E t) := by
  obtain ⟨f, fd, ps, ds, M, F, hm, b, d⟩ := c.ex
  exact pe_make M F (hr.mono hk) hg hm b d hx ha hdb he hpl
theorem pe_mkX0 {CX : CXT} {E : XK} (c : MakX CX X.prog X.w X.K X.mg X.base k x C sp dvs) (hr : Room j X.A) (hk : k + 1 ≤ j) (hx : Passes CX X E) (hg : Gl X x) (hdb : (x == ("__debug__" : Str)) = false := by decide) :
    PE X (.Call (.Name x p) [] [] pos) (tMake C sp dvs E tNil) := by
  obtain ⟨f, fd, ps, ds, M, F, hm, b, d⟩ := c.ex
  exact pe_make0 M F (hr.mono hk) hg hm b d hx hdb
theorem pe_mk {e : Expr} {es : List Expr} {t : TA} (c : Mak X.prog X.w X.K X.mg X.base k x C sp dvs) (hr : Room j X.A) (hk : k + 1 ≤ j) (hg : Gl X x) (ha : PA X (e :: es) t)
    (hdb : (x == ("__debug__" : Str)) = false := by decide) (he : starEach (e :: es) X.env = (false, eval e X.env) :: starEach es X.env := by rfl) (hpl : (backTo pos (starEach es X.env)).any (·.1) = false := by rfl) :
    PE X (.Call (.Name x p) (e :: es) [] pos) (tMake C sp dvs E0 t) := pe_mkX c hr hk pass0 hg ha hdb he hpl
theorem pe_mk0 (c : Mak X.prog X.w X.K X.mg X.base k x C sp dvs) (hr : Room j X.A) (hk : k + 1 ≤ j) (hg : Gl X x) (hdb : (x == ("__debug__" : Str)) = false := by decide) :
    PE X (.Call (.Name x p) [] [] pos) (tMake C sp dvs E0 tNil) := pe_mkX0 c hr hk pass0 hg hdb
section
variable {e o : Expr} {es : List Expr} {ta : TE} {t : TA}
theorem pe_mtX {CX : CXT} {E : XK} {pl : Sem Bool} (c : MetX CX X.prog X.w X.K X.mg X.base k C m sp dvs) (hr : Room j X.A) (hk : k ≤ j) (hx : Passes CX X E) (he : PE X o ta) (ha : PA X (e :: es) t)
    (hst : starEach (e :: es) X.env = (false, eval e X.env) :: starEach es X.env := by rfl) (hpl : (backTo pos (starEach es X.env)).any (·.1) = false := by rfl)
    (ht : eval (.Call (.Attribute o m apos) (e :: es) [] pos) X.env = (do
      let ov ← eval o X.env
      standAt apos.atName
      let (f, first) ← holding [ov] (getMethod ov m pl)
      callWith pos f first (backTo pos (starEach (e :: es) X.env)) (backToKw pos (keywordEach [] X.env))) := by rfl) :
    PE X (.Call (.Attribute o m apos) (e :: es) [] pos) (tMeth C m sp dvs E ta t) := by
  obtain ⟨f, fd, ps, ds, hc, hm, F, b, d⟩ := c.ex
  exact pe_meth (pl := pl) he hc hm F (hr.mono hk) b d hx ha hst hpl ht
theorem pe_mtX0 {CX : CXT} {E : XK} {pl : Sem Bool} (c : MetX CX X.prog X.w X.K X.mg X.base k C m sp dvs) (hr : Room j X.A) (hk : k ≤ j) (hx : Passes CX X E) (he : PE X o ta)
    (ht : eval (.Call (.Attribute o m apos) [] [] pos) X.env = (do
      let ov ← eval o X.env
      standAt apos.atName
      let (f, first) ← holding [ov] (getMethod ov m pl)
      callWith pos f first (backTo pos (starEach [] X.env)) (backToKw pos (keywordEach [] X.env))) := by rfl) :
    PE X (.Call (.Attribute o m apos) [] [] pos) (tMeth C m sp dvs E ta tNil) := by
  obtain ⟨f, fd, ps, ds, hc, hm, F, b, d⟩ := c.ex
  exact pe_meth0 (pl := pl) he hc hm F (hr.mono hk) b d hx ht
theorem pe_mt {pl : Sem Bool} (c : Met X.prog X.w X.K X.mg X.base k C m sp dvs) (hr : Room j X.A) (hk : k ≤ j) (he : PE X o ta) (ha : PA X (e :: es) t)
    (hst : starEach (e :: es) X.env = (false, eval e X.env) :: starEach es X.env := by rfl) (hpl : (backTo pos (starEach es X.env)).any (·.1) = false := by rfl)
    (ht : eval (.Call (.Attribute o m apos) (e :: es) [] pos) X.env = (do
      let ov ← eval o X.env
      standAt apos.atName
      let (f, first) ← holding [ov] (getMethod ov m pl)
      callWith pos f first (backTo pos (starEach (e :: es) X.env)) (backToKw pos (keywordEach [] X.env))) := by rfl) :
    PE X (.Call (.Attribute o m apos) (e :: es) [] pos) (tMeth C m sp dvs E0 ta t) := pe_mtX (pl := pl) c hr hk pass0 he ha hst hpl ht
theorem pe_mt0 {pl : Sem Bool} (c : Met X.prog X.w X.K X.mg X.base k C m sp dvs) (hr : Room j X.A) (hk : k ≤ j) (he : PE X o ta)
    (ht : eval (.Call (.Attribute o m apos) [] [] pos) X.env = (do
      let ov ← eval o X.env
      standAt apos.atName
      let (f, first) ← holding [ov] (getMethod ov m pl)
      callWith pos f first (backTo pos (starEach [] X.env)) (backToKw pos (keywordEach [] X.env))) := by rfl) :
    PE X (.Call (.Attribute o m apos) [] [] pos) (tMeth C m sp dvs E0 ta tNil) := pe_mtX0 (pl := pl) c hr hk pass0 he ht
end
theorem pe_gc (hg : Gl X x) {v : V} (h : ∃ u, X.mg x = some u ∧ RelV v u) (hd : (x == ("__debug__" : Str)) = false := by decide) : PE X (.Name x p) (tC v) := by
  obtain ⟨u, e, r⟩ := h
  exact pe_glob hg e r hd
/-- xs[i], read ahead of xs[i] op= e -/
theorem get_list : PGet X (rIxL X.K) := by
  intro pins s σ H x y v u Q I rx ry h
  obtain ⟨p, xs, i, z, rfl, rfl, hq, he, q⟩ := h
  cases rx
  obtain ⟨t, rfl⟩ := ry
  obtain ⟨its, r, pl, hz⟩ := I.list hq
  obtain ⟨j, h1, h2, h3, h4, h5⟩ := atI_get he
  obtain ⟨w, ew, rw'⟩ := r.get h2
  have hl := r.length
  have hn := line63
  have fin : EP X pins σ Q w s := ⟨z, H, I, rw', q⟩
  by_cases h0 : 0 ≤ i
  · have hj : i.toNat = j := by
      rw [seqIndex_of h0 h5] at h1
      exact Option.some.inj h1
    exact wpAny_getItem_list pl.isList h0 (by omega) (by rw [hj]; simpa using ew) fin
  · have hj : (i + (its.toArray.size : Int)).toNat = j := by
      rw [seqIndex_neg (by omega) h4] at h1
      rw [List.size_toArray, ← hl]
      exact Option.some.inj h1
    exact wpAny_getItem_list_neg pl.isList (by omega) (by rw [List.size_toArray] <;> omega) (by omega) (by rw [hj]; simpa using ew) fin
end
abbrev qNewL (xs : List V) (H : Hp) (Q : VK) : Prop := xs.length ≤ sizeLine ∧ ∀ p, H p = none → Q (.ref p) (upd H p (.lst xs))
abbrev qNewT (xs : List V) (H : Hp) (Q : VK) : Prop := xs.length ≤ sizeLine ∧ ∀ p, H p = none → Q (.ref p) (upd H p (.tup xs))
section
variable {K : PySem.W.Frag} {σ : L2.St} {H : Hp} {Q : VK} {QB : Bool → Hp → Prop} {v x y : V} {ta tb te : TE} {t u : TT} {r : R2} {D : Ends} {QL : List V → Hp → Prop}
/-! ### readings, one step each -/
theorem rd_var {i : Nat} (h : σ[i]? = some (some v)) (q : Q v H) : tVar i σ H Q := ⟨v, h, q⟩
theorem rd_c (q : Q v H) : tC v σ H Q := q
theorem rd_op (q : ta σ H fun x H1 => tb σ H1 fun y H2 => r x y H2 Q) : tOp r ta tb σ H Q := q
theorem rd_i0 {g : Int → Int → V} {i j : Int} (q : Q (g i j) H) : rI0 g (.int i) (.int j) H Q := ⟨i, j, rfl, rfl, q⟩
theorem rd_i {C : Int → Int → Prop} {g : Int → Int → V} {i j : Int} (c : C i j) (q : Q (g i j) H) : rI C g (.int i) (.int j) H Q := ⟨i, j, rfl, rfl, c, q⟩
theorem rd_eq (h : scal x y = true) (q : Q (.bl (decide (x = y))) H) : rEq x y H Q := ⟨h, q⟩
theorem rd_ne (h : scal x y = true) (q : Q (.bl (!decide (x = y))) H) : rNe x y H Q := ⟨h, q⟩
theorem rd_eqi {i j : Int} (q : Q (.bl (decide (i = j))) H) : rEq (.int i) (.int j) H Q := ⟨rfl, by rw [show decide (V.int i = V.int j) = decide (i = j) from decide_eq_decide.mpr (by simp)]; exact q⟩
theorem rd_nei {i j : Int} (q : Q (.bl (!decide (i = j))) H) : rNe (.int i) (.int j) H Q := ⟨rfl, by rw [show decide (V.int i = V.int j) = decide (i = j) from decide_eq_decide.mpr (by simp)]; exact q⟩
theorem rd_tb {b : Bool} {R : Bool → Prop} (q : R b) : ∃ k, V.bl b = .bl k ∧ R k := ⟨b, rfl, q⟩
theorem rd_tTest (q : te σ H fun x H' => ∃ k, x = .bl k ∧ QB k H') : tTest te σ H QB := q
theorem rd_tB (q : te σ H fun x H' => ∃ k, x = .bl k ∧ QB k H') : tB te σ H QB := q
theorem rd_and (q : t σ H fun c H1 => if c = true then u σ H1 QB else QB false H1) : tAnd t u σ H QB := q
theorem rd_or (q : t σ H fun c H1 => if c = true then QB true H1 else u σ H1 QB) : tOr t u σ H QB := q
theorem rd_not (q : t σ H fun c H1 => QB (!c) H1) : tNot t σ H QB := q
theorem rd_ite {b : Bool} {A B : Prop} (h1 : b = true → A) (h2 : b = false → B) : if b = true then A else B := by
  cases b with
  | true => exact iteT (h1 rfl)
  | false => exact iteF (h2 rfl)
theorem rd_nil (q : QL [] H) : tNil σ H QL := q
theorem rd_cons {tr : TA} (q : ta σ H fun x H1 => tr σ H1 fun xs H2 => QL (x :: xs) H2) : tCons ta tr σ H QL := q
theorem rd_call {sp : Sp} {dvs : List V} {E : XK} {ts : TA} (q : ts σ H fun vs H1 => sp (vs ++ dvs) H1 Q E) : tCall sp dvs E ts σ H Q := q
theorem rd_cb {rc : List V → Hp → VK → Prop} {ts : TA} (q : ts σ H fun vs H1 => rc vs H1 Q) : tCB rc ts σ H Q := q
theorem rd_un {ru : V → Hp → VK → Prop} (q : ta σ H fun x H1 => ru x H1 Q) : tUn ru ta σ H Q := q
theorem rd_ixL {p : Addr} {xs : List V} {i : Int} (h : SqL K H p xs) (ha : atI xs i = some v) (q : Q v H) : rIxL K (.ref p) (.int i) H Q := ⟨p, xs, i, v, rfl, rfl, h, ha, q⟩
theorem rd_ixT {p : Addr} {xs : List V} {i : Int} (h : SqT K H p xs) (ha : atI xs i = some v) (q : Q v H) : rIxT K (.ref p) (.int i) H Q := ⟨p, xs, i, v, rfl, rfl, h, ha, q⟩
theorem rd_seq {a b : TS} (q : a { D with nx := b D } σ H) : tSeq a b D σ H := q
theorem rd_nx (q : D.nx σ H) : tNext D σ H := q
theorem rd_asg {g : TG} (q : te σ H fun x H1 => g x σ H1 D.nx) : tAsg te g D σ H := q
theorem rd_gName {i : Nat} {R : L2.St → Hp → Prop} (q : R (σ.set i (some v)) H) : gName i v σ H R := q
theorem rd_gSub {to ti : TE} {s : TSet} {R : L2.St → Hp → Prop} (q : to σ H fun o H1 => ti σ H1 fun i H2 => s o i v H2 fun H3 => R σ H3) : gSub to ti s v σ H R := q
theorem rd_setL {p : Addr} {xs : List V} {k : Int} {j : Nat} {R : Hp → Prop} (h : H p = some (.lst xs)) (hj : ixN xs.length k = some j) (q : R (upd H p (.lst (xs.set j v)))) : rSetL (.ref p) (.int k) v H R := ⟨p, xs, k, j, rfl, rfl, h, hj, q⟩
theorem rd_ret (q : te σ H D.rt) : tRet te D σ H := q
theorem rd_retN (q : D.rt .non H) : tRetN D σ H := q
theorem rd_if {c : TT} {a b : TS} (q : c σ H fun z H1 => if z = true then a D σ H1 else b D σ H1) : tIfS c a b D σ H := q
theorem rd_drop (q : te σ H fun _ H1 => D.nx σ H1) : tDrop te D σ H := q
theorem rd_aug {i : Nat} {ti : TIp} (h : σ[i]? = some (some x)) (q : te σ H fun y H1 => ti x y H1 fun z H2 => D.nx (σ.set i (some z)) H2) : tAug i te ti D σ H := ⟨x, h, q⟩
theorem rd_ipI {f : Int → Int → Int} {i j : Int} (q : Q (.int (f i j)) H) : ipI f (.int i) (.int j) H Q := ⟨i, j, rfl, rfl, q⟩
theorem rd_augS {to ti te : TE} {tg : V → V → Hp → VK → Prop} {tp : TIp} {ts : TSet} (q : to σ H fun o H1 => ti σ H1 fun i H2 => tg o i H2 fun x H3 => te σ H3 fun y H4 => tp x y H4 fun z H5 => ts o i z H5 fun H6 => D.nx σ H6) : tAugS to ti te tg tp ts D σ H := q
theorem rd_tup {ts : TA} (q : ts σ H fun xs H1 => qNewT xs H1 Q) : tTup ts σ H Q := q
theorem rd_lst {ts : TA} (q : ts σ H fun xs H1 => qNewL xs H1 Q) : tLst ts σ H Q := q
theorem rd_bm0 {T : String} {m : V → List V → Hp → VK → Prop} {to : TE} (q : to σ H fun x H1 => tyV K T x H1 ∧ m x [] H1 Q) : tBM0 K T m to σ H Q := q
theorem rd_bm {T : String} {m : V → List V → Hp → VK → Prop} {to : TE} {ts : TA} (q : to σ H fun x H1 => tyV K T x H1 ∧ ts σ H1 fun xs H2 => m x xs H2 Q) : tBM K T m to ts σ H Q := q
theorem rd_chain {r r' : R2} {tc : TE} (q : ta σ H fun x H1 => tb σ H1 fun y H2 => r x y H2 fun z H3 => ∃ k, z = .bl k ∧ (if k = true then tc σ H3 fun w' H4 => r' y w' H4 Q else Q (.bl false) H3)) : tChain r r' ta tb tc σ H Q := q
theorem rd_andV (q : ta σ H fun x H1 => ∃ c, x = .bl c ∧ if c = true then tb σ H1 Q else Q (.bl false) H1) : tAndV ta tb σ H Q := q
theorem rd_orV (q : ta σ H fun x H1 => ∃ c, x = .bl c ∧ if c = true then Q (.bl true) H1 else tb σ H1 Q) : tOrV ta tb σ H Q := q
theorem rd_notV (q : ta σ H fun x H1 => ∃ c, x = .bl c ∧ Q (.bl (!c)) H1) : tNotV ta σ H Q := q
end
section
variable {K : PySem.W.Frag} {H : Hp} {Q : VK}
theorem rd_isi {x c : V} {t u : Value} {b : Bool} (k : ClsV c u) (ty : TyX K H x t) (e : PySem.W.kitOne K t u = some b) (q : Q (.bl b) H) : rIsi K [x, c] H Q := ⟨x, c, t, u, b, rfl, k, ty, e, q⟩
theorem isi_int_int {i : Int} (q : Q (.bl true) H) : rIsi K [(.int i), .ty "int"] H Q := rd_isi (.ty _) (.base (.int _)) (kit_ty (by decide +kernel)) q
theorem isi_int_bool {i : Int} (q : Q (.bl false) H) : rIsi K [(.int i), .ty "bool"] H Q := rd_isi (.ty _) (.base (.int _)) (kit_ty (by decide +kernel)) q
theorem isi_int_str {i : Int} (q : Q (.bl false) H) : rIsi K [(.int i), .ty "str"] H Q := rd_isi (.ty _) (.base (.int _)) (kit_ty (by decide +kernel)) q
theorem isi_int_list {i : Int} (q : Q (.bl false) H) : rIsi K [(.int i), .ty "list"] H Q := rd_isi (.ty _) (.base (.int _)) (kit_ty (by decide +kernel)) q
theorem isi_int_tuple {i : Int} (q : Q (.bl false) H) : rIsi K [(.int i), .ty "tuple"] H Q := rd_isi (.ty _) (.base (.int _)) (kit_ty (by decide +kernel)) q
theorem isi_int_dict {i : Int} (q : Q (.bl false) H) : rIsi K [(.int i), .ty "dict"] H Q := rd_isi (.ty _) (.base (.int _)) (kit_ty (by decide +kernel)) q
theorem isi_int_bytes {i : Int} (q : Q (.bl false) H) : rIsi K [(.int i), .ty "bytes"] H Q := rd_isi (.ty _) (.base (.int _)) (kit_ty (by decide +kernel)) q
theorem isi_bool_int {i : Bool} (q : Q (.bl true) H) : rIsi K [(.bl i), .ty "int"] H Q := rd_isi (.ty _) (.base (.bl _)) (kit_ty (by decide +kernel)) q
theorem isi_bool_bool {i : Bool} (q : Q (.bl true) H) : rIsi K [(.bl i), .ty "bool"] H Q := rd_isi (.ty _) (.base (.bl _)) (kit_ty (by decide +kernel)) q
theorem isi_bool_str {i : Bool} (q : Q (.bl false) H) : rIsi K [(.bl i), .ty "str"] H Q := rd_isi (.ty _) (.base (.bl _)) (kit_ty (by decide +kernel)) q
theorem isi_bool_list {i : Bool} (q : Q (.bl false) H) : rIsi K [(.bl i), .ty "list"] H Q := rd_isi (.ty _) (.base (.bl _)) (kit_ty (by decide +kernel)) q
theorem isi_bool_tuple {i : Bool} (q : Q (.bl false) H) : rIsi K [(.bl i), .ty "tuple"] H Q := rd_isi (.ty _) (.base (.bl _)) (kit_ty (by decide +kernel)) q
theorem isi_bool_dict {i : Bool} (q : Q (.bl false) H) : rIsi K [(.bl i), .ty "dict"] H Q := rd_isi (.ty _) (.base (.bl _)) (kit_ty (by decide +kernel)) q
theorem isi_bool_bytes {i : Bool} (q : Q (.bl false) H) : rIsi K [(.bl i), .ty "bytes"] H Q := rd_isi (.ty _) (.base (.bl _)) (kit_ty (by decide +kernel)) q
theorem isi_str_int {i : Str} (q : Q (.bl false) H) : rIsi K [(.str i), .ty "int"] H Q := rd_isi (.ty _) (.base (.str _)) (kit_ty (by decide +kernel)) q
theorem isi_str_bool {i : Str} (q : Q (.bl false) H) : rIsi K [(.str i), .ty "bool"] H Q := rd_isi (.ty _) (.base (.str _)) (kit_ty (by decide +kernel)) q
theorem isi_str_str {i : Str} (q : Q (.bl true) H) : rIsi K [(.str i), .ty "str"] H Q := rd_isi (.ty _) (.base (.str _)) (kit_ty (by decide +kernel)) q
theorem isi_str_list {i : Str} (q : Q (.bl false) H) : rIsi K [(.str i), .ty "list"] H Q := rd_isi (.ty _) (.base (.str _)) (kit_ty (by decide +kernel)) q
theorem isi_str_tuple {i : Str} (q : Q (.bl false) H) : rIsi K [(.str i), .ty "tuple"] H Q := rd_isi (.ty _) (.base (.str _)) (kit_ty (by decide +kernel)) q
theorem isi_str_dict {i : Str} (q : Q (.bl false) H) : rIsi K [(.str i), .ty "dict"] H Q := rd_isi (.ty _) (.base (.str _)) (kit_ty (by decide +kernel)) q
theorem isi_str_bytes {i : Str} (q : Q (.bl false) H) : rIsi K [(.str i), .ty "bytes"] H Q := rd_isi (.ty _) (.base (.str _)) (kit_ty (by decide +kernel)) q
theorem isi_NoneType_int  (q : Q (.bl false) H) : rIsi K [.non, .ty "int"] H Q := rd_isi (.ty _) (.base (.non)) (kit_ty (by decide +kernel)) q
theorem isi_NoneType_bool  (q : Q (.bl false) H) : rIsi K [.non, .ty "bool"] H Q := rd_isi (.ty _) (.base (.non)) (kit_ty (by decide +kernel)) q
theorem isi_NoneType_str  (q : Q (.bl false) H) : rIsi K [.non, .ty "str"] H Q := rd_isi (.ty _) (.base (.non)) (kit_ty (by decide +kernel)) q
theorem isi_NoneType_list  (q : Q (.bl false) H) : rIsi K [.non, .ty "list"] H Q := rd_isi (.ty _) (.base (.non)) (kit_ty (by decide +kernel)) q
theorem isi_NoneType_tuple  (q : Q (.bl false) H) : rIsi K [.non, .ty "tuple"] H Q := rd_isi (.ty _) (.base (.non)) (kit_ty (by decide +kernel)) q
theorem isi_NoneType_dict  (q : Q (.bl false) H) : rIsi K [.non, .ty "dict"] H Q := rd_isi (.ty _) (.base (.non)) (kit_ty (by decide +kernel)) q
theorem isi_NoneType_bytes  (q : Q (.bl false) H) : rIsi K [.non, .ty "bytes"] H Q := rd_isi (.ty _) (.base (.non)) (kit_ty (by decide +kernel)) q
theorem isi_list_int {p : Addr} {xs : List V} (h : H p = some (.lst xs)) (q : Q (.bl false) H) : rIsi K [(.ref p), .ty "int"] H Q := rd_isi (.ty _) (.base (.lst h)) (kit_ty (by decide +kernel)) q
theorem isi_list_bool {p : Addr} {xs : List V} (h : H p = some (.lst xs)) (q : Q (.bl false) H) : rIsi K [(.ref p), .ty "bool"] H Q := rd_isi (.ty _) (.base (.lst h)) (kit_ty (by decide +kernel)) q
theorem isi_list_str {p : Addr} {xs : List V} (h : H p = some (.lst xs)) (q : Q (.bl false) H) : rIsi K [(.ref p), .ty "str"] H Q := rd_isi (.ty _) (.base (.lst h)) (kit_ty (by decide +kernel)) q
theorem isi_list_list {p : Addr} {xs : List V} (h : H p = some (.lst xs)) (q : Q (.bl true) H) : rIsi K [(.ref p), .ty "list"] H Q := rd_isi (.ty _) (.base (.lst h)) (kit_ty (by decide +kernel)) q
theorem isi_list_tuple {p : Addr} {xs : List V} (h : H p = some (.lst xs)) (q : Q (.bl false) H) : rIsi K [(.ref p), .ty "tuple"] H Q := rd_isi (.ty _) (.base (.lst h)) (kit_ty (by decide +kernel)) q
theorem isi_list_dict {p : Addr} {xs : List V} (h : H p = some (.lst xs)) (q : Q (.bl false) H) : rIsi K [(.ref p), .ty "dict"] H Q := rd_isi (.ty _) (.base (.lst h)) (kit_ty (by decide +kernel)) q
theorem isi_list_bytes {p : Addr} {xs : List V} (h : H p = some (.lst xs)) (q : Q (.bl false) H) : rIsi K [(.ref p), .ty "bytes"] H Q := rd_isi (.ty _) (.base (.lst h)) (kit_ty (by decide +kernel)) q
theorem isi_tuple_int {p : Addr} {xs : List V} (h : H p = some (.tup xs)) (q : Q (.bl false) H) : rIsi K [(.ref p), .ty "int"] H Q := rd_isi (.ty _) (.base (.tup h)) (kit_ty (by decide +kernel)) q
theorem isi_tuple_bool {p : Addr} {xs : List V} (h : H p = some (.tup xs)) (q : Q (.bl false) H) : rIsi K [(.ref p), .ty "bool"] H Q := rd_isi (.ty _) (.base (.tup h)) (kit_ty (by decide +kernel)) q
theorem isi_tuple_str {p : Addr} {xs : List V} (h : H p = some (.tup xs)) (q : Q (.bl false) H) : rIsi K [(.ref p), .ty "str"] H Q := rd_isi (.ty _) (.base (.tup h)) (kit_ty (by decide +kernel)) q
theorem isi_tuple_list {p : Addr} {xs : List V} (h : H p = some (.tup xs)) (q : Q (.bl false) H) : rIsi K [(.ref p), .ty "list"] H Q := rd_isi (.ty _) (.base (.tup h)) (kit_ty (by decide +kernel)) q
theorem isi_tuple_tuple {p : Addr} {xs : List V} (h : H p = some (.tup xs)) (q : Q (.bl true) H) : rIsi K [(.ref p), .ty "tuple"] H Q := rd_isi (.ty _) (.base (.tup h)) (kit_ty (by decide +kernel)) q
theorem isi_tuple_dict {p : Addr} {xs : List V} (h : H p = some (.tup xs)) (q : Q (.bl false) H) : rIsi K [(.ref p), .ty "dict"] H Q := rd_isi (.ty _) (.base (.tup h)) (kit_ty (by decide +kernel)) q
theorem isi_tuple_bytes {p : Addr} {xs : List V} (h : H p = some (.tup xs)) (q : Q (.bl false) H) : rIsi K [(.ref p), .ty "bytes"] H Q := rd_isi (.ty _) (.base (.tup h)) (kit_ty (by decide +kernel)) q
theorem isi_dict_int {p : Addr} {xs : List (Key × V)} (h : H p = some (.dK xs)) (q : Q (.bl false) H) : rIsi K [(.ref p), .ty "int"] H Q := rd_isi (.ty _) (.base (.dK h)) (kit_ty (by decide +kernel)) q
theorem isi_dict_bool {p : Addr} {xs : List (Key × V)} (h : H p = some (.dK xs)) (q : Q (.bl false) H) : rIsi K [(.ref p), .ty "bool"] H Q := rd_isi (.ty _) (.base (.dK h)) (kit_ty (by decide +kernel)) q
theorem isi_dict_str {p : Addr} {xs : List (Key × V)} (h : H p = some (.dK xs)) (q : Q (.bl false) H) : rIsi K [(.ref p), .ty "str"] H Q := rd_isi (.ty _) (.base (.dK h)) (kit_ty (by decide +kernel)) q
theorem isi_dict_list {p : Addr} {xs : List (Key × V)} (h : H p = some (.dK xs)) (q : Q (.bl false) H) : rIsi K [(.ref p), .ty "list"] H Q := rd_isi (.ty _) (.base (.dK h)) (kit_ty (by decide +kernel)) q
theorem isi_dict_tuple {p : Addr} {xs : List (Key × V)} (h : H p = some (.dK xs)) (q : Q (.bl false) H) : rIsi K [(.ref p), .ty "tuple"] H Q := rd_isi (.ty _) (.base (.dK h)) (kit_ty (by decide +kernel)) q
theorem isi_dict_dict {p : Addr} {xs : List (Key × V)} (h : H p = some (.dK xs)) (q : Q (.bl true) H) : rIsi K [(.ref p), .ty "dict"] H Q := rd_isi (.ty _) (.base (.dK h)) (kit_ty (by decide +kernel)) q
theorem isi_dict_bytes {p : Addr} {xs : List (Key × V)} (h : H p = some (.dK xs)) (q : Q (.bl false) H) : rIsi K [(.ref p), .ty "bytes"] H Q := rd_isi (.ty _) (.base (.dK h)) (kit_ty (by decide +kernel)) q
end
/-! ### the head's facts and some more of K -/
def obsX (n : Nat) (fa : List He.Fa) (fn : List He.DefD) (ex : PySem.W.Frag → Bool) (g : Addr → Option Obj) : He.AlD × Bool := (He.obsD fa fn (He.frG g (He.asD g n)), ex (He.frG g (He.asD g n)))
def hookX (n : Nat) (fa : List He.Fa) (fn : List He.DefD) (ex : PySem.W.Frag → Bool) : PySem.W.Hook where
  α := He.AlD × Bool
  obs := fun s => obsX n fa fn ex s.heap.get?
  val := fun _ => (He.valD fn, true)
  says := fun _ h => ∃ K : PySem.W.Frag, K.In h ∧ He.SaysD fa fn K ∧ ex K = true
  of := fun _ _ e => ⟨_, He.frG_in, congrArg Prod.fst e, congrArg Prod.snd e⟩
  keeps := fun _ _ _ ⟨K, hK, c⟩ k => ⟨K, PySem.W.Frag.In.keeps hK k, c⟩
theorem obsX_eq {n : Nat} {fa : List He.Fa} {fn : List He.DefD} {ex : PySem.W.Frag → Bool} {g : Addr → Option Obj} {s : Shared} (h : ∀ a, g a = s.heap.get? a) : obsX n fa fn ex g = (hookX n fa fn ex).obs s := by
  have e : g = s.heap.get? := funext h
  rw [e] <;> rfl
theorem ex_at {exs : List (PySem.W.Frag → Bool)} {K : PySem.W.Frag} (h : (exs.all fun f => f K) = true) (i : Nat) {f : PySem.W.Frag → Bool} (e : exs[i]? = some f := by rfl) : f K = true := List.all_eq_true.mp h f (List.mem_of_getElem? e)
/-! ### rules under names -/
def qIsN : R2 := fun x y H Q => y = .non ∧ Q (.bl (decide (x = .non))) H
def qNotN : R2 := fun x y H Q => y = .non ∧ Q (.bl (!decide (x = .non))) H
def qInt1 : List V → Hp → VK → Prop := fun xs H Q => (∃ i, xs = [.int i] ∧ Q (.int i) H) ∨ ∃ k, xs = [.bl k] ∧ Q (.int (if k then 1 else 0)) H
def qBool1 : List V → Hp → VK → Prop := fun xs H Q => (∃ i, xs = [.int i] ∧ Q (.bl (i != 0)) H) ∨ ∃ k, xs = [.bl k] ∧ Q (.bl k) H
def qLen (K : PySem.W.Frag) : List V → Hp → VK → Prop := fun xs H Q => ∃ p ys, xs = [.ref p] ∧ (SqL K H p ys ∨ SqT K H p ys) ∧ (ys.length ≤ 1152921504606846976 → Q (.int ys.length) H)
def qLenS : List V → Hp → VK → Prop := fun xs H Q => ∃ z, xs = [.str z] ∧ z.length ≤ sizeLine ∧ Q (.int z.length) H
def qListOf (K : PySem.W.Frag) : List V → Hp → VK → Prop := fun xs H Q => ∃ p ys, xs = [.ref p] ∧ (SqL K H p ys ∨ SqT K H p ys) ∧ ∀ l, H l = none → Q (.ref l) (upd H l (.lst ys))
def qMax2 : List V → Hp → VK → Prop := fun xs H Q => ∃ i j, xs = [.int i, .int j] ∧ Q (.int (if j > i then j else i)) H
def qMin2 : List V → Hp → VK → Prop := fun xs H Q => ∃ i j, xs = [.int i, .int j] ∧ Q (.int (if j < i then j else i)) H
section
variable {X : Cx} {K : PySem.W.Frag} {H : Hp} {Q : VK} {x : V}
theorem op_isNq : OpR X (compareOp .Is) qIsN := op_isN
theorem op_notNq : OpR X (compareOp .IsNot) qNotN := op_notN
theorem call_int1q : CallR X (.type "int") qInt1 := call_int1
theorem call_bool1q : CallR X (.type "bool") qBool1 := call_bool1
theorem call_lenq : CallR X (.builtin "len") (qLen X.K) := by
  intro pins s σ H xs us Q I r h
  obtain ⟨p, ys, rfl, hs, q⟩ := h
  have hz : ys.length ≤ sizeLine := by
    rcases hs with hs | hs
    · obtain ⟨_, _, _, z⟩ := I.list hs
      exact z
    · obtain ⟨_, _, _, z⟩ := I.tuple hs
      exact z
  exact call_len_seq pins s σ H _ us Q I r ⟨p, ys, rfl, hs, q (Nat.le_trans hz (by decide))⟩
theorem call_lenSq : CallR X (.builtin "len") qLenS := call_len_str
theorem call_listq : CallR X (.type "list") (qListOf X.K) := call_list_of
theorem call_max2q (hc : X.calm = true) : CallR X (.builtin "max") qMax2 := call_max2 hc
theorem call_min2q (hc : X.calm = true) : CallR X (.builtin "min") qMin2 := call_min2 hc
theorem rd_isNn (q : Q (.bl true) H) : qIsN .non .non H Q := ⟨rfl, q⟩
theorem rd_isNi {i : Int} (q : Q (.bl false) H) : qIsN (.int i) .non H Q := ⟨rfl, q⟩
theorem rd_isNb {i : Bool} (q : Q (.bl false) H) : qIsN (.bl i) .non H Q := ⟨rfl, q⟩
theorem rd_isNs {i : Str} (q : Q (.bl false) H) : qIsN (.str i) .non H Q := ⟨rfl, q⟩
theorem rd_isNr {i : Addr} (q : Q (.bl false) H) : qIsN (.ref i) .non H Q := ⟨rfl, q⟩
theorem rd_notNn (q : Q (.bl false) H) : qNotN .non .non H Q := ⟨rfl, q⟩
theorem rd_notNi {i : Int} (q : Q (.bl true) H) : qNotN (.int i) .non H Q := ⟨rfl, q⟩
theorem rd_notNb {i : Bool} (q : Q (.bl true) H) : qNotN (.bl i) .non H Q := ⟨rfl, q⟩
theorem rd_notNs {i : Str} (q : Q (.bl true) H) : qNotN (.str i) .non H Q := ⟨rfl, q⟩
theorem rd_notNr {i : Addr} (q : Q (.bl true) H) : qNotN (.ref i) .non H Q := ⟨rfl, q⟩
theorem rd_int1 {i : Int} (q : Q (.int i) H) : qInt1 [.int i] H Q := .inl ⟨i, rfl, q⟩
theorem rd_int1b {k : Bool} (q : Q (.int (if k then 1 else 0)) H) : qInt1 [.bl k] H Q := .inr ⟨k, rfl, q⟩
theorem rd_lenL {p : Addr} {xs : List V} (h : SqL K H p xs) (q : xs.length ≤ 1152921504606846976 → Q (.int xs.length) H) : qLen K [.ref p] H Q := ⟨p, xs, rfl, .inl h, q⟩
theorem rd_lenT {p : Addr} {xs : List V} (h : SqT K H p xs) (q : xs.length ≤ 1152921504606846976 → Q (.int xs.length) H) : qLen K [.ref p] H Q := ⟨p, xs, rfl, .inr h, q⟩
theorem rd_listL {p : Addr} {xs : List V} (h : SqL K H p xs) (q : ∀ l, H l = none → Q (.ref l) (upd H l (.lst xs))) : qListOf K [.ref p] H Q := ⟨p, xs, rfl, .inl h, q⟩
end
section
variable {K : PySem.W.Frag} {H : Hp} {Q : VK}
theorem rd_xor {a b : Nat} (q : Q (.int ((a ^^^ b : Nat) : Int)) H) : rI0 (fun i j => .int (Builtin.bitXor i j)) (.int (a : Int)) (.int (b : Int)) H Q :=
  rd_i0 (by rw [Bits.bitXor_pp (x := (a : Int)) (y := (b : Int)) (by omega) (by omega)]; exact q)
theorem iteNF {A B : Prop} (h : A) : if (!false) = true then A else B := by
  rw [if_pos (show (!false) = true from rfl)]
  exact h
theorem iteNT {A B : Prop} (h : B) : if (!true) = true then A else B := by
  rw [if_neg (by decide)]
  exact h
theorem iteNS' {c A B : Prop} [Decidable c] (hc : ¬ c) (h : A) : if (!decide c) = true then A else B := by
  rw [decide_eq_false hc]
  exact iteNF h
theorem not_t {c : Prop} [Decidable c] (h : (!decide c) = true) : ¬ c := by
  cases q : decide c with
  | true => rw [q] at h; cases h
  | false => exact of_decide_eq_false q
theorem not_f {c : Prop} [Decidable c] (h : (!decide c) = false) : c := by
  cases q : decide c with
  | true => exact of_decide_eq_true q
  | false => rw [q] at h; cases h
theorem iteD {c A B : Prop} [Decidable c] (hc : c) (h : A) : if decide c = true then A else B := by
  rw [decide_eq_true hc]
  exact iteT h
theorem iteDn {c A B : Prop} [Decidable c] (hc : ¬ c) (h : B) : if decide c = true then A else B := by
  rw [decide_eq_false hc]
  exact iteF h
theorem atI_int {ns : List Int} {i : Int} (h0 : 0 ≤ i) (h1 : i < ns.length) : ∃ z : Int, atI (ns.map V.int) i = some (.int z) ∧ ns[i.toNat]? = some z := by
  have hk : i.toNat < ns.length := by omega
  have e : ((i.toNat : Nat) : Int) = i := by omega
  refine ⟨ns[i.toNat], ?_, List.getElem?_eq_getElem hk⟩
  have q : atI (ns.map V.int) ((i.toNat : Nat) : Int) = some (.int ns[i.toNat]) := atI_nat (by rw [List.getElem?_map, List.getElem?_eq_getElem hk] <;> rfl)
  rw [e] at q
  exact q
theorem same_new {H : Hp} {p : Addr} (h : H p = none) (o : HO) : Same H (upd H p o) := fun b u q => by rw [upd_ne (ne_of_none q h)]; exact q
end
/-- a statement, then the rest, with a word between them: what follows is shown once -/
def qJoin (t u : TS) : TS := fun D σ H => ∃ Mid : L2.St → Hp → Prop, t { D with nx := Mid } σ H ∧ ∀ σ' H', Mid σ' H' → u D σ' H'
theorem pss_join {X : Cx} {st : Stmt} {rest : List Stmt} {t u : TS} (h1 : PS X st t) (h2 : PSs X rest u) : PSs X (st :: rest) (qJoin t u) := by
  refine ⟨fun pins s σ H D I h => ?_⟩
  obtain ⟨Mid, h, k⟩ := h
  refine wpAny_execs_cons (thn (h1.run pins s σ H { D with nx := Mid } I h) fun f s1 q => ?_)
  cases f with
  | next =>
    obtain ⟨σ', H', I', q⟩ := q
    exact h2.run pins s1 σ' H' D I' (k σ' H' q)
  | ret v => exact q
  | brk => exact q
  | cont => exact q
theorem cx_K {CX : CXT} {P : Program} {w : World} {K : PySem.W.Frag} {mg : Str → Option Value} {base : Heap} {N : List Str} {qual : Str} {sc : Scope} {f : Addr} {cd : Value} {A : Around} {outer : List Env} {s : Shared} {H : Hp} {E : XK} : (cxOf CX P w K mg base N qual sc f cd A outer s H E).nox.K = K := rfl
theorem cx_K2 {CX : CXT} {P : Program} {w : World} {K : PySem.W.Frag} {mg : Str → Option Value} {base : Heap} {N : List Str} {qual : Str} {sc : Scope} {f : Addr} {cd : Value} {A : Around} {outer : List Env} {s : Shared} {H : Hp} {E : XK} : (cxOf CX P w K mg base N qual sc f cd A outer s H E).K = K := rfl
theorem cx_w {CX : CXT} {P : Program} {w : World} {K : PySem.W.Frag} {mg : Str → Option Value} {base : Heap} {N : List Str} {qual : Str} {sc : Scope} {f : Addr} {cd : Value} {A : Around} {outer : List Env} {s : Shared} {H : Hp} {E : XK} : (cxOf CX P w K mg base N qual sc f cd A outer s H E).nox.w = w := rfl
/-! ### data: what a value stands for, off the objects M that change -/
/-- all that is not in M stays; nothing goes -/
structure Ext (M : List Addr) (H H' : Hp) : Prop where
  keep : ∀ b o, b ∉ M → H b = some o → H' b = some o
  there : ∀ b, H b ≠ none → H' b ≠ none
/-- the objects M stand -/
def Al (M : List Addr) (H : Hp) : Prop := ∀ b ∈ M, H b ≠ none
mutual
inductive Is (M : List Addr) (H : Hp) : V → PyData → Prop
  | non : Is M H .non .none
  | bl (b : Bool) : Is M H (.bl b) (.bool b)
  | int (i : Int) : Is M H (.int i) (.int i)
  | str (x : Str) : Is M H (.str x) (.str x)
  | lst {a : Addr} {xs : List V} {ds : List PyData} : a ∉ M → H a = some (.lst xs) → IsAll M H xs ds → Is M H (.ref a) (.list ds)
  | tup {a : Addr} {xs : List V} {ds : List PyData} : a ∉ M → H a = some (.tup xs) → IsAll M H xs ds → Is M H (.ref a) (.tuple ds)
inductive IsAll (M : List Addr) (H : Hp) : List V → List PyData → Prop
  | nil : IsAll M H [] []
  | cons {v : V} {vs : List V} {d : PyData} {ds : List PyData} : Is M H v d → IsAll M H vs ds → IsAll M H (v :: vs) (d :: ds)
end
section
variable {M M' : List Addr} {H H' H'' : Hp} {v x : V} {vs xs : List V} {d : PyData} {ds : List PyData} {a p : Addr} {o : HO} {K : PySem.W.Frag}
theorem Ext.refl : Ext M H H := ⟨fun _ _ _ h => h, fun _ h => h⟩
theorem Ext.trans (e : Ext M H H') (f : Ext M H' H'') : Ext M H H'' := ⟨fun b o hb h => f.keep b o hb (e.keep b o hb h), fun b h => f.there b (e.there b h)⟩
theorem Ext.more (e : Ext M H H') (h : ∀ b ∈ M, b ∈ M') : Ext M' H H' := ⟨fun b o hb k => e.keep b o (fun q => hb (h b q)) k, e.there⟩
theorem Ext.any (e : Ext [] H H') : Ext M H H' := e.more fun b h => nomatch h
theorem there_upd : ∀ b, H b ≠ none → (upd H p o) b ≠ none := fun b h => by
  unfold upd
  split
  · exact fun z => nomatch z
  · exact h
theorem Ext.new (h : H p = none) : Ext M H (upd H p o) := ⟨fun b u _ k => by rw [upd_ne (ne_of_none k h)]; exact k, there_upd⟩
theorem Ext.set (h : p ∈ M) : Ext M H (upd H p o) := ⟨fun b u hb k => by rw [upd_ne (fun e => hb (by rw [e]; exact h))]; exact k, there_upd⟩
/-- a change of what was not there at first -/
theorem Ext.mut (e : Ext M H H') (h : H p = none) : Ext M H (upd H' p o) := ⟨fun b u hb k => by rw [upd_ne (ne_of_none k h)]; exact e.keep b u hb k, fun b k => there_upd b (e.there b k)⟩
theorem Ext.same (e : Ext [] H H') : Same H H' := fun b o h => e.keep b o (fun q => nomatch q) h
theorem Ext.free (e : Ext M H H') (h : H' p = none) : H p = none := by
  cases q : H p with
  | none => rfl
  | some o => exact absurd h (e.there p (by rw [q]; exact fun z => nomatch z))
theorem Ext.drop (e : Ext (p :: M) H H') (h : H p = none) : Ext M H H' := ⟨fun b o hb k => e.keep b o (fun q => by
  rcases List.mem_cons.mp q with rfl | q
  · rw [h] at k; cases k
  · exact hb q) k, e.there⟩
theorem Al.ext (s : Al M H) (e : Ext M' H H') : Al M H' := fun b hb => e.there b (s b hb)
theorem Al.nil : Al [] H := fun b h => nomatch h
theorem Al.cons (h : H p ≠ none) (s : Al M H) : Al (p :: M) H := fun b hb => by
  rcases List.mem_cons.mp hb with rfl | hb
  · exact h
  · exact s b hb
theorem Al.fresh (s : Al M H) (h : H p = none) : p ∉ M := fun q => s p q h
theorem some_ne {b : Addr} {o : HO} (h : H b = some o) : H b ≠ none := by rw [h]; exact fun z => nomatch z
theorem upd_there : upd H p o p ≠ none := by rw [upd_same]; exact fun z => nomatch z
mutual
theorem Is.mono (e : Ext M H H') : ∀ {v : V} {d : PyData}, Is M H v d → Is M H' v d
  | _, _, .non => .non
  | _, _, .bl b => .bl b
  | _, _, .int i => .int i
  | _, _, .str x => .str x
  | _, _, .lst n h r => .lst n (e.keep _ _ n h) (IsAll.mono e r)
  | _, _, .tup n h r => .tup n (e.keep _ _ n h) (IsAll.mono e r)
theorem IsAll.mono (e : Ext M H H') : ∀ {vs : List V} {ds : List PyData}, IsAll M H vs ds → IsAll M H' vs ds
  | _, _, .nil => .nil
  | _, _, .cons h r => .cons (Is.mono e h) (IsAll.mono e r)
end
mutual
/-- other objects are looked away from -/
theorem Is.swap (h : ∀ b ∈ M', b ∈ M ∨ H b = none) : ∀ {v : V} {d : PyData}, Is M H v d → Is M' H v d
  | _, _, .non => .non
  | _, _, .bl b => .bl b
  | _, _, .int i => .int i
  | _, _, .str x => .str x
  | _, _, .lst n k r => .lst (fun q => by
      rcases h _ q with z | z
      · exact n z
      · rw [z] at k; cases k) k (IsAll.swap h r)
  | _, _, .tup n k r => .tup (fun q => by
      rcases h _ q with z | z
      · exact n z
      · rw [z] at k; cases k) k (IsAll.swap h r)
theorem IsAll.swap (h : ∀ b ∈ M', b ∈ M ∨ H b = none) : ∀ {vs : List V} {ds : List PyData}, IsAll M H vs ds → IsAll M' H vs ds
  | _, _, .nil => .nil
  | _, _, .cons k r => .cons (Is.swap h k) (IsAll.swap h r)
end
theorem Is.off (i : Is M H v d) (h : H p = none) : Is (p :: M) H v d := i.swap fun b hb => by
  rcases List.mem_cons.mp hb with rfl | hb
  · exact .inr h
  · exact .inl hb
theorem IsAll.off (i : IsAll M H vs ds) (h : H p = none) : IsAll (p :: M) H vs ds := i.swap fun b hb => by
  rcases List.mem_cons.mp hb with rfl | hb
  · exact .inr h
  · exact .inl hb
theorem Is.on (i : Is (p :: M) H v d) : Is M H v d := i.swap fun b hb => .inl (List.mem_cons_of_mem _ hb)
theorem IsAll.on (i : IsAll (p :: M) H vs ds) : IsAll M H vs ds := i.swap fun b hb => .inl (List.mem_cons_of_mem _ hb)
theorem Is.all (i : Is M H v d) : Is [] H v d := i.swap fun b hb => absurd hb (by simp)
/-- a new object beside -/
theorem Is.beside (i : Is M H v d) (h : H p = none) : Is (p :: M) (upd H p o) v d := (i.off h).mono (.set (List.mem_cons_self ..))
theorem IsAll.beside (i : IsAll M H vs ds) (h : H p = none) : IsAll (p :: M) (upd H p o) vs ds := (i.off h).mono (.set (List.mem_cons_self ..))
mutual
theorem Is.dp : ∀ {v : V} {d : PyData}, Is M H v d → Dp K H v d
  | _, _, .non => .non
  | _, _, .bl b => .bl b
  | _, _, .int i => .int i
  | _, _, .str x => .str x
  | _, _, .lst _ h r => .lst (SqL.of h) (IsAll.dp r)
  | _, _, .tup _ h r => .tup (SqT.of h) (IsAll.dp r)
theorem IsAll.dp : ∀ {vs : List V} {ds : List PyData}, IsAll M H vs ds → DpAll K H vs ds
  | _, _, .nil => .nil
  | _, _, .cons h r => .cons (Is.dp h) (IsAll.dp r)
end
theorem IsAll.length : ∀ {vs : List V} {ds : List PyData}, IsAll M H vs ds → vs.length = ds.length
  | _, _, .nil => rfl
  | _, _, .cons _ r => congrArg Nat.succ r.length
theorem IsAll.get : ∀ {vs : List V} {ds : List PyData} {i : Nat}, IsAll M H vs ds → ds[i]? = some d → ∃ v, vs[i]? = some v ∧ Is M H v d
  | _, _, _, .nil, e => by simp at e
  | _, _, 0, .cons h _, e => by simp at e; subst e; exact ⟨_, rfl, h⟩
  | _, _, i + 1, .cons _ r, e => by
    obtain ⟨u, h1, h2⟩ := IsAll.get (i := i) r (by simpa using e)
    exact ⟨u, by simpa using h1, h2⟩
theorem IsAll.got : ∀ {vs : List V} {ds : List PyData} {i : Nat}, IsAll M H vs ds → vs[i]? = some v → ∃ d, ds[i]? = some d ∧ Is M H v d
  | _, _, _, .nil, e => by simp at e
  | _, _, 0, .cons h _, e => by simp at e; subst e; exact ⟨_, rfl, h⟩
  | _, _, i + 1, .cons _ r, e => by
    obtain ⟨u, h1, h2⟩ := IsAll.got (i := i) r (by simpa using e)
    exact ⟨u, by simpa using h1, h2⟩
theorem IsAll.append : ∀ {vs ws : List V} {ds es : List PyData}, IsAll M H vs ds → IsAll M H ws es → IsAll M H (vs ++ ws) (ds ++ es)
  | _, _, _, _, .nil, s => s
  | _, _, _, _, .cons r t, s => .cons r (IsAll.append t s)
theorem IsAll.one (h : Is M H v d) : IsAll M H [v] [d] := .cons h .nil
theorem IsAll.take : ∀ {vs : List V} {ds : List PyData} (n : Nat), IsAll M H vs ds → IsAll M H (vs.take n) (ds.take n)
  | _, _, 0, _ => by simp only [List.take_zero]; exact .nil
  | _, _, _ + 1, .nil => .nil
  | _, _, n + 1, .cons r t => .cons r (IsAll.take n t)
theorem IsAll.drop : ∀ {vs : List V} {ds : List PyData} (n : Nat), IsAll M H vs ds → IsAll M H (vs.drop n) (ds.drop n)
  | _, _, 0, r => r
  | _, _, _ + 1, .nil => .nil
  | _, _, n + 1, .cons _ t => IsAll.drop n t
theorem IsAll.rev : ∀ {vs : List V} {ds : List PyData}, IsAll M H vs ds → IsAll M H vs.reverse ds.reverse
  | _, _, .nil => .nil
  | _, _, .cons r t => by
    rw [List.reverse_cons, List.reverse_cons]
    exact (IsAll.rev t).append (.one r)
theorem IsAll.set : ∀ {vs : List V} {ds : List PyData} (i : Nat), IsAll M H vs ds → Is M H v d → IsAll M H (vs.set i v) (ds.set i d)
  | _, _, _, .nil, _ => .nil
  | _, _, 0, .cons _ t, h => .cons h t
  | _, _, i + 1, .cons r t, h => .cons r (IsAll.set i t h)
theorem IsAll.ints : ∀ ns : List Int, IsAll M H (ns.map V.int) (ns.map PyData.int)
  | [] => .nil
  | n :: ns => .cons (.int n) (IsAll.ints ns)
theorem IsAll.ofInts : ∀ {vs : List V} {ns : List Int}, IsAll M H vs (ns.map PyData.int) → vs = ns.map V.int
  | _, [], h => by cases h; rfl
  | _, n :: ns, h => by
    cases h with
    | cons h r => cases h; rw [IsAll.ofInts r]; rfl
/-! readings -/
theorem Is.list (i : Is M H (.ref a) (.list ds)) : ∃ xs, a ∉ M ∧ H a = some (.lst xs) ∧ IsAll M H xs ds := by
  cases i with
  | lst n h r => exact ⟨_, n, h, r⟩
theorem Is.tuple (i : Is M H (.ref a) (.tuple ds)) : ∃ xs, a ∉ M ∧ H a = some (.tup xs) ∧ IsAll M H xs ds := by
  cases i with
  | tup n h r => exact ⟨_, n, h, r⟩
theorem Is.listV (i : Is M H v (.list ds)) : ∃ a xs, v = .ref a ∧ a ∉ M ∧ H a = some (.lst xs) ∧ IsAll M H xs ds := by
  cases i with
  | lst n h r => exact ⟨_, _, rfl, n, h, r⟩
theorem Is.tupleV (i : Is M H v (.tuple ds)) : ∃ a xs, v = .ref a ∧ a ∉ M ∧ H a = some (.tup xs) ∧ IsAll M H xs ds := by
  cases i with
  | tup n h r => exact ⟨_, _, rfl, n, h, r⟩
variable {Q : VK} {e : PyData}
theorem rd_dix {i : Int} {j : Nat} (h : Is M H (.ref a) (.list ds)) (hj : i = (j : Int)) (hd : ds[j]? = some d) (q : ∀ v, Is M H v d → Q v H) : rIxL K (.ref a) (.int i) H Q := by
  obtain ⟨xs, _, hx, r⟩ := h.list
  obtain ⟨v, hv, iv⟩ := r.get hd
  exact ⟨a, xs, i, v, rfl, rfl, SqL.of hx, by rw [hj]; exact atI_nat hv, q v iv⟩
theorem rd_dixT {i : Int} {j : Nat} (h : Is M H (.ref a) (.tuple ds)) (hj : i = (j : Int)) (hd : ds[j]? = some d) (q : ∀ v, Is M H v d → Q v H) : rIxT K (.ref a) (.int i) H Q := by
  obtain ⟨xs, _, hx, r⟩ := h.tuple
  obtain ⟨v, hv, iv⟩ := r.get hd
  exact ⟨a, xs, i, v, rfl, rfl, SqT.of hx, by rw [hj]; exact atI_nat hv, q v iv⟩
theorem rd_dlen (h : Is M H (.ref a) (.list ds)) (q : ds.length ≤ 1152921504606846976 → Q (.int ds.length) H) : qLen K [.ref a] H Q := by
  obtain ⟨xs, _, hx, r⟩ := h.list
  exact rd_lenL (SqL.of hx) (by rw [r.length]; exact q)
theorem rd_dlenT (h : Is M H (.ref a) (.tuple ds)) (q : ds.length ≤ 1152921504606846976 → Q (.int ds.length) H) : qLen K [.ref a] H Q := by
  obtain ⟨xs, _, hx, r⟩ := h.tuple
  exact rd_lenT (SqT.of hx) (by rw [r.length]; exact q)
theorem rd_eqD (h : Is M H x d) (k : Is M' H v e) (s1 : SeqAt.shaped d = true) (s2 : SeqAt.shaped e = true) (q : Q (.bl (PyData.eqv d e)) H) : rEqD K x v H Q := ⟨d, e, h.dp, k.dp, s1, s2, q⟩
theorem rd_neD (h : Is M H x d) (k : Is M' H v e) (s1 : SeqAt.shaped d = true) (s2 : SeqAt.shaped e = true) (q : Q (.bl (!PyData.eqv d e)) H) : rNeD K x v H Q := ⟨d, e, h.dp, k.dp, s1, s2, q⟩
/-- a new list, a new tuple -/
theorem new_lst (s : Al M H) (h : IsAll M H xs ds) (hp : H p = none) : Is M (upd H p (.lst xs)) (.ref p) (.list ds) := .lst (s.fresh hp) upd_same (h.mono (.new hp))
theorem new_tup (s : Al M H) (h : IsAll M H xs ds) (hp : H p = none) : Is M (upd H p (.tup xs)) (.ref p) (.tuple ds) := .tup (s.fresh hp) upd_same (h.mono (.new hp))
theorem szl {n : Nat} (h : n ≤ 1000) : n ≤ sizeLine := Nat.le_of_lt (small1000 h)
theorem szL {n : Nat} (h : n ≤ 100000) : n ≤ sizeLine := Nat.le_trans h (by decide)
theorem szl' {n : Nat} (h : n ≤ 100000) : n < sizeLine := Nat.lt_of_le_of_lt h (by decide)
theorem rd_dtup {K : PySem.W.Frag} {σ : L2.St} {ts : TA} (q : ts σ H fun xs H1 => xs.length ≤ sizeLine ∧ ∀ p, H1 p = none → Q (.ref p) (upd H1 p (.tup xs))) : tTup ts σ H Q := q
/-- slices by places that are not negative -/
theorem cut_nn (xs : List V) (lo hi : Nat) : cutV xs (some (lo : Int)) (some (hi : Int)) = (xs.take hi).drop lo := by
  unfold cutV
  rw [HT.sIx_nat, HT.sIx_nat, List.drop_take]
  apply List.ext_getElem?
  intro i
  simp only [List.getElem?_take, List.getElem?_drop]
  by_cases h1 : lo ≤ xs.length
  · rw [Nat.min_eq_left h1]
    by_cases h2 : hi ≤ xs.length
    · rw [Nat.min_eq_left h2]
    · rw [Nat.min_eq_right (by omega)]
      by_cases h3 : i < hi - lo
      · rw [if_pos h3]
        by_cases h4 : i < xs.length - lo
        · rw [if_pos h4]
        · rw [if_neg h4, List.getElem?_eq_none (by omega)]
      · rw [if_neg h3, if_neg (by omega)]
  · rw [Nat.min_eq_right (by omega : xs.length ≤ lo), if_neg (by omega)]
    split
    · rw [List.getElem?_eq_none (by omega)]
    · rfl
theorem cut_0n (xs : List V) (hi : Nat) : cutV xs none (some (hi : Int)) = xs.take hi := by
  have e := cut_nn xs 0 hi
  rw [List.drop_zero] at e
  rw [← e]
  unfold cutV
  rw [HT.sIx_nat, HT.sIx_nat, HT.sIx_none, Nat.zero_min]
theorem cut_n0 (xs : List V) (lo : Nat) : cutV xs (some (lo : Int)) none = xs.drop lo := by
  have e := cut_nn xs lo xs.length
  rw [List.take_length] at e
  rw [← e]
  unfold cutV
  rw [HT.sIx_nat, HT.sIx_nat, HT.sIx_none, Nat.min_self]
theorem cut_00 (xs : List V) : cutV xs none none = xs := by
  unfold cutV
  rw [HT.sIx_none, HT.sIx_none, List.drop_zero, Nat.sub_zero, List.take_length]
theorem IsAll.cut {lo hi : Nat} (h : IsAll M H xs ds) : IsAll M H (cutV xs (some (lo : Int)) (some (hi : Int))) ((ds.take hi).drop lo) := by
  rw [cut_nn]
  exact (h.take hi).drop lo
theorem IsAll.cut0 {hi : Nat} (h : IsAll M H xs ds) : IsAll M H (cutV xs none (some (hi : Int))) (ds.take hi) := by
  rw [cut_0n]
  exact h.take hi
theorem IsAll.cutN {lo : Nat} (h : IsAll M H xs ds) : IsAll M H (cutV xs (some (lo : Int)) none) (ds.drop lo) := by
  rw [cut_n0]
  exact h.drop lo
end
section
variable {M : List Addr} {H0 H H1 : Hp} {a D : Addr} {ds : List PyData} {K : PySem.W.Frag} {j : Nat} {vs : List Nat} {te : TE} {tt : TT} {σ : L2.St} {Qd : Hp → Prop} {g : TG} {tb : TS} {E : Ends}
/-- a walk over data, the list stands still -/
theorem for_data (h : Is M H0 (.ref a) (.list ds)) (Pv : Nat → L2.St → Hp → Prop) (h0 : Pv 0 σ H) (hE : ∀ i σ H, Pv i σ H → Ext M H0 H)
    (hs : ∀ i d x σ H, ds[i]? = some d → Is M H x d → Pv i σ H → g x σ H fun σ2 H2 => tb { E with nx := Pv (i + 1), ct := Pv (i + 1), bk := E.nx } σ2 H2) (hd : ∀ σ H, Pv ds.length σ H → E.nx σ H) :
    ∃ W : Nat → Nat → L2.St → Hp → Prop, (∃ m, W 0 m σ H) ∧ ∀ i m σ H, W i m σ H →
      ((Itl K a).stop i H ∧ E.nx σ H) ∨ ((Itl K a).go i H ∧ ∃ N : L2.St → Hp → Prop, (∀ σ' H', N σ' H' → ∃ m', m' < m ∧ W (i + 1) m' σ' H') ∧ ∀ x H', (Itl K a).yld i H x H' → g x σ H' fun σ2 H2 => tb { E with nx := N, ct := N, bk := E.nx } σ2 H2) := by
  obtain ⟨xs, na, hx, r⟩ := h.list
  refine for_list (xs := xs) Pv h0 (fun i σ H _ p => SqL.of ((hE i σ H p).keep _ _ na hx)) (fun i x σ H hi p => ?_) (fun σ H p => hd σ H (by rw [← r.length]; exact p))
  obtain ⟨d, hd', iv⟩ := r.got hi
  exact hs i d x σ H hd' (iv.mono (hE i σ H p)) p
theorem for_dataT (h : Is M H0 (.ref a) (.tuple ds)) (Pv : Nat → L2.St → Hp → Prop) (h0 : Pv 0 σ H) (hE : ∀ i σ H, Pv i σ H → Ext M H0 H)
    (hs : ∀ i d x σ H, ds[i]? = some d → Is M H x d → Pv i σ H → g x σ H fun σ2 H2 => tb { E with nx := Pv (i + 1), ct := Pv (i + 1), bk := E.nx } σ2 H2) (hd : ∀ σ H, Pv ds.length σ H → E.nx σ H) :
    ∃ W : Nat → Nat → L2.St → Hp → Prop, (∃ m, W 0 m σ H) ∧ ∀ i m σ H, W i m σ H →
      ((Itt K a).stop i H ∧ E.nx σ H) ∨ ((Itt K a).go i H ∧ ∃ N : L2.St → Hp → Prop, (∀ σ' H', N σ' H' → ∃ m', m' < m ∧ W (i + 1) m' σ' H') ∧ ∀ x H', (Itt K a).yld i H x H' → g x σ H' fun σ2 H2 => tb { E with nx := N, ct := N, bk := E.nx } σ2 H2) := by
  obtain ⟨xs, na, hx, r⟩ := h.tuple
  refine for_tup (xs := xs) Pv h0 (fun i σ H _ p => SqT.of ((hE i σ H p).keep _ _ na hx)) (fun i x σ H hi p => ?_) (fun σ H p => hd σ H (by rw [← r.length]; exact p))
  obtain ⟨d, hd', iv⟩ := r.got hi
  exact hs i d x σ H hd' (iv.mono (hE i σ H p)) p
/-- what a comprehension has made so far -/
structure Made (M : List Addr) (H0 : Hp) (D : Addr) (es : List PyData) (H : Hp) : Prop where
  free : H0 D = none
  ext : Ext [] H0 H
  off : D ∉ M
  ls : ∃ ys, H D = some (.lst ys) ∧ IsAll (D :: M) H ys es
theorem Made.start (s : Al M H0) (hD : H0 D = none) : Made M H0 D [] (upd H0 D (.lst [])) := ⟨hD, .new hD, s.fresh hD, [], upd_same, .nil⟩
theorem Made.al {es : List PyData} (m : Made M H0 D es H) (s : Al M H0) : Al (D :: M) H := by
  obtain ⟨ys, h1, h2⟩ := m.ls
  exact .cons (some_ne h1) (s.ext m.ext)
theorem Made.is {es : List PyData} (m : Made M H0 D es H) : Is M H (.ref D) (.list es) := by
  obtain ⟨ys, h1, h2⟩ := m.ls
  exact .lst m.off h1 h2.on
theorem Made.step {es : List PyData} {d : PyData} {y : V} {H' : Hp} (m : Made M H0 D es H) (e : Ext [] H H') (h : Is (D :: M) H' y d) (hl : es.length < 100000) :
    ∃ acc, H' D = some (.lst acc) ∧ acc.length < sizeLine ∧ Made M H0 D (es ++ [d]) (upd H' D (.lst (acc ++ [y]))) := by
  obtain ⟨ys, h1, h2⟩ := m.ls
  refine ⟨ys, e.keep _ _ (fun q => nomatch q) h1, szl' (by rw [h2.length]; omega), m.free, (m.ext.trans e).mut m.free, m.off, _, upd_same, ?_⟩
  exact ((h2.mono e.any).append (.one h)).mono (.set (List.mem_cons_self ..))
theorem Made.ext' {es : List PyData} {H' : Hp} (m : Made M H0 D es H) (e : Ext [] H H') : Made M H0 D es H' := by
  obtain ⟨ys, h1, h2⟩ := m.ls
  exact ⟨m.free, m.ext.trans e, m.off, ys, e.keep _ _ (fun q => nomatch q) h1, h2.mono e.any⟩
theorem rd_yes {H : Hp} {Q : Bool → Hp → Prop} (q : Q true H) : tYes σ H Q := q
/-- [e for x in range(..)] -/
theorem lc_rng {lo : Int} {n : Nat} (f : Nat → PyData) (s : Al M H0) (hD : H0 D = none) (hn : n ≤ 100000) (hw : ∀ x, wipe ((wipe σ vs).set j (some x)) vs = wipe σ vs)
    (he : ∀ (i : Nat) H', i < n → Al (D :: M) H' → Ext [] H0 H' → ∀ R : VK, (∀ y H'', Ext [] H' H'' → Is (D :: M) H'' y (f i) → R y H'') → te ((wipe σ vs).set j (some (.int (lo + i)))) H' R)
    (hd : ∀ H', Ext [] H0 H' → Is M H' (.ref D) (.list ((List.range n).map f)) → Qd H') :
    ∃ W : Nat → Nat → Hp → Prop, (∃ m, W 0 m (upd H0 D (.lst []))) ∧ ∀ i m H, W i m H →
      ((Itr lo n).stop i H ∧ Qd H) ∨ ((Itr lo n).go i H ∧ ∃ Nx : Hp → Prop, (∀ H', Nx H' → ∃ m', m' < m ∧ W (i + 1) m' H') ∧ ∀ x H', (Itr lo n).yld i H x H' → gName j x (wipe σ vs) H' fun σ2 H2 => wipe σ2 vs = wipe σ vs ∧ tYes σ2 H2 fun b H3 =>
        if b = true then te σ2 H3 fun y H4 => ∃ acc, H4 D = some (.lst acc) ∧ acc.length < sizeLine ∧ Nx (upd H4 D (.lst (acc ++ [y]))) else Nx H3) := by
  refine lc_range (fun i H' => Made M H0 D ((List.range i).map f) H') (Made.start s hD) (fun i H' hi m => ?_) fun H' m => hd H' m.ext m.is
  refine ⟨hw _, rd_yes ?_⟩
  refine iteT ?_
  refine he i H' hi (m.al s) m.ext _ fun y H'' e r => ?_
  rw [List.range_succ, List.map_append]
  exact m.step e r (by rw [List.length_map, List.length_range]; omega)
/-- [e for x in a list] -/
theorem lc_map (f : PyData → PyData) (s : Al M H0) (hD : H0 D = none) (h : Is M H0 (.ref a) (.list ds)) (hn : ds.length ≤ 100000) (hw : ∀ x, wipe ((wipe σ vs).set j (some x)) vs = wipe σ vs)
    (he : ∀ (x : V) (d : PyData) H', d ∈ ds → Al (D :: M) H' → Ext [] H0 H' → Is (D :: M) H' x d → ∀ R : VK, (∀ y H'', Ext [] H' H'' → Is (D :: M) H'' y (f d) → R y H'') → te ((wipe σ vs).set j (some x)) H' R)
    (hd : ∀ H', Ext [] H0 H' → Is M H' (.ref D) (.list (ds.map f)) → Qd H') :
    ∃ W : Nat → Nat → Hp → Prop, (∃ m, W 0 m (upd H0 D (.lst []))) ∧ ∀ i m H, W i m H →
      ((Itl K a).stop i H ∧ Qd H) ∨ ((Itl K a).go i H ∧ ∃ Nx : Hp → Prop, (∀ H', Nx H' → ∃ m', m' < m ∧ W (i + 1) m' H') ∧ ∀ x H', (Itl K a).yld i H x H' → gName j x (wipe σ vs) H' fun σ2 H2 => wipe σ2 vs = wipe σ vs ∧ tYes σ2 H2 fun b H3 =>
        if b = true then te σ2 H3 fun y H4 => ∃ acc, H4 D = some (.lst acc) ∧ acc.length < sizeLine ∧ Nx (upd H4 D (.lst (acc ++ [y]))) else Nx H3) := by
  obtain ⟨xs, na, hx, r⟩ := h.list
  refine lc_list (xs := xs) (fun i H' => Made M H0 D ((ds.take i).map f) H') (Made.start s hD) (fun i H' _ m => SqL.of (m.ext.keep _ _ (fun q => nomatch q) hx)) (fun i x H' hi m => ?_) fun H' m => hd H' m.ext (by have z := m.is; rw [r.length, List.take_length] at z; exact z)
  obtain ⟨d, hd', iv⟩ := r.got hi
  have hlt : i < ds.length := (List.getElem?_eq_some_iff.mp hd').1
  refine ⟨hw _, rd_yes ?_⟩
  refine iteT ?_
  refine he x d H' (List.mem_of_getElem? hd') (m.al s) m.ext ((iv.off hD).mono m.ext.any) _ fun y H'' e r => ?_
  have et : ds.take (i + 1) = ds.take i ++ [d] := by rw [List.take_add_one, hd']; rfl
  rw [et, List.map_append]
  exact m.step e r (by rw [List.length_map, List.length_take]; omega)
/-- [e for x in a list if test] -/
theorem lc_filter (f : PyData → PyData) (p : PyData → Bool) (s : Al M H0) (hD : H0 D = none) (h : Is M H0 (.ref a) (.list ds)) (hn : ds.length ≤ 100000) (hw : ∀ x, wipe ((wipe σ vs).set j (some x)) vs = wipe σ vs)
    (ht : ∀ (x : V) (d : PyData) H', d ∈ ds → Al (D :: M) H' → Ext [] H0 H' → Is (D :: M) H' x d → ∀ R : Bool → Hp → Prop, (∀ H'', Ext [] H' H'' → R (p d) H'') → tt ((wipe σ vs).set j (some x)) H' R)
    (he : ∀ (x : V) (d : PyData) H', d ∈ ds → p d = true → Al (D :: M) H' → Ext [] H0 H' → Is (D :: M) H' x d → ∀ R : VK, (∀ y H'', Ext [] H' H'' → Is (D :: M) H'' y (f d) → R y H'') → te ((wipe σ vs).set j (some x)) H' R)
    (hd : ∀ H', Ext [] H0 H' → Is M H' (.ref D) (.list ((ds.filter p).map f)) → Qd H') :
    ∃ W : Nat → Nat → Hp → Prop, (∃ m, W 0 m (upd H0 D (.lst []))) ∧ ∀ i m H, W i m H →
      ((Itl K a).stop i H ∧ Qd H) ∨ ((Itl K a).go i H ∧ ∃ Nx : Hp → Prop, (∀ H', Nx H' → ∃ m', m' < m ∧ W (i + 1) m' H') ∧ ∀ x H', (Itl K a).yld i H x H' → gName j x (wipe σ vs) H' fun σ2 H2 => wipe σ2 vs = wipe σ vs ∧ tt σ2 H2 fun b H3 =>
        if b = true then te σ2 H3 fun y H4 => ∃ acc, H4 D = some (.lst acc) ∧ acc.length < sizeLine ∧ Nx (upd H4 D (.lst (acc ++ [y]))) else Nx H3) := by
  obtain ⟨xs, na, hx, r⟩ := h.list
  refine lc_list (xs := xs) (fun i H' => Made M H0 D (((ds.take i).filter p).map f) H') (Made.start s hD) (fun i H' _ m => SqL.of (m.ext.keep _ _ (fun q => nomatch q) hx)) (fun i x H' hi m => ?_) fun H' m => hd H' m.ext (by have z := m.is; rw [r.length, List.take_length] at z; exact z)
  obtain ⟨d, hd', iv⟩ := r.got hi
  have hlt : i < ds.length := (List.getElem?_eq_some_iff.mp hd').1
  have et : ds.take (i + 1) = ds.take i ++ [d] := by rw [List.take_add_one, hd']; rfl
  refine ⟨hw _, ?_⟩
  refine ht x d H' (List.mem_of_getElem? hd') (m.al s) m.ext ((iv.off hD).mono m.ext.any) _ fun H2 e2 => ?_
  rw [et, List.filter_append, List.map_append]
  cases hp : p d with
  | true =>
    refine iteT (he x d H2 (List.mem_of_getElem? hd') hp ((m.al s).ext e2) (m.ext.trans e2) ((iv.off hD).mono (m.ext.trans e2).any) _ fun y H'' e r => ?_)
    rw [List.filter_cons, if_pos hp]
    refine m.step (e2.trans e) r ?_
    rw [List.length_map]
    have z := List.length_filter_le p (ds.take i)
    rw [List.length_take] at z
    omega
  | false =>
    refine iteF ?_
    rw [List.filter_cons, if_neg (by rw [hp]; exact Bool.false_ne_true)]
    show Made M H0 D (_ ++ []) H2
    rw [List.append_nil]
    exact m.ext' e2
end
section
variable {K : PySem.W.Frag} {σ : L2.St} {H : Hp} {Q : VK} {te : TE} {l : Addr} {xs : List V}
/-- l.append(e) -/
theorem rd_app (h : H l = some (.lst xs)) (q : te σ H fun y H2 => ∃ ys, H2 l = some (.lst ys) ∧ ys.length < sizeLine ∧ Q .non (upd H2 l (.lst (ys ++ [y])))) :
    tyV K "list" (.ref l) H ∧ tCons te tNil σ H fun vs H2 => rAppend (.ref l) vs H2 Q := by
  refine ⟨.inl ⟨rfl, _, SqL.of h⟩, ?_⟩
  refine rd_cons ?_
  have : (fun y H2 => ∃ ys, H2 l = some (.lst ys) ∧ ys.length < sizeLine ∧ Q .non (upd H2 l (.lst (ys ++ [y])))) = fun y H2 => tNil σ H2 fun vs H3 => rAppend (.ref l) (y :: vs) H3 Q := by
    funext y H2
    refine propext ⟨?_, ?_⟩
    · rintro ⟨ys, a, b, c⟩
      exact ⟨l, ys, y, rfl, rfl, a, b, c⟩
    · rintro ⟨l', ys, y', e1, e2, a, b, c⟩
      cases e1; cases e2
      exact ⟨ys, a, b, c⟩
  rw [← this]
  exact q
end
/-! shapes -/
theorem clAll_mem : ∀ {ds : List PyData}, (∀ d ∈ ds, PyData.canLay0 d = true) → PyData.canLayAll0 ds = true
  | [], _ => by simp [PyData.canLayAll0]
  | d :: ds, h => by
    simp only [PyData.canLayAll0, Bool.and_eq_true]
    exact ⟨h d (List.mem_cons_self ..), clAll_mem fun e he => h e (List.mem_cons_of_mem _ he)⟩
theorem depthAll_mem {n : Nat} : ∀ {ds : List PyData}, (∀ d ∈ ds, PyData.depth d ≤ n) → PyData.depthAll ds ≤ n
  | [], _ => by simp [PyData.depthAll]
  | d :: ds, h => by
    simp only [PyData.depthAll]
    exact Nat.max_le.mpr ⟨h d (List.mem_cons_self ..), depthAll_mem fun e he => h e (List.mem_cons_of_mem _ he)⟩
/-- shaped, at most n deep -/
def Sh (n : Nat) (d : PyData) : Prop := PyData.canLay0 d = true ∧ PyData.depth d ≤ n
theorem Sh.ok {n : Nat} {d : PyData} (h : Sh n d) (hn : n ≤ 64 := by decide) : SeqAt.shaped d = true := by
  unfold SeqAt.shaped
  rw [h.1, Bool.true_and]
  exact decide_eq_true (Nat.le_trans h.2 hn)
theorem Sh.int {n : Nat} (i : Int) : Sh n (.int i) := ⟨by simp [PyData.canLay0], by simp [PyData.depth]⟩
theorem Sh.non {n : Nat} : Sh n .none := ⟨by simp [PyData.canLay0], by simp [PyData.depth]⟩
theorem Sh.bl {n : Nat} (b : Bool) : Sh n (.bool b) := ⟨by simp [PyData.canLay0], by simp [PyData.depth]⟩
theorem Sh.list {n : Nat} {ds : List PyData} (h : ∀ d ∈ ds, Sh n d) : Sh (n + 1) (.list ds) :=
  ⟨by simp only [PyData.canLay0]; exact clAll_mem fun d hd => (h d hd).1, by simp only [PyData.depth]; exact Nat.succ_le_succ (depthAll_mem fun d hd => (h d hd).2)⟩
theorem Sh.tuple {n : Nat} {ds : List PyData} (h : ∀ d ∈ ds, Sh n d) : Sh (n + 1) (.tuple ds) :=
  ⟨by simp only [PyData.canLay0]; exact clAll_mem fun d hd => (h d hd).1, by simp only [PyData.depth]; exact Nat.succ_le_succ (depthAll_mem fun d hd => (h d hd).2)⟩
theorem Sh.refl {n : Nat} {d : PyData} (h : Sh n d) : PyData.eqv d d = true := SeqAt.eqv_refl d h.1
/-- lists of numbers -/
abbrev nats (ns : List Nat) : PyData := .list (ns.map fun n : Nat => .int n)
theorem sh_nats {n : Nat} (ns : List Nat) : Sh (n + 1) (nats ns) := Sh.list fun d hd => by
  obtain ⟨k, _, rfl⟩ := List.mem_map.mp hd
  exact .int _
theorem eqvAll_ints : ∀ xs ys : List Nat, PyData.eqvAll (xs.map fun n : Nat => .int n) (ys.map fun n : Nat => .int n) = decide (xs = ys)
  | [], [] => by simp [PyData.eqvAll]
  | [], _ :: _ => by simp [PyData.eqvAll]
  | _ :: _, [] => by simp [PyData.eqvAll]
  | x :: xs, y :: ys => by
    have ih := eqvAll_ints xs ys
    simp only [List.map_cons, PyData.eqvAll, PyData.eqv, ih]
    by_cases h : x = y
    · subst h; simp
    · have : ¬ (x : Int) = (y : Int) := by omega
      simp [h, this]
theorem eqv_nats (xs ys : List Nat) : PyData.eqv (nats xs) (nats ys) = decide (xs = ys) := by
  simp only [PyData.eqv]
  exact eqvAll_ints xs ys
theorem nats_V {M : List Addr} {H : Hp} (ns : List Nat) : IsAll M H (ns.map fun n : Nat => V.int n) (ns.map fun n : Nat => PyData.int n) := by
  induction ns with
  | nil => exact .nil
  | cons n ns ih => exact .cons (.int _) ih
/-! ### loops, comprehensions, slices: the rest of their readings under names -/
def qFor (J : It) (g : TG) (tb : TS) (D : Ends) (σ : L2.St) (H1 : Hp) : Prop := ∃ W : Nat → Nat → L2.St → Hp → Prop, (∃ m, W 0 m σ H1) ∧ ∀ i m σ H, W i m σ H → (J.stop i H ∧ D.nx σ H) ∨
  (J.go i H ∧ ∃ N : L2.St → Hp → Prop, (∀ σ' H', N σ' H' → ∃ m', m' < m ∧ W (i + 1) m' σ' H') ∧ ∀ x H', J.yld i H x H' → g x σ H' fun σ2 H2 => tb { D with nx := N, ct := N, bk := D.nx } σ2 H2)
def qLc (J : It) (g : TG) (tt : TT) (te : TE) (vs : List Nat) (σ : L2.St) (D : Addr) (H1 : Hp) (Q : VK) : Prop := ∃ W : Nat → Nat → Hp → Prop, (∃ m, W 0 m (upd H1 D (.lst []))) ∧ ∀ i m H, W i m H → (J.stop i H ∧ Q (.ref D) H) ∨
  (J.go i H ∧ ∃ Nx : Hp → Prop, (∀ H', Nx H' → ∃ m', m' < m ∧ W (i + 1) m' H') ∧ ∀ x H', J.yld i H x H' → g x (wipe σ vs) H' fun σ2 H2 => wipe σ2 vs = wipe σ vs ∧ tt σ2 H2 fun b H3 => if b = true then te σ2 H3 fun y H4 => ∃ acc, H4 D = some (.lst acc) ∧ acc.length < sizeLine ∧ Nx (upd H4 D (.lst (acc ++ [y]))) else Nx H3)
section
variable {K : PySem.W.Frag} {σ : L2.St} {H : Hp} {Q : VK} {wi : TI} {g : TG} {tb : TS} {D : Ends} {tt : TT} {te : TE} {vs : List Nat} {ta : TA} {R : It → Hp → Prop} {r : V → Option Int → Option Int → Hp → VK → Prop} {tl th : TO}
theorem rd_for (q : wi σ H fun J H1 => qFor J g tb D σ H1) : tFor wi g tb D σ H := q
theorem rd_lc (q : wi σ H fun J H1 => ∀ D, H1 D = none → qLc J g tt te vs σ D H1 Q) : tLc wi g tt te vs σ H Q := q
theorem rd_rng1 (q : ta σ H fun vs H1 => ∃ j : Int, vs = [.int j] ∧ -(2 ^ 62) ≤ j ∧ j < 2 ^ 62 ∧ R (Itr 0 j.toNat) H1) : iRng1 ta σ H R := q
theorem rd_rng2 (q : ta σ H fun vs H1 => ∃ i j : Int, vs = [.int i, .int j] ∧ (-(2 ^ 62) ≤ i ∧ i < 2 ^ 62 ∧ -(2 ^ 62) ≤ j ∧ j < 2 ^ 62) ∧ R (Itr i (j - i).toNat) H1) : iRng2 ta σ H R := q
theorem rd_rng {j : Int} {P : Int → Prop} (h0 : -(2 ^ 62) ≤ j) (h1 : j < 2 ^ 62) (q : P j) : ∃ i : Int, [V.int j] = [.int i] ∧ -(2 ^ 62) ≤ i ∧ i < 2 ^ 62 ∧ P i := ⟨j, rfl, h0, h1, q⟩
theorem rd_rngB {i j : Int} (h : -(2 ^ 62) ≤ i ∧ i < 2 ^ 62 ∧ -(2 ^ 62) ≤ j ∧ j < 2 ^ 62) {P : Int → Int → Prop} (q : P i j) : ∃ i' j' : Int, [V.int i, V.int j] = [.int i', .int j'] ∧ (-(2 ^ 62) ≤ i' ∧ i' < 2 ^ 62 ∧ -(2 ^ 62) ≤ j' ∧ j' < 2 ^ 62) ∧ P i' j' := ⟨i, j, rfl, h, q⟩
theorem rd_il (q : te σ H fun x H1 => ∃ a, x = .ref a ∧ (∃ xs, SqL K H1 a xs) ∧ R (Itl K a) H1) : iList K te σ H R := q
theorem rd_it (q : te σ H fun x H1 => ∃ a, x = .ref a ∧ (∃ xs, SqT K H1 a xs) ∧ R (Itt K a) H1) : iTup K te σ H R := q
theorem rd_itl {a : Addr} {P : Addr → Prop} (h : ∃ xs, SqL K H a xs) (q : P a) : ∃ a', V.ref a = .ref a' ∧ (∃ xs, SqL K H a' xs) ∧ P a' := ⟨a, rfl, h, q⟩
theorem rd_itt {a : Addr} {P : Addr → Prop} (h : ∃ xs, SqT K H a xs) (q : P a) : ∃ a', V.ref a = .ref a' ∧ (∃ xs, SqT K H a' xs) ∧ P a' := ⟨a, rfl, h, q⟩
theorem Is.sql {M : List Addr} {a : Addr} {ds : List PyData} (i : Is M H (.ref a) (.list ds)) : ∃ xs, SqL K H a xs := by
  obtain ⟨xs, _, h, _⟩ := i.list
  exact ⟨xs, SqL.of h⟩
theorem Is.sqt {M : List Addr} {a : Addr} {ds : List PyData} (i : Is M H (.ref a) (.tuple ds)) : ∃ xs, SqT K H a xs := by
  obtain ⟨xs, _, h, _⟩ := i.tuple
  exact ⟨xs, SqT.of h⟩
theorem sql_of {a : Addr} {xs : List V} (h : H a = some (.lst xs)) : ∃ xs, SqL K H a xs := ⟨xs, SqL.of h⟩
theorem rd_sl (q : te σ H fun x H1 => tl σ H1 fun l H2 => th σ H2 fun u H3 => r x l u H3 Q) : tSl r te tl th σ H Q := q
theorem rd_part {QO : Option Int → Hp → Prop} (q : te σ H fun x H1 => ∃ i, x = .int i ∧ QO (some i) H1) : tPart te σ H QO := q
theorem rd_pi {i : Int} {P : Int → Prop} (q : P i) : ∃ i', V.int i = .int i' ∧ P i' := ⟨i, rfl, q⟩
theorem rd_pn {QO : Option Int → Hp → Prop} (q : QO none H) : tNoPart σ H QO := q
theorem rd_slL {M : List Addr} {a : Addr} {lo hi : Option Int} {ds : List PyData} (h : Is M H (.ref a) (.list ds)) (q : ∀ xs, H a = some (.lst xs) → IsAll M H xs ds → ∀ p, H p = none → Q (.ref p) (upd H p (.lst (cutV xs lo hi)))) : rSlL K (.ref a) lo hi H Q := by
  obtain ⟨xs, _, hx, r⟩ := h.list
  exact ⟨a, xs, rfl, SqL.of hx, q xs hx r⟩
/-- a range, by its turns -/
theorem q_range {lo : Int} {n : Nat} (Pv : Nat → L2.St → Hp → Prop) (h0 : Pv 0 σ H) (hs : ∀ i σ H, i < n → Pv i σ H → g (.int (lo + i)) σ H fun σ2 H2 => tb { D with nx := Pv (i + 1), ct := Pv (i + 1), bk := D.nx } σ2 H2)
    (hd : ∀ σ H, Pv n σ H → D.nx σ H) : qFor (Itr lo n) g tb D σ H := for_range Pv h0 hs hd
theorem q_data {M : List Addr} {H0 : Hp} {a : Addr} {ds : List PyData} (h : Is M H0 (.ref a) (.list ds)) (Pv : Nat → L2.St → Hp → Prop) (h0 : Pv 0 σ H) (hE : ∀ i σ H, Pv i σ H → Ext M H0 H)
    (hs : ∀ i d x σ H, ds[i]? = some d → Is M H x d → Pv i σ H → g x σ H fun σ2 H2 => tb { D with nx := Pv (i + 1), ct := Pv (i + 1), bk := D.nx } σ2 H2) (hd : ∀ σ H, Pv ds.length σ H → D.nx σ H) : qFor (Itl K a) g tb D σ H := for_data h Pv h0 hE hs hd
theorem q_dataT {M : List Addr} {H0 : Hp} {a : Addr} {ds : List PyData} (h : Is M H0 (.ref a) (.tuple ds)) (Pv : Nat → L2.St → Hp → Prop) (h0 : Pv 0 σ H) (hE : ∀ i σ H, Pv i σ H → Ext M H0 H)
    (hs : ∀ i d x σ H, ds[i]? = some d → Is M H x d → Pv i σ H → g x σ H fun σ2 H2 => tb { D with nx := Pv (i + 1), ct := Pv (i + 1), bk := D.nx } σ2 H2) (hd : ∀ σ H, Pv ds.length σ H → D.nx σ H) : qFor (Itt K a) g tb D σ H := for_dataT h Pv h0 hE hs hd
end
section
variable {K : PySem.W.Frag} {σ : L2.St} {H : Hp} {Q : VK} {te : TE} {a : Addr} {xs : List V}
theorem rd_rev (q : te σ H fun x H1 => ∃ a xs, x = .ref a ∧ SqL K H1 a xs ∧ ∀ p, H1 p = none → Q (.ref p) (upd H1 p (.lst xs.reverse))) : tRevL K te σ H Q := q
theorem rd_revd (h : SqL K H a xs) (q : ∀ p, H p = none → Q (.ref p) (upd H p (.lst xs.reverse))) : ∃ a' xs', V.ref a = .ref a' ∧ SqL K H a' xs' ∧ ∀ p, H p = none → Q (.ref p) (upd H p (.lst xs'.reverse)) := ⟨a, xs, rfl, h, q⟩
theorem rd_listT {p : Addr} (h : SqT K H p xs) (q : ∀ l, H l = none → Q (.ref l) (upd H l (.lst xs))) : qListOf K [.ref p] H Q := ⟨p, xs, rfl, .inr h, q⟩
theorem rd_cat {l b : Addr} {xs zs : List V} (h : H l = some (.lst xs)) (k : H b = some (.lst zs)) (hz : xs.length + zs.length ≤ sizeLine) (q : ∀ p, H p = none → Q (.ref p) (upd H p (.lst (xs ++ zs)))) : rCat (.ref l) (.ref b) H Q := ⟨l, b, xs, zs, rfl, rfl, h, k, hz, q⟩
theorem rd_dcat {M : List Addr} {l b : Addr} {ds es : List PyData} (s : Al M H) (h : Is M H (.ref l) (.list ds)) (k : Is M H (.ref b) (.list es)) (hz : ds.length + es.length ≤ 100000)
    (q : ∀ p H', H p = none → Ext [] H H' → (∃ xs, H' p = some (.lst xs) ∧ IsAll (p :: M) H' xs (ds ++ es)) → Is M H' (.ref p) (.list (ds ++ es)) → Q (.ref p) H') : rCat (.ref l) (.ref b) H Q := by
  obtain ⟨xs, _, hx, r⟩ := h.list
  obtain ⟨zs, _, hz', r'⟩ := k.list
  refine rd_cat hx hz' (szL (by rw [r.length, r'.length]; exact hz)) fun p hp => ?_
  exact q p _ hp (.new hp) ⟨_, upd_same, (r.append r').beside hp⟩ (new_lst s (r.append r') hp)
theorem rd_dlist {M : List Addr} {l : Addr} {ds : List PyData} (s : Al M H) (h : Is M H (.ref l) (.list ds))
    (q : ∀ p H', H p = none → Ext [] H H' → (∃ xs, H' p = some (.lst xs) ∧ IsAll (p :: M) H' xs ds) → Is M H' (.ref p) (.list ds) → Q (.ref p) H') : qListOf K [.ref l] H Q := by
  obtain ⟨xs, _, hx, r⟩ := h.list
  refine rd_listL (SqL.of hx) fun p hp => ?_
  exact q p _ hp (.new hp) ⟨_, upd_same, r.beside hp⟩ (new_lst s r hp)
end
/-! ### rules with the written part by its name (so that they stand within comprehensions too) -/
section
variable {X : Cx} (K : PySem.W.Frag) (hK : X.K = K := by rfl)
include hK
theorem sl_listK : SlR X (rSlL K) := hK ▸ sl_list
theorem sl_tupK : SlR X (rSlT K) := hK ▸ sl_tup
theorem ix_listK : IxR X (rIxL K) := hK ▸ ix_list
theorem ix_tupK : IxR X (rIxT K) := hK ▸ ix_tup
theorem ix_seqK : IxR X (rIx K) := hK ▸ ix_seq
theorem get_listK : PGet X (rIxL K) := hK ▸ get_list
theorem call_lenK : CallR X (.builtin "len") (qLen K) := hK ▸ call_lenq
theorem call_listK : CallR X (.type "list") (qListOf K) := hK ▸ call_listq
theorem call_isK : CallR X (.builtin "isinstance") (rIsi K) := hK ▸ call_isi
theorem op_in_seqK : OpR X (compareOp .In) (rIn K false) := hK ▸ op_in_seq
theorem op_notIn_seqK : OpR X (compareOp .NotIn) (rIn K true) := hK ▸ op_notIn_seq
theorem op_catTK : OpR X (binaryOp .Add) (rCatT K) := hK ▸ op_catT
omit hK
theorem op_eqDK (hu : X.A.units + 64 < cLine) (hK : X.K = K := by rfl) : OpR X (compareOp .Eq) (rEqD K) := hK ▸ op_eqD hu
theorem op_neDK (hu : X.A.units + 64 < cLine) (hK : X.K = K := by rfl) : OpR X (compareOp .NotEq) (rNeD K) := hK ▸ op_neD hu
end
section
variable {X : Cx} {e o : Expr} {ta to te : TE} {t : TA} {tg : Expr} {pos : Pos} {f : Str}
theorem pe_fldK (K : PySem.W.Frag) (he : PE X e ta) (hb : attributeBase e f X.env (eval e X.env) = eval e X.env) (hK : X.K = K := by rfl) : PE X (.Attribute e f pos) (tFld K ta f) := hK ▸ pe_fld he hb
def qTru (K : PySem.W.Frag) (ta : TE) : TT := fun σ H Q => ta σ H fun x H' => ∃ k, TruV K x H' k ∧ Q k H'
theorem pt_truthK (K : PySem.W.Frag) (ha : PE X e ta) (he : ∀ whole, isTrue e X.env whole = (do let v ← whole; standAt e.pos; holding [v] (truthy v))) (hK : X.K = K := by rfl) : PT X e (qTru K ta) := by
  subst hK
  exact pt_truth ha he
theorem pi_listK (K : PySem.W.Frag) (hl : PE X e te) (hK : X.K = K := by rfl) : PI X tg e (iList K te) := hK ▸ pi_list hl
theorem pi_tupK (K : PySem.W.Frag) (hl : PE X e te) (hK : X.K = K := by rfl) : PI X tg e (iTup K te) := hK ▸ pi_tup hl
theorem pg_tupK (K : PySem.W.Frag) {es : List Expr} {k : Nat} {t : TGs} {n : Nat} (hc : X.calm = true) (h : PGs X es t) (hn : (assignEach es X.env).length = n := by rfl) (hst : (assignEach es X.env).findIdx? (·.1) = none := by rfl) (hK : X.K = K := by rfl) : PG X (.Tuple es k pos) (gTup K n t) := hK ▸ pg_tup hc h hn hst
theorem pe_revLK (K : PySem.W.Frag) {k : Nat} {p1 p2 p3 : Pos} (he : PE X e te) (hK : X.K = K := by rfl) : PE X (.Subscript e (.Slice none none (some (.UnaryOp .USub (.Constant (.int 1) k p1) p2)) p3) pos) (tRevL K te) := hK ▸ pe_revL he
theorem rd_tru {K : PySem.W.Frag} {σ : L2.St} {H : Hp} {Q : Bool → Hp → Prop} (q : ta σ H fun x H' => ∃ k, TruV K x H' k ∧ Q k H') : qTru K ta σ H Q := q
end
section
variable {M : List Addr} {H0 H H1 : Hp} {a D : Addr} {ds : List PyData} {K : PySem.W.Frag} {j : Nat} {vs : List Nat} {te : TE} {tt : TT} {σ : L2.St} {Q : VK} {ta : TA} {R : It → Hp → Prop}
theorem rd_u {g : Int → V} {i : Int} (q : Q (g i) H) : rU g (.int i) H Q := ⟨i, rfl, q⟩
theorem rd_rng3 (q : ta σ H fun vs H1 => ∃ (i j c : Int) (n : Nat), vs = [.int i, .int j, .int c] ∧ RgC i j c n ∧ R (Itc i c n) H1) : iRng3 ta σ H R := q
theorem rgC_up {i j c : Int} (hc : 0 < c) (hc' : c < 1073741824) (ha : 0 ≤ i) (ha' : i < 2 ^ 62) (hb : 0 ≤ j) (hb' : j < 2 ^ 62) : RgC i j c (if i < j then (j - i - 1) / c + 1 else 0).toNat := by
  refine ⟨by omega, by omega, ?_, ?_⟩
  · have h1 : 0 ≤ (j - i - 1) / c ∨ ¬ i < j := by
      by_cases h : i < j
      · exact .inl (Int.ediv_nonneg (by omega) (by omega))
      · exact .inr h
    have h2 : i < j → (j - i - 1) / c ≤ j - i - 1 := fun h => Int.ediv_le_self _ (by omega)
    unfold Builtin.Range.small Builtin.Range.rangeSize
    simp only [Builtin.Range.rangeFitsLong, Bool.and_eq_true, Bool.or_eq_true, decide_eq_true_eq, beq_iff_eq, hc, gt_iff_lt, if_true]
    by_cases h : i < j
    · have := h2 h
      have := h1.resolve_right (fun q => q h)
      simp only [h, if_true]
      omega
    · simp only [h, if_false]
      omega
  · unfold Builtin.Range.rangeSize
    simp only [hc, gt_iff_lt, if_true]
    by_cases h : i < j
    · simp only [h, if_true]
      have := Int.ediv_nonneg (a := j - i - 1) (b := c) (by omega) (by omega)
      omega
    · simp only [h, if_false]
      rfl
/-- [e for x in range(i, j, c)] -/
theorem q_lcC {lo c : Int} {n : Nat} (f : Nat → PyData) (s : Al M H0) (hD : H0 D = none) (hn : n ≤ 100000) (hw : ∀ x, wipe ((wipe σ vs).set j (some x)) vs = wipe σ vs)
    (he : ∀ (i : Nat) H', i < n → Al (D :: M) H' → Ext [] H0 H' → ∀ R : VK, (∀ y H'', Ext [] H' H'' → Is (D :: M) H'' y (f i) → R y H'') → te ((wipe σ vs).set j (some (.int (lo + (i : Nat) * c)))) H' R)
    (hd : ∀ H', Ext [] H0 H' → Is M H' (.ref D) (.list ((List.range n).map f)) → Q (.ref D) H') : qLc (Itc lo c n) (gName j) tYes te vs σ D H0 Q := by
  refine ⟨fun i m H => m = n - i ∧ i ≤ n ∧ Made M H0 D ((List.range i).map f) H, ⟨n, by simp, Nat.zero_le _, Made.start s hD⟩, ?_⟩
  rintro i m H ⟨rfl, hi, p⟩
  by_cases hlt : i < n
  · refine .inr ⟨hlt, fun H' => Made M H0 D ((List.range (i + 1)).map f) H', fun H' p' => ⟨n - (i + 1), by omega, rfl, hlt, p'⟩, fun x H' y => ?_⟩
    obtain ⟨e, y⟩ := y
    subst e y
    refine ⟨hw _, rd_yes ?_⟩
    refine iteT ?_
    refine he i _ hlt (p.al s) p.ext _ fun y H'' e r => ?_
    rw [List.range_succ, List.map_append]
    exact p.step e r (by rw [List.length_map, List.length_range]; omega)
  · have e : i = n := by omega
    subst e
    exact .inl ⟨Nat.le_refl _, hd H p.ext p.is⟩
theorem q_lcR {lo : Int} {n : Nat} (f : Nat → PyData) (s : Al M H0) (hD : H0 D = none) (hn : n ≤ 100000) (hw : ∀ x, wipe ((wipe σ vs).set j (some x)) vs = wipe σ vs)
    (he : ∀ (i : Nat) H', i < n → Al (D :: M) H' → Ext [] H0 H' → ∀ R : VK, (∀ y H'', Ext [] H' H'' → Is (D :: M) H'' y (f i) → R y H'') → te ((wipe σ vs).set j (some (.int (lo + i)))) H' R)
    (hd : ∀ H', Ext [] H0 H' → Is M H' (.ref D) (.list ((List.range n).map f)) → Q (.ref D) H') : qLc (Itr lo n) (gName j) tYes te vs σ D H0 Q := lc_rng f s hD hn hw he hd
theorem q_lcL (f : PyData → PyData) (s : Al M H0) (hD : H0 D = none) (h : Is M H0 (.ref a) (.list ds)) (hn : ds.length ≤ 100000) (hw : ∀ x, wipe ((wipe σ vs).set j (some x)) vs = wipe σ vs)
    (he : ∀ (x : V) (d : PyData) H', d ∈ ds → Al (D :: M) H' → Ext [] H0 H' → Is (D :: M) H' x d → ∀ R : VK, (∀ y H'', Ext [] H' H'' → Is (D :: M) H'' y (f d) → R y H'') → te ((wipe σ vs).set j (some x)) H' R)
    (hd : ∀ H', Ext [] H0 H' → Is M H' (.ref D) (.list (ds.map f)) → Q (.ref D) H') : qLc (Itl K a) (gName j) tYes te vs σ D H0 Q := lc_map f s hD h hn hw he hd
theorem q_lcF (f : PyData → PyData) (p : PyData → Bool) (s : Al M H0) (hD : H0 D = none) (h : Is M H0 (.ref a) (.list ds)) (hn : ds.length ≤ 100000) (hw : ∀ x, wipe ((wipe σ vs).set j (some x)) vs = wipe σ vs)
    (ht : ∀ (x : V) (d : PyData) H', d ∈ ds → Al (D :: M) H' → Ext [] H0 H' → Is (D :: M) H' x d → ∀ R : Bool → Hp → Prop, (∀ H'', Ext [] H' H'' → R (p d) H'') → tt ((wipe σ vs).set j (some x)) H' R)
    (he : ∀ (x : V) (d : PyData) H', d ∈ ds → p d = true → Al (D :: M) H' → Ext [] H0 H' → Is (D :: M) H' x d → ∀ R : VK, (∀ y H'', Ext [] H' H'' → Is (D :: M) H'' y (f d) → R y H'') → te ((wipe σ vs).set j (some x)) H' R)
    (hd : ∀ H', Ext [] H0 H' → Is M H' (.ref D) (.list ((ds.filter p).map f)) → Q (.ref D) H') : qLc (Itl K a) (gName j) tt te vs σ D H0 Q := lc_filter f p s hD h hn hw ht he hd
end
section
variable {M : List Addr} {H : Hp} {xs : List V} {ds : List PyData} {a : Addr} {K : PySem.W.Frag} {Q : VK}
theorem IsAll.cutI {lo hi : Int} {l h : Nat} (r : IsAll M H xs ds) (hl : lo = (l : Int)) (hh : hi = (h : Int)) : IsAll M H (cutV xs (some lo) (some hi)) ((ds.take h).drop l) := by
  subst hl hh
  exact r.cut
theorem IsAll.cutI0 {hi : Int} {h : Nat} (r : IsAll M H xs ds) (hh : hi = (h : Int)) : IsAll M H (cutV xs none (some hi)) (ds.take h) := by
  subst hh
  exact r.cut0
theorem IsAll.cutIN {lo : Int} {l : Nat} (r : IsAll M H xs ds) (hl : lo = (l : Int)) : IsAll M H (cutV xs (some lo) none) (ds.drop l) := by
  subst hl
  exact r.cutN
/-- slices of data -/
theorem rd_cut {lo hi : Int} {l h : Nat} (s : Al M H) (i : Is M H (.ref a) (.list ds)) (hl : lo = (l : Int)) (hh : hi = (h : Int)) (q : ∀ p H', H p = none → Ext [] H H' → (∃ xs, H' p = some (.lst xs) ∧ IsAll (p :: M) H' xs ((ds.take h).drop l)) → Is M H' (.ref p) (.list ((ds.take h).drop l)) → Q (.ref p) H') :
    rSlL K (.ref a) (some lo) (some hi) H Q := rd_slL i fun _ _ r p hp => q p _ hp (.new hp) ⟨_, upd_same, (r.cutI hl hh).beside hp⟩ (new_lst s (r.cutI hl hh) hp)
theorem rd_cut0 {hi : Int} {h : Nat} (s : Al M H) (i : Is M H (.ref a) (.list ds)) (hh : hi = (h : Int)) (q : ∀ p H', H p = none → Ext [] H H' → (∃ xs, H' p = some (.lst xs) ∧ IsAll (p :: M) H' xs (ds.take h)) → Is M H' (.ref p) (.list (ds.take h)) → Q (.ref p) H') :
    rSlL K (.ref a) none (some hi) H Q := rd_slL i fun _ _ r p hp => q p _ hp (.new hp) ⟨_, upd_same, (r.cutI0 hh).beside hp⟩ (new_lst s (r.cutI0 hh) hp)
theorem rd_cutN {lo : Int} {l : Nat} (s : Al M H) (i : Is M H (.ref a) (.list ds)) (hl : lo = (l : Int)) (q : ∀ p H', H p = none → Ext [] H H' → (∃ xs, H' p = some (.lst xs) ∧ IsAll (p :: M) H' xs (ds.drop l)) → Is M H' (.ref p) (.list (ds.drop l)) → Q (.ref p) H') :
    rSlL K (.ref a) (some lo) none H Q := rd_slL i fun _ _ r p hp => q p _ hp (.new hp) ⟨_, upd_same, (r.cutIN hl).beside hp⟩ (new_lst s (r.cutIN hl) hp)
/-- l.extend(b) -/
theorem rd_ext {l b : Addr} {xs zs : List V} (h : H l = some (.lst xs)) (k : H b = some (.lst zs)) (hz : xs.length + zs.length ≤ 100000) (q : Q .non (upd H l (.lst (xs ++ zs)))) : rExtend (.ref l) [.ref b] H Q := ⟨l, b, xs, zs, rfl, rfl, h, k, szL hz, q⟩
theorem map_cut (ns : List Nat) (l h : Nat) : ((ns.map fun n : Nat => PyData.int n).take h).drop l = ((ns.take h).drop l).map fun n : Nat => PyData.int n := by rw [List.map_drop, List.map_take]
end
/-! ### facts found by themselves: steps from heap to heap -/
section
variable {M M' : List Addr} {A B C H H' : Hp} {p : Addr} {o : HO} {v : V} {d : PyData}
theorem at_is (e : Ext M H H') (i : Is M H v d) : Is M H' v d := i.mono e
theorem at_is0 (e : Ext [] H H') (i : Is M H v d) : Is M H' v d := i.mono e.any
theorem at_is1 {N : List Addr} {D : Addr} (e : Ext N H H') (i : Is (D :: N) H v d) : Is (D :: N) H' v d := i.mono (e.more fun b hb => List.mem_cons_of_mem _ hb)
theorem at_isN (h : H p = none) (i : Is M H v d) : Is M (upd H p o) v d := i.mono (.new h)
theorem at_al (e : Ext M' H H') (s : Al M H) : Al M H' := s.ext e
theorem at_alN (s : Al M H) : Al M (upd H p o) := fun b hb => there_upd b (s b hb)
theorem at_ext (e : Ext M B C) (f : Ext M A B) : Ext M A C := f.trans e
theorem at_ext0 (e : Ext [] B C) (f : Ext M A B) : Ext M A C := f.trans e.any
theorem at_extN (h : B p = none) (f : Ext M A B) : Ext M A (upd B p o) := f.trans (.new h)
end
/-- lists of lists of numbers -/
abbrev natss (S : List (List Nat)) : PyData := .list (S.map nats)
/-- what is new in the heap H -/
def New (H H' : Hp) (v : V) (d : PyData) : Prop := ∀ M, Al M H → Is M H' v d
theorem New.of {M : List Addr} {A B H H' : Hp} {v : V} {d : PyData} (h : New H H' v d) (e : Ext M A H) : New A H' v d := fun _ s => h _ (s.ext e)
section
variable {M : List Addr} {H : Hp} {Q : VK} {K : PySem.W.Frag} {a b : Addr} {xs ys : List Nat} {ds es : List PyData} {vs : List V}
theorem rd_newL (s : Al M H) (h : IsAll M H vs ds) (hz : vs.length ≤ 1000) (q : ∀ p H', H p = none → Ext [] H H' → H' p = some (.lst vs) → Is M H' (.ref p) (.list ds) → Q (.ref p) H') : qNewL vs H Q :=
  ⟨szl hz, fun p hp => q p _ hp (.new hp) upd_same (new_lst s h hp)⟩
theorem rd_newT (s : Al M H) (h : IsAll M H vs ds) (hz : vs.length ≤ 1000) (q : ∀ p H', H p = none → Ext [] H H' → H' p = some (.tup vs) → Is M H' (.ref p) (.tuple ds) → Q (.ref p) H') : qNewT vs H Q :=
  ⟨szl hz, fun p hp => q p _ hp (.new hp) upd_same (new_tup s h hp)⟩
theorem rd_ncat (s : Al M H) (h : Is M H (.ref a) (nats xs)) (k : Is M H (.ref b) (nats ys)) (hz : xs.length + ys.length ≤ 100000) (q : ∀ p H', H p = none → Ext [] H H' → Is M H' (.ref p) (nats (xs ++ ys)) → Q (.ref p) H') : rCat (.ref a) (.ref b) H Q :=
  rd_dcat s h k (by rw [List.length_map, List.length_map]; exact hz) fun p H' hp e _ i => q p H' hp e (by rw [nats, List.map_append]; exact i)
theorem rd_ncut {lo hi : Int} {l h : Nat} (s : Al M H) (i : Is M H (.ref a) (nats xs)) (hl : lo = (l : Int)) (hh : hi = (h : Int)) (q : ∀ p H', H p = none → Ext [] H H' → Is M H' (.ref p) (nats ((xs.take h).drop l)) → Q (.ref p) H') : rSlL K (.ref a) (some lo) (some hi) H Q :=
  rd_cut s i hl hh fun p H' hp e _ j => q p H' hp e (by rw [nats, List.map_drop, List.map_take]; exact j)
theorem rd_ncut0 {hi : Int} {h : Nat} (s : Al M H) (i : Is M H (.ref a) (nats xs)) (hh : hi = (h : Int)) (q : ∀ p H', H p = none → Ext [] H H' → Is M H' (.ref p) (nats (xs.take h)) → Q (.ref p) H') : rSlL K (.ref a) none (some hi) H Q :=
  rd_cut0 s i hh fun p H' hp e _ j => q p H' hp e (by rw [nats, List.map_take]; exact j)
theorem rd_ncutN {lo : Int} {l : Nat} (s : Al M H) (i : Is M H (.ref a) (nats xs)) (hl : lo = (l : Int)) (q : ∀ p H', H p = none → Ext [] H H' → Is M H' (.ref p) (nats (xs.drop l)) → Q (.ref p) H') : rSlL K (.ref a) (some lo) none H Q :=
  rd_cutN s i hl fun p H' hp e _ j => q p H' hp e (by rw [nats, List.map_drop]; exact j)
theorem rd_ndlist (s : Al M H) (h : Is M H (.ref a) (nats xs)) (q : ∀ p H', H p = none → Ext [] H H' → Is M H' (.ref p) (nats xs) → Q (.ref p) H') : qListOf K [.ref a] H Q := rd_dlist s h fun p H' hp e _ i => q p H' hp e i
theorem rd_nix {i : Int} {j : Nat} (h : Is M H (.ref a) (nats xs)) (hj : i = (j : Int)) (hd : j < xs.length) (q : Q (.int ((xs.getD j 0 : Nat) : Int)) H) : rIxL K (.ref a) (.int i) H Q := by
  refine rd_dix h hj (by rw [List.getElem?_map, List.getElem?_eq_getElem hd]; rfl) fun v iv => ?_
  rw [List.getD_eq_getElem?_getD, List.getElem?_eq_getElem hd] at q
  cases iv
  exact q
theorem rd_nlen (h : Is M H (.ref a) (nats xs)) (q : Q (.int xs.length) H) : qLen K [.ref a] H Q := rd_dlen h fun _ => by rw [List.length_map]; exact q
theorem rd_rep {k : Int} {ws : List V} (h : H a = some (.lst ws)) (h0 : -(2 ^ 63) ≤ k) (h1 : k < 2 ^ 63) (hz : ws.length * k.toNat ≤ 100000) (q : ∀ p, H p = none → Q (.ref p) (upd H p (.lst (List.replicate k.toNat ws).flatten))) : rRep (.ref a) (.int k) H Q := ⟨a, k, ws, rfl, rfl, h, h0, h1, szL hz, q⟩
theorem IsAll.reps (h : IsAll M H vs ds) : ∀ k, IsAll M H (List.replicate k vs).flatten (List.replicate k ds).flatten
  | 0 => .nil
  | k + 1 => by
    rw [List.replicate_succ, List.replicate_succ, List.flatten_cons, List.flatten_cons]
    exact h.append (IsAll.reps h k)
theorem rd_drep {k : Int} (s : Al M H) (h : Is M H (.ref a) (.list ds)) (h0 : -(2 ^ 63) ≤ k) (h1 : k < 2 ^ 63) (hz : ds.length * k.toNat ≤ 100000) (q : ∀ p H', H p = none → Ext [] H H' → Is M H' (.ref p) (.list (List.replicate k.toNat ds).flatten) → Q (.ref p) H') : rRep (.ref a) (.int k) H Q := by
  obtain ⟨ws, _, hx, r⟩ := h.list
  exact rd_rep hx h0 h1 (by rw [r.length]; exact hz) fun p hp => q p _ hp (.new hp) (new_lst s (r.reps _) hp)
theorem rd_nrep1 {k : Int} {n j : Nat} (s : Al M H) (h : H a = some (.lst [.int n])) (hk : k.toNat = j) (h0 : -(2 ^ 62) ≤ k) (h1 : k ≤ 100000) (q : ∀ p H', H p = none → Ext [] H H' → Is M H' (.ref p) (nats (List.replicate j n)) → Q (.ref p) H') : rRep (.ref a) (.int k) H Q := by
  refine rd_rep h (by omega) (by omega) (by rw [List.length_singleton]; omega) fun p hp => q p _ hp (.new hp) (new_lst s ?_ hp)
  rw [hk]
  have e : (List.replicate j [V.int n]).flatten = (List.replicate j n).map fun n : Nat => V.int n := by rw [List.map_replicate]; induction j with
    | zero => rfl
    | succ j ih => rw [List.replicate_succ, List.replicate_succ, List.flatten_cons] ; exact congrArg (V.int n :: ·) (by clear hk; exact List.flatten_replicate_singleton)
  rw [e]
  exact nats_V _
end
section
variable {K : PySem.W.Frag} {H : Hp} {Q : VK} {p : Addr}
theorem rd_pick {P : Int → Prop} {ns : List Int} {v : Nat} (h : H p = some (.lst (ns.map V.int))) (hv : v < ns.length) (hP : ∀ n ∈ ns, P n) (q : ∀ n, P n → Q (.int n) H) : rIxL K (.ref p) (.int v) H Q :=
  rd_ixL (SqL.of h) (atI_nat (by rw [List.getElem?_map, List.getElem?_eq_getElem hv]; rfl)) (q _ (hP _ (List.getElem_mem hv)))
end
/-! ### lists of the module in sums -/
structure PlK (K : PySem.W.Frag) (a : Addr) (xs : List V) : Prop where
  ex : ∃ (its : Array Value) (n : Nat), K.lookup a = some { cls := .type "list", data := .seq its n } ∧ its.size ≤ sizeLine ∧ Vals xs its.toList
theorem PlK.sq {K : PySem.W.Frag} {a : Addr} {xs : List V} (h : PlK K a xs) (H : Hp) : SqL K H a xs := by
  obtain ⟨its, n, e, hz, r⟩ := h.ex
  exact .inr ⟨_, its, n, e, rfl, rfl, rfl, hz, r⟩
def plB (K : PySem.W.Frag) (x : Str) (vs : List He.Dv) : Bool := match K.lookup (He.ga K x) with
  | some ⟨.type c, none, .seq its _, sl⟩ => decide (c = "list") && (sl.toList.isEmpty && (decide (its.size ≤ sizeLine) && He.relAll (vs.map (He.Dv.v K)) its.toList))
  | _ => false
theorem plB_ok {K : PySem.W.Frag} {x : Str} {vs : List He.Dv} (h : plB K x vs = true) : PlK K (He.ga K x) (vs.map (He.Dv.v K)) := by
  unfold plB at h
  cases q : K.lookup (He.ga K x) with
  | none => rw [q] at h; cases h
  | some o =>
    obtain ⟨oc, od, dt, osl⟩ := o
    rw [q] at h
    cases oc with
    | type c =>
      cases od with
      | none =>
        cases dt with
        | seq its n =>
          simp only [Bool.and_eq_true, decide_eq_true_eq] at h
          obtain ⟨rfl, hs, hz, hr⟩ := h
          have e : osl = #[] := by
            obtain ⟨l⟩ := osl
            cases l with
            | nil => rfl
            | cons _ _ => cases hs
          subst e
          exact ⟨its, n, q, hz, He.relAll_ok hr⟩
        | _ => cases h
      | some _ => cases h
    | _ => cases h
def rCatK (K : PySem.W.Frag) : R2 := fun x y H Q => ∃ l b xs zs, x = .ref l ∧ y = .ref b ∧ (H l = some (.lst xs) ∨ PlK K l xs) ∧ (H b = some (.lst zs) ∨ PlK K b zs) ∧ xs.length + zs.length ≤ sizeLine ∧ ∀ p, H p = none → Q (.ref p) (upd H p (.lst (xs ++ zs)))
theorem lstK {X : Cx} {pins : List (Addr × Obj)} {σ : L2.St} {H : Hp} {s : Shared} {l : Addr} {xs : List V} (I : Inv X pins σ H s) (h : H l = some (.lst xs) ∨ PlK X.K l xs) : ∃ (its : List Value) (n : Nat), Vals xs its ∧ xs.length = its.length ∧ s.heap.get? l = some { cls := .type "list", data := .seq its.toArray n } := by
  rcases h with h | h
  · obtain ⟨z, its, n, r, hl, e⟩ := I.lstM h
    exact ⟨its, n, r, hl, e⟩
  · obtain ⟨its, n, e, hz, r⟩ := h.ex
    exact ⟨its.toList, n, r, r.length, by simpa using I.kIn l _ e⟩
theorem op_catK {X : Cx} (K : PySem.W.Frag) (hK : X.K = K := by rfl) : OpR X (binaryOp .Add) (rCatK K) := by
  subst hK
  intro pins s σ H x y v u Q I rx ry h
  obtain ⟨l, b, xs, zs, rfl, rfl, hH, hB, hz, q⟩ := h
  cases rx
  cases ry
  obtain ⟨its, n, r, hl, e⟩ := lstK I hH
  obtain ⟨its2, n2, r2, hl2, e2⟩ := lstK I hB
  refine PySem.P.add_list e e2 ?_ (by rw [List.size_toArray, List.size_toArray]; omega)
  rw [show its.toArray ++ its2.toArray = (its ++ its2).toArray by simp]
  exact ⟨.ref _, _, I.lnew (t' := s.toks) (r.append r2) (by rw [List.length_append]; omega), rfl, q _ I.fresh⟩
theorem rd_catK {K : PySem.W.Frag} {H : Hp} {Q : VK} {M : List Addr} {a b : Addr} {ms xs : List Nat} (s : Al M H) (h : PlK K a (ms.map fun n : Nat => V.int n)) (k : Is M H (.ref b) (nats xs)) (hz : ms.length + xs.length ≤ 100000)
    (q : ∀ p H', H p = none → Ext [] H H' → Is M H' (.ref p) (nats (ms ++ xs)) → Q (.ref p) H') : rCatK K (.ref a) (.ref b) H Q := by
  obtain ⟨ws, _, hx, r⟩ := k.list
  refine ⟨a, b, _, ws, rfl, rfl, .inr h, .inl hx, szL (by rw [r.length, List.length_map, List.length_map]; exact hz), fun p hp => q p _ hp (.new hp) (new_lst s ?_ hp)⟩
  rw [List.map_append]
  exact (nats_V ms).append r
/-! ### comprehensions and loops over lists of something, with a state beside -/
inductive All2 {α β : Type} (R : α → β → Prop) : List α → List β → Prop
  | nil : All2 R [] []
  | cons {a : α} {b : β} {as : List α} {bs : List β} : R a b → All2 R as bs → All2 R (a :: as) (b :: bs)
theorem All2.snoc {α β : Type} {R : α → β → Prop} {a : α} {b : β} : ∀ {as : List α} {bs : List β}, All2 R as bs → R a b → All2 R (as ++ [a]) (bs ++ [b])
  | _, _, .nil, h => .cons h .nil
  | _, _, .cons r t, h => .cons r (All2.snoc t h)
theorem All2.length {α β : Type} {R : α → β → Prop} : ∀ {as : List α} {bs : List β}, All2 R as bs → as.length = bs.length
  | _, _, .nil => rfl
  | _, _, .cons _ t => congrArg Nat.succ t.length
theorem All2.fn {α β : Type} {f : α → β} : ∀ {as : List α} {bs : List β}, All2 (fun a b => b = f a) as bs → bs = as.map f
  | _, _, .nil => rfl
  | _, _, .cons r t => by rw [r, t.fn]; rfl
theorem All2.mem {α β : Type} {R : α → β → Prop} {b : β} : ∀ {as : List α} {bs : List β}, All2 R as bs → b ∈ bs → ∃ a ∈ as, R a b
  | _, _, .nil, h => nomatch h
  | _, _, .cons r t, h => by
    rcases List.mem_cons.mp h with rfl | h
    · exact ⟨_, List.mem_cons_self .., r⟩
    · obtain ⟨a, ha, q⟩ := All2.mem t h
      exact ⟨a, List.mem_cons_of_mem _ ha, q⟩
/-- each of the second is a choice made by the first -/
theorem All2.pick {α β γ : Type} {R : α → γ → Prop} {g : γ → β} : ∀ {as : List α} {bs : List β}, All2 (fun a b => ∃ c, b = g c ∧ R a c) as bs → ∃ cs, bs = cs.map g ∧ All2 R as cs
  | _, _, .nil => ⟨[], rfl, .nil⟩
  | _, _, .cons ⟨c, e, r⟩ t => by
    obtain ⟨cs, e2, r2⟩ := All2.pick t
    exact ⟨c :: cs, by rw [e, e2]; rfl, .cons r r2⟩
structure MadeN (N M : List Addr) (H0 : Hp) (D : Addr) (es : List PyData) (H : Hp) : Prop where
  sub : ∀ b ∈ N, b ∈ M
  free : H0 D = none
  ext : Ext N H0 H
  off : D ∉ M
  ls : ∃ ys, H D = some (.lst ys) ∧ IsAll (D :: M) H ys es
section
variable {N M : List Addr} {H0 H H' : Hp} {a D : Addr} {es : List PyData} {K : PySem.W.Frag} {d : PyData} {y x v : V}
theorem MadeN.start (hN : ∀ b ∈ N, b ∈ M) (s : Al M H0) (hD : H0 D = none) : MadeN N M H0 D [] (upd H0 D (.lst [])) := ⟨hN, hD, .new hD, s.fresh hD, [], upd_same, .nil⟩
theorem MadeN.startE (hN : ∀ b ∈ N, b ∈ M) (s : Al M H0) (e : Ext N H0 H) (hD : H D = none) : MadeN N M H0 D [] (upd H D (.lst [])) := ⟨hN, e.free hD, e.trans (.new hD), (s.ext e).fresh hD, [], upd_same, .nil⟩
theorem MadeN.al (m : MadeN N M H0 D es H) (s : Al M H0) : Al (D :: M) H := by
  obtain ⟨ys, h1, h2⟩ := m.ls
  exact .cons (some_ne h1) (s.ext m.ext)
theorem MadeN.is (m : MadeN N M H0 D es H) : Is M H (.ref D) (.list es) := by
  obtain ⟨ys, h1, h2⟩ := m.ls
  exact .lst m.off h1 h2.on
theorem MadeN.ofs (m : MadeN N M H0 D es H) (i : Is M H0 v d) : Is (D :: M) H v d := (i.off m.free).mono (m.ext.more fun b hb => List.mem_cons_of_mem _ (m.sub b hb))
theorem MadeN.of0 (m : MadeN N M H0 D es H) (i : Is M H0 v d) : Is M H v d := (m.ofs i).on
theorem MadeN.nD (m : MadeN N M H0 D es H) : D ∉ N := fun q => m.off (m.sub _ q)
theorem MadeN.step (m : MadeN N M H0 D es H) (e : Ext N H H') (h : Is (D :: M) H' y d) (hl : es.length < 100000) :
    ∃ acc, H' D = some (.lst acc) ∧ acc.length < sizeLine ∧ MadeN N M H0 D (es ++ [d]) (upd H' D (.lst (acc ++ [y]))) := by
  obtain ⟨ys, h1, h2⟩ := m.ls
  refine ⟨ys, e.keep _ _ m.nD h1, szl' (by rw [h2.length]; omega), m.sub, m.free, (m.ext.trans e).mut m.free, m.off, _, upd_same, ?_⟩
  exact ((h2.mono (e.more fun b hb => List.mem_cons_of_mem _ (m.sub b hb))).append (.one h)).mono (.set (List.mem_cons_self ..))
theorem MadeN.go (m : MadeN N M H0 D es H) (e : Ext N H H') : MadeN N M H0 D es H' := by
  obtain ⟨ys, h1, h2⟩ := m.ls
  exact ⟨m.sub, m.free, m.ext.trans e, m.off, ys, e.keep _ _ m.nD h1, h2.mono (e.more fun b hb => List.mem_cons_of_mem _ (m.sub b hb))⟩
/-- D.append(e): rd_app first, then this -/
theorem MadeN.lst (m : MadeN N M H0 D es H) : ∃ ys, H D = some (.lst ys) := by
  obtain ⟨ys, h1, h2⟩ := m.ls
  exact ⟨ys, h1⟩
theorem rd_appE {G : List V → Prop} (m : MadeN N M H0 D es H) (e : Ext N H H') (i : Is (D :: M) H' y d) (hl : es.length < 100000) (k : ∀ acc, MadeN N M H0 D (es ++ [d]) (upd H' D (.lst (acc ++ [y]))) → G acc) :
    ∃ ys, H' D = some (.lst ys) ∧ ys.length < sizeLine ∧ G ys := by
  obtain ⟨acc, h3, h4, m'⟩ := m.step e i hl
  exact ⟨acc, h3, h4, k acc m'⟩
end
section
variable {N M : List Addr} {H0 H : Hp} {a D : Addr} {K : PySem.W.Frag} {j : Nat} {vs : List Nat} {te : TE} {σ : L2.St} {Q : VK} {α : Type} {L : List α} {g : α → PyData} {Rel : α → PyData → Prop} {RelI : Nat → PyData → Prop} {J : Hp → Prop}
/-- [e for x in a list], with what may change (N) and what goes along (J) -/
theorem q_lcA (J : Hp → Prop) (Rel : α → PyData → Prop) (hN : ∀ b ∈ N, b ∈ M) (s : Al M H0) (hD : H0 D = none) (h : Is M H0 (.ref a) (.list (L.map g))) (hn : L.length ≤ 100000) (hw : ∀ x, wipe ((wipe σ vs).set j (some x)) vs = wipe σ vs)
    (j0 : J H0) (hJ : ∀ A o, J A → J (upd A D o))
    (he : ∀ (i : Nat) (x : V) (y : α) H', L[i]? = some y → Al (D :: M) H' → Ext N H0 H' → J H' → Is (D :: M) H' x (g y) → ∀ R : VK, (∀ w H'' e, Ext N H' H'' → J H'' → Is (D :: M) H'' w e → Rel y e → R w H'') → te ((wipe σ vs).set j (some x)) H' R)
    (hd : ∀ H' es, Ext N H0 H' → J H' → All2 Rel L es → Is M H' (.ref D) (.list es) → Q (.ref D) H') : qLc (Itl K a) (gName j) tYes te vs σ D H0 Q := by
  obtain ⟨xs, na, hx, r⟩ := h.list
  have hlen : xs.length = L.length := by rw [r.length, List.length_map]
  refine lc_list (xs := xs) (fun i H' => J H' ∧ ∃ es, All2 Rel (L.take i) es ∧ MadeN N M H0 D es H') ⟨hJ _ _ j0, [], .nil, MadeN.start hN s hD⟩ (fun i H' _ m => ?_) (fun i x H' hi m => ?_) fun H' m => ?_
  · obtain ⟨_, es, _, m⟩ := m
    exact SqL.of (m.ext.keep _ _ (fun q => na (hN _ q)) hx)
  · obtain ⟨jh, es, r2, m⟩ := m
    obtain ⟨d, hd', iv⟩ := r.got hi
    rw [List.getElem?_map] at hd'
    cases hy : L[i]? with
    | none => rw [hy] at hd'; cases hd'
    | some y =>
      rw [hy] at hd'
      cases hd'
      refine ⟨hw _, rd_yes ?_⟩
      refine iteT ?_
      refine he i x y H' hy (m.al s) m.ext jh (m.ofs iv) _ fun w H'' e e1 j1 i1 r1 => ?_
      obtain ⟨acc, h1, h2, m'⟩ := m.step e1 i1 (by
        have z := r2.length
        rw [List.length_take] at z
        have : i < L.length := (List.getElem?_eq_some_iff.mp hy).1
        omega)
      refine ⟨acc, h1, h2, hJ _ _ j1, es ++ [e], ?_, m'⟩
      rw [List.take_add_one, hy]
      exact r2.snoc r1
  · obtain ⟨jh, es, r2, m⟩ := m
    rw [hlen, List.take_length] at r2
    exact hd H' es m.ext jh r2 m.is
/-- [e for i in range(n)] -/
theorem q_lcAR {lo : Int} {n : Nat} (J : Hp → Prop) (Rel : Nat → PyData → Prop) (hN : ∀ b ∈ N, b ∈ M) (s : Al M H0) (hD : H0 D = none) (hn : n ≤ 100000) (hw : ∀ x, wipe ((wipe σ vs).set j (some x)) vs = wipe σ vs)
    (j0 : J H0) (hJ : ∀ A o, J A → J (upd A D o))
    (he : ∀ (i : Nat) H', i < n → Al (D :: M) H' → Ext N H0 H' → J H' → (∀ v d, Is M H0 v d → Is (D :: M) H' v d) → ∀ R : VK, (∀ w H'' e, Ext N H' H'' → J H'' → Is (D :: M) H'' w e → Rel i e → R w H'') → te ((wipe σ vs).set j (some (.int (lo + i)))) H' R)
    (hd : ∀ H' es, Ext N H0 H' → J H' → All2 Rel (List.range n) es → Is M H' (.ref D) (.list es) → Q (.ref D) H') : qLc (Itr lo n) (gName j) tYes te vs σ D H0 Q := by
  refine lc_range (fun i H' => J H' ∧ ∃ es, All2 Rel (List.range i) es ∧ MadeN N M H0 D es H') ⟨hJ _ _ j0, [], .nil, MadeN.start hN s hD⟩ (fun i H' hi m => ?_) fun H' m => ?_
  · obtain ⟨jh, es, r2, m⟩ := m
    refine ⟨hw _, rd_yes ?_⟩
    refine iteT ?_
    refine he i H' hi (m.al s) m.ext jh (fun v d => m.ofs) _ fun w H'' e e1 j1 i1 r1 => ?_
    obtain ⟨acc, h1, h2, m'⟩ := m.step e1 i1 (by
      have z := r2.length
      rw [List.length_range] at z
      omega)
    refine ⟨acc, h1, h2, hJ _ _ j1, es ++ [e], ?_, m'⟩
    rw [List.range_succ]
    exact r2.snoc r1
  · obtain ⟨jh, es, r2, m⟩ := m
    exact hd H' es m.ext jh r2 m.is
/-- without a state: a function of the elements -/
theorem q_lcM (f : α → PyData) (s : Al M H0) (hD : H0 D = none) (h : Is M H0 (.ref a) (.list (L.map g))) (hn : L.length ≤ 100000) (hw : ∀ x, wipe ((wipe σ vs).set j (some x)) vs = wipe σ vs)
    (he : ∀ (x : V) (y : α) H', y ∈ L → Al (D :: M) H' → Ext [] H0 H' → Is (D :: M) H' x (g y) → ∀ R : VK, (∀ w H'', Ext [] H' H'' → Is (D :: M) H'' w (f y) → R w H'') → te ((wipe σ vs).set j (some x)) H' R)
    (hd : ∀ H', Ext [] H0 H' → Is M H' (.ref D) (.list (L.map f)) → Q (.ref D) H') : qLc (Itl K a) (gName j) tYes te vs σ D H0 Q :=
  q_lcA (N := []) (fun _ => True) (fun y e => e = f y) (fun b h => nomatch h) s hD h hn hw trivial (fun _ _ _ => trivial) (fun i x y H' hy s' e _ iv R k => he x y H' (List.mem_of_getElem? hy) s' e iv R fun w H'' e2 i2 => k w H'' _ e2 trivial i2 rfl)
    fun H' es e _ r i => hd H' e (by rw [r.fn] at i; exact i)
variable {tb : TS} {E : Ends} {gt : TG}
/-- a walk over a list of something -/
theorem q_dataM (h : Is M H0 (.ref a) (.list (L.map g))) (Pv : Nat → L2.St → Hp → Prop) (h0 : Pv 0 σ H) (hE : ∀ i σ H, Pv i σ H → Ext M H0 H)
    (hs : ∀ i y x σ H, L[i]? = some y → Is M H x (g y) → Pv i σ H → gt x σ H fun σ2 H2 => tb { E with nx := Pv (i + 1), ct := Pv (i + 1), bk := E.nx } σ2 H2) (hd : ∀ σ H, Pv L.length σ H → E.nx σ H) : qFor (Itl K a) gt tb E σ H := by
  refine q_data h Pv h0 hE (fun i d x σ H hi iv p => ?_) fun σ H p => hd σ H (by rw [List.length_map] at p; exact p)
  rw [List.getElem?_map] at hi
  cases hy : L[i]? with
  | none => rw [hy] at hi; cases hi
  | some y =>
    rw [hy] at hi
    cases hi
    exact hs i y x σ H hy iv p
end
theorem take_snoc {α : Type} {L : List α} {i : Nat} {y : α} (h : L[i]? = some y) : L.take (i + 1) = L.take i ++ [y] := by rw [List.take_add_one, h]; rfl
/-! ### lists of something: parts, sums, places -/
section
variable {M : List Addr} {H : Hp} {Q : VK} {K : PySem.W.Frag} {a b : Addr} {α : Type} {L L2 : List α} {g : α → PyData}
theorem rd_mcut {lo hi : Int} {l h : Nat} (s : Al M H) (i : Is M H (.ref a) (.list (L.map g))) (hl : lo = (l : Int)) (hh : hi = (h : Int)) (q : ∀ p H', H p = none → Ext [] H H' → Is M H' (.ref p) (.list (((L.take h).drop l).map g)) → Q (.ref p) H') : rSlL K (.ref a) (some lo) (some hi) H Q :=
  rd_cut s i hl hh fun p H' hp e _ j => q p H' hp e (by rw [List.map_drop, List.map_take]; exact j)
theorem rd_mcut0 {hi : Int} {h : Nat} (s : Al M H) (i : Is M H (.ref a) (.list (L.map g))) (hh : hi = (h : Int)) (q : ∀ p H', H p = none → Ext [] H H' → Is M H' (.ref p) (.list ((L.take h).map g)) → Q (.ref p) H') : rSlL K (.ref a) none (some hi) H Q :=
  rd_cut0 s i hh fun p H' hp e _ j => q p H' hp e (by rw [List.map_take]; exact j)
theorem rd_mcutN {lo : Int} {l : Nat} (s : Al M H) (i : Is M H (.ref a) (.list (L.map g))) (hl : lo = (l : Int)) (q : ∀ p H', H p = none → Ext [] H H' → Is M H' (.ref p) (.list ((L.drop l).map g)) → Q (.ref p) H') : rSlL K (.ref a) (some lo) none H Q :=
  rd_cutN s i hl fun p H' hp e _ j => q p H' hp e (by rw [List.map_drop]; exact j)
theorem rd_mcat (s : Al M H) (h : Is M H (.ref a) (.list (L.map g))) (k : Is M H (.ref b) (.list (L2.map g))) (hz : L.length + L2.length ≤ 100000) (q : ∀ p H', H p = none → Ext [] H H' → (∃ xs, H' p = some (.lst xs) ∧ IsAll (p :: M) H' xs ((L ++ L2).map g)) → Is M H' (.ref p) (.list ((L ++ L2).map g)) → Q (.ref p) H') : rCat (.ref a) (.ref b) H Q :=
  rd_dcat s h k (by rw [List.length_map, List.length_map]; exact hz) fun p H' hp e x i => q p H' hp e (by rw [List.map_append]; exact x) (by rw [List.map_append]; exact i)
theorem rd_mix {i : Int} {j : Nat} {y : α} (h : Is M H (.ref a) (.list (L.map g))) (hj : i = (j : Int)) (hd : L[j]? = some y) (q : ∀ v, Is M H v (g y) → Q v H) : rIxL K (.ref a) (.int i) H Q :=
  rd_dix h hj (by rw [List.getElem?_map, hd]; rfl) q
theorem rd_mrep {k : Int} {j : Nat} (s : Al M H) (h : Is M H (.ref a) (.list (L.map g))) (hk : k.toNat = j) (h0 : -(2 ^ 62) ≤ k) (h1 : k ≤ 100000) (hz : L.length * j ≤ 100000) (q : ∀ p H', H p = none → Ext [] H H' → Is M H' (.ref p) (.list ((List.replicate j L).flatten.map g)) → Q (.ref p) H') : rRep (.ref a) (.int k) H Q := by
  subst hk
  refine rd_drep s h (by omega) (by omega) (by rw [List.length_map]; exact hz) fun p H' hp e i => q p H' hp e ?_
  rw [List.map_flatten, List.map_replicate]
  exact i
theorem get_D {xs : List (List Nat)} {j : Nat} (h : j < xs.length) : xs[j]? = some (xs.getD j []) := by rw [List.getD_eq_getElem?_getD, List.getElem?_eq_getElem h]; rfl
end
/-! ### the state of the law's numbers: a list of the script's list and three numbers -/
structure StAt (H : Hp) (p l : Addr) : Prop where
  ex : ∃ (ns : List Int) (i m s : Int), H p = some (.lst [.ref l, .int i, .int m, .int s]) ∧ H l = some (.lst (ns.map V.int)) ∧ 0 ≤ i ∧ i ≤ ns.length ∧ 0 ≤ m
  ne : p ≠ l
theorem StAt.ext {M : List Addr} {H H' : Hp} {p l : Addr} (s : StAt H p l) (e : Ext M H H') (h1 : p ∉ M) (h2 : l ∉ M) : StAt H' p l := by
  obtain ⟨⟨ns, i, m, s0, a, b, c⟩, ne⟩ := s
  exact ⟨⟨ns, i, m, s0, e.keep _ _ h1 a, e.keep _ _ h2 b, c⟩, ne⟩
theorem StAt.ext0 {H H' : Hp} {p l : Addr} (s : StAt H p l) (e : Ext [] H H') : StAt H' p l := s.ext e (by simp) (by simp)
theorem at_st0 {H H' : Hp} {p l : Addr} (e : Ext [] H H') (s : StAt H p l) : StAt H' p l := s.ext0 e
theorem at_stN {H : Hp} {p l q : Addr} {o : HO} (h : H q = none) (s : StAt H p l) : StAt (upd H q o) p l := s.ext0 (.new h)
theorem StAt.al {H : Hp} {p l : Addr} (s : StAt H p l) : H p ≠ none := by
  obtain ⟨⟨ns, i, m, s0, a, b, c⟩, ne⟩ := s
  exact some_ne a
theorem StAt.ne_new {H : Hp} {p l r : Addr} (s : StAt H p l) (h : H r = none) : r ≠ p := fun e => s.al (by rw [← e]; exact h)
theorem StAt.als {H : Hp} {p l : Addr} (s : StAt H p l) : Al [p] H := .cons s.al .nil
theorem StAt.al2 {H : Hp} {p l : Addr} (s : StAt H p l) : H l ≠ none := by
  obtain ⟨⟨ns, i, m, s0, a, b, c⟩, ne⟩ := s
  exact some_ne b
def top (i : Nat) : Stmt := PySem.Challenge.pw_steadwhole_k49_blocks_and_heads.main.body.getD i (.Pass ⟨0, 0, 0, 0⟩)
abbrev s_fixed : Stmt := top 4
abbrev s_number_of : Stmt := top 5
abbrev s_turn_of : Stmt := top 6
abbrev s_write_block : Stmt := top 7
abbrev s_read_block : Stmt := top 8
abbrev s_area_size : Stmt := top 9
abbrev s_area_start : Stmt := top 10
abbrev s_head : Stmt := top 11
abbrev s_read_head : Stmt := top 12
abbrev s_law_next : Stmt := top 14
abbrev s_law_same : Stmt := top 15
abbrev s_law_fixed : Stmt := top 16
abbrev s_law_block : Stmt := top 17
abbrev s_law_turn : Stmt := top 18
abbrev s_law_bytes : Stmt := top 19
abbrev s_law_put : Stmt := top 20
abbrev s_law_asks_block : Stmt := top 21
abbrev s_law_asks_head : Stmt := top 22
abbrev s_law_asks_places : Stmt := top 23
abbrev s_law : Stmt := top 24
abbrev nm_fixed : List Str := ["number", "count", "data", "_"]
abbrev pm_fixed : List Str := ["number", "count"]
theorem sc_fixed : FnScope nm_fixed pm_fixed (defScope s_fixed) := ⟨rfl, rfl, rfl, by decide +kernel, rfl, by decide +kernel, by decide +kernel⟩
theorem bd_fixed : BindAll "fixed" "fixed" s_fixed pm_fixed := fun _ _ _ _ _ _ us hl => match us, hl with | [_, _], _ => rfl
abbrev nm_number_of : List Str := ["data", "total", "byte"]
abbrev pm_number_of : List Str := ["data"]
theorem sc_number_of : FnScope nm_number_of pm_number_of (defScope s_number_of) := ⟨rfl, rfl, rfl, by decide +kernel, rfl, by decide +kernel, by decide +kernel⟩
theorem bd_number_of : BindAll "number_of" "number_of" s_number_of pm_number_of := fun _ _ _ _ _ _ us hl => match us, hl with | [_], _ => rfl
abbrev nm_turn_of : List Str := ["sector"]
abbrev pm_turn_of : List Str := ["sector"]
theorem sc_turn_of : FnScope nm_turn_of pm_turn_of (defScope s_turn_of) := ⟨rfl, rfl, rfl, by decide +kernel, rfl, by decide +kernel, by decide +kernel⟩
theorem bd_turn_of : BindAll "turn_of" "turn_of" s_turn_of pm_turn_of := fun _ _ _ _ _ _ us hl => match us, hl with | [_], _ => rfl
abbrev nm_write_block : List Str := ["turn", "data", "content", "pieces", "start", "front", "piece"]
abbrev pm_write_block : List Str := ["turn", "data"]
theorem sc_write_block : FnScope nm_write_block pm_write_block (defScope s_write_block) := ⟨rfl, rfl, rfl, by decide +kernel, rfl, by decide +kernel, by decide +kernel⟩
theorem bd_write_block : BindAll "write_block" "write_block" s_write_block pm_write_block := fun _ _ _ _ _ _ us hl => match us, hl with | [_, _], _ => rfl
abbrev nm_read_block : List Str := ["sectors", "turn", "count", "content", "sector", "size"]
abbrev pm_read_block : List Str := ["sectors", "turn"]
theorem sc_read_block : FnScope nm_read_block pm_read_block (defScope s_read_block) := ⟨rfl, rfl, rfl, by decide +kernel, rfl, by decide +kernel, by decide +kernel⟩
theorem bd_read_block : BindAll "read_block" "read_block" s_read_block pm_read_block := fun _ _ _ _ _ _ us hl => match us, hl with | [_, _], _ => rfl
abbrev nm_area_size : List Str := ["size"]
abbrev pm_area_size : List Str := ["size"]
theorem sc_area_size : FnScope nm_area_size pm_area_size (defScope s_area_size) := ⟨rfl, rfl, rfl, by decide +kernel, rfl, by decide +kernel, by decide +kernel⟩
theorem bd_area_size : BindAll "area_size" "area_size" s_area_size pm_area_size := fun _ _ _ _ _ _ us hl => match us, hl with | [_], _ => rfl
abbrev nm_area_start : List Str := ["size", "area"]
abbrev pm_area_start : List Str := ["size", "area"]
theorem sc_area_start : FnScope nm_area_start pm_area_start (defScope s_area_start) := ⟨rfl, rfl, rfl, by decide +kernel, rfl, by decide +kernel, by decide +kernel⟩
theorem bd_area_start : BindAll "area_start" "area_start" s_area_start pm_area_start := fun _ _ _ _ _ _ us hl => match us, hl with | [_, _], _ => rfl
abbrev nm_head : List Str := ["turn", "area"]
abbrev pm_head : List Str := ["turn", "area"]
theorem sc_head : FnScope nm_head pm_head (defScope s_head) := ⟨rfl, rfl, rfl, by decide +kernel, rfl, by decide +kernel, by decide +kernel⟩
theorem bd_head : BindAll "head" "head" s_head pm_head := fun _ _ _ _ _ _ us hl => match us, hl with | [_, _], _ => rfl
abbrev nm_read_head : List Str := ["sector", "turn", "area"]
abbrev pm_read_head : List Str := ["sector"]
theorem sc_read_head : FnScope nm_read_head pm_read_head (defScope s_read_head) := ⟨rfl, rfl, rfl, by decide +kernel, rfl, by decide +kernel, by decide +kernel⟩
theorem bd_read_head : BindAll "read_head" "read_head" s_read_head pm_read_head := fun _ _ _ _ _ _ us hl => match us, hl with | [_], _ => rfl
abbrev nm_law_next : List Str := ["state", "limit", "cell", "value"]
abbrev pm_law_next : List Str := ["state", "limit"]
theorem sc_law_next : FnScope nm_law_next pm_law_next (defScope s_law_next) := ⟨rfl, rfl, rfl, by decide +kernel, rfl, by decide +kernel, by decide +kernel⟩
theorem bd_law_next : BindAll "_law_next" "_law_next" s_law_next pm_law_next := fun _ _ _ _ _ _ us hl => match us, hl with | [_, _], _ => rfl
abbrev nm_law_same : List Str := ["actual", "expected", "k"]
abbrev pm_law_same : List Str := ["actual", "expected"]
theorem sc_law_same : FnScope nm_law_same pm_law_same (defScope s_law_same) := ⟨rfl, rfl, rfl, by decide +kernel, rfl, by decide +kernel, by decide +kernel⟩
theorem bd_law_same : BindAll "_law_same" "_law_same" s_law_same pm_law_same := fun _ _ _ _ _ _ us hl => match us, hl with | [_, _], _ => rfl
abbrev nm_law_fixed : List Str := ["number", "count", "data", "k"]
abbrev pm_law_fixed : List Str := ["number", "count"]
theorem sc_law_fixed : FnScope nm_law_fixed pm_law_fixed (defScope s_law_fixed) := ⟨rfl, rfl, rfl, by decide +kernel, rfl, by decide +kernel, by decide +kernel⟩
theorem bd_law_fixed : BindAll "_law_fixed" "_law_fixed" s_law_fixed pm_law_fixed := fun _ _ _ _ _ _ us hl => match us, hl with | [_, _], _ => rfl
abbrev nm_law_block : List Str := ["turn", "data", "rest", "count", "sectors", "k", "piece"]
abbrev pm_law_block : List Str := ["turn", "data"]
theorem sc_law_block : FnScope nm_law_block pm_law_block (defScope s_law_block) := ⟨rfl, rfl, rfl, by decide +kernel, rfl, by decide +kernel, by decide +kernel⟩
theorem bd_law_block : BindAll "_law_block" "_law_block" s_law_block pm_law_block := fun _ _ _ _ _ _ us hl => match us, hl with | [_, _], _ => rfl
abbrev nm_law_turn : List Str := ["state"]
abbrev pm_law_turn : List Str := ["state"]
theorem sc_law_turn : FnScope nm_law_turn pm_law_turn (defScope s_law_turn) := ⟨rfl, rfl, rfl, by decide +kernel, rfl, by decide +kernel, by decide +kernel⟩
theorem bd_law_turn : BindAll "_law_turn" "_law_turn" s_law_turn pm_law_turn := fun _ _ _ _ _ _ us hl => match us, hl with | [_], _ => rfl
abbrev nm_law_bytes : List Str := ["state", "count", "start", "k"]
abbrev pm_law_bytes : List Str := ["state"]
theorem sc_law_bytes : FnScope nm_law_bytes pm_law_bytes (defScope s_law_bytes) := ⟨rfl, rfl, rfl, by decide +kernel, rfl, by decide +kernel, by decide +kernel⟩
theorem bd_law_bytes : BindAll "_law_bytes" "_law_bytes" s_law_bytes pm_law_bytes := fun _ _ _ _ _ _ us hl => match us, hl with | [_], _ => rfl
abbrev nm_law_put : List Str := ["sector", "place", "data"]
abbrev pm_law_put : List Str := ["sector", "place", "data"]
theorem sc_law_put : FnScope nm_law_put pm_law_put (defScope s_law_put) := ⟨rfl, rfl, rfl, by decide +kernel, rfl, by decide +kernel, by decide +kernel⟩
theorem bd_law_put : BindAll "_law_put" "_law_put" s_law_put pm_law_put := fun _ _ _ _ _ _ us hl => match us, hl with | [_, _, _], _ => rfl
abbrev nm_law_asks_block : List Str := ["state", "turn", "data", "block", "passed", "others", "sectors", "sector", "behind", "each", "told", "fewer", "short", "place", "at", "wrong", "spoilt", "more"]
abbrev pm_law_asks_block : List Str := ["state"]
theorem sc_law_asks_block : FnScope nm_law_asks_block pm_law_asks_block (defScope s_law_asks_block) := ⟨rfl, rfl, rfl, by decide +kernel, rfl, by decide +kernel, by decide +kernel⟩
theorem bd_law_asks_block : BindAll "_law_asks_block" "_law_asks_block" s_law_asks_block pm_law_asks_block := fun _ _ _ _ _ _ us hl => match us, hl with | [_], _ => rfl
abbrev nm_law_asks_head : List Str := ["state", "turn", "area", "sector", "place", "wrong", "each"]
abbrev pm_law_asks_head : List Str := ["state"]
theorem sc_law_asks_head : FnScope nm_law_asks_head pm_law_asks_head (defScope s_law_asks_head) := ⟨rfl, rfl, rfl, by decide +kernel, rfl, by decide +kernel, by decide +kernel⟩
theorem bd_law_asks_head : BindAll "_law_asks_head" "_law_asks_head" s_law_asks_head pm_law_asks_head := fun _ _ _ _ _ _ us hl => match us, hl with | [_], _ => rfl
abbrev nm_law_asks_places : List Str := ["size", "area"]
abbrev pm_law_asks_places : List Str := ["size"]
theorem sc_law_asks_places : FnScope nm_law_asks_places pm_law_asks_places (defScope s_law_asks_places) := ⟨rfl, rfl, rfl, by decide +kernel, rfl, by decide +kernel, by decide +kernel⟩
theorem bd_law_asks_places : BindAll "_law_asks_places" "_law_asks_places" s_law_asks_places pm_law_asks_places := fun _ _ _ _ _ _ us hl => match us, hl with | [_], _ => rfl
abbrev nm_law : List Str := ["script", "state", "k"]
abbrev pm_law : List Str := ["script"]
theorem sc_law : FnScope nm_law pm_law (defScope s_law) := ⟨rfl, rfl, rfl, by decide +kernel, rfl, by decide +kernel, by decide +kernel⟩
theorem bd_law : BindAll "law" "law" s_law pm_law := fun _ _ _ _ _ _ us hl => match us, hl with | [_], _ => rfl
/-- what the top has left -/
structure Txt (K : PySem.W.Frag) (mg : Str → Option Value) : Prop where
  f_fixed : GFun K mg "fixed" s_fixed
  f_number_of : GFun K mg "number_of" s_number_of
  f_turn_of : GFun K mg "turn_of" s_turn_of
  f_write_block : GFun K mg "write_block" s_write_block
  f_read_block : GFun K mg "read_block" s_read_block
  f_area_size : GFun K mg "area_size" s_area_size
  f_area_start : GFun K mg "area_start" s_area_start
  f_head : GFun K mg "head" s_head
  f_read_head : GFun K mg "read_head" s_read_head
  f_law_next : GFun K mg "_law_next" s_law_next
  f_law_same : GFun K mg "_law_same" s_law_same
  f_law_fixed : GFun K mg "_law_fixed" s_law_fixed
  f_law_block : GFun K mg "_law_block" s_law_block
  f_law_turn : GFun K mg "_law_turn" s_law_turn
  f_law_bytes : GFun K mg "_law_bytes" s_law_bytes
  f_law_put : GFun K mg "_law_put" s_law_put
  f_law_asks_block : GFun K mg "_law_asks_block" s_law_asks_block
  f_law_asks_head : GFun K mg "_law_asks_head" s_law_asks_head
  f_law_asks_places : GFun K mg "_law_asks_places" s_law_asks_places
  f_law : GFun K mg "law" s_law
  g_PIECE : ∃ u, mg "PIECE" = some u ∧ RelV (.int 54) u
  t_MARK : mg "MARK" = some (.ref (He.ga K "MARK")) ∧ ∀ H : Hp, SqL K H (He.ga K "MARK") [.int 82, .int 85, .int 76, .int 69]
  p_MARK : PlK K (He.ga K "MARK") [.int 82, .int 85, .int 76, .int 69]
  g_HEAD_ZEROS : ∃ u, mg "HEAD_ZEROS" = some u ∧ RelV (.int 53) u
  z_bool : mg "bool" = none
  z_int : mg "int" = none
  z_isinstance : mg "isinstance" = none
  z_len : mg "len" = none
  z_list : mg "list" = none
  z_range : mg "range" = none
  z_str : mg "str" = none
  z_tuple : mg "tuple" = none
local macro_rules | `(tactic| walk_at "k") => `(tactic| (try dsimp only [cx_K, cx_K2, cx_w]))
local macro_rules | `(tactic| walk_at "ne") => `(tactic| first | assumption | exact Ne.symm (by assumption) | exact ne_of_none (by assumption) (by assumption) | exact Ne.symm (ne_of_none (by assumption) (by assumption)) | exact ne_of (by assumption) (by assumption) (by intro z; cases z))
local macro_rules | `(tactic| walk_at "hp") => `(tactic| first | exact upd_same | assumption | exact SqL.of (by assumption) | exact SqT.of (by assumption) | exact SqL.of upd_same | exact SqT.of upd_same | (refine Eq.trans (upd_ne ?n) ?_ <;> first | (walk_at "hp"; done) | (walk_at "ne"; done)) | (refine SqL.of (Eq.trans (upd_ne ?n) ?_) <;> first | (walk_at "hp"; done) | (walk_at "ne"; done)))
local macro_rules | `(tactic| walk_at "ci") => `(tactic| first | exact .inl ⟨by decide, by decide⟩ | exact .inr ⟨by decide, by decide⟩ | exact .inl ⟨by omega, by omega⟩ | exact .inr ⟨by omega, by omega⟩ | (show (0 : Int) < _; omega) | (show (0 : Int) < _; decide) | (show (0 : Int) ≤ _; omega) | exact ⟨by omega, by omega⟩ | exact ⟨by omega, by omega, by omega⟩ | exact ⟨by decide, by decide, by decide⟩)
local macro_rules | `(tactic| walk_at "hq") => `(tactic| first | exact Is.sql (by assumption) | exact Is.sqt (by assumption) | exact sql_of (by assumption) | exact Is.sql (by walk_at "at") | exact Is.sqt (by walk_at "at"))
local macro_rules | `(tactic| walk_at "isi") => `(tactic| with_reducible (first | refine isi_int_int ?_ | refine isi_int_bool ?_ | refine isi_int_str ?_ | refine isi_int_list ?_ | refine isi_int_tuple ?_ | refine isi_int_dict ?_ | refine isi_int_bytes ?_ | refine isi_bool_int ?_ | refine isi_bool_bool ?_ | refine isi_bool_str ?_ | refine isi_bool_list ?_ | refine isi_bool_tuple ?_ | refine isi_bool_dict ?_ | refine isi_bool_bytes ?_ | refine isi_str_int ?_ | refine isi_str_bool ?_ | refine isi_str_str ?_ | refine isi_str_list ?_ | refine isi_str_tuple ?_ | refine isi_str_dict ?_ | refine isi_str_bytes ?_ | refine isi_NoneType_int ?_ | refine isi_NoneType_bool ?_ | refine isi_NoneType_str ?_ | refine isi_NoneType_list ?_ | refine isi_NoneType_tuple ?_ | refine isi_NoneType_dict ?_ | refine isi_NoneType_bytes ?_ | refine' isi_list_int (by assumption) ?_ | refine' isi_list_bool (by assumption) ?_ | refine' isi_list_str (by assumption) ?_ | refine' isi_list_list (by assumption) ?_ | refine' isi_list_tuple (by assumption) ?_ | refine' isi_list_dict (by assumption) ?_ | refine' isi_list_bytes (by assumption) ?_ | refine' isi_tuple_int (by assumption) ?_ | refine' isi_tuple_bool (by assumption) ?_ | refine' isi_tuple_str (by assumption) ?_ | refine' isi_tuple_list (by assumption) ?_ | refine' isi_tuple_tuple (by assumption) ?_ | refine' isi_tuple_dict (by assumption) ?_ | refine' isi_tuple_bytes (by assumption) ?_ | refine' isi_dict_int (by assumption) ?_ | refine' isi_dict_bool (by assumption) ?_ | refine' isi_dict_str (by assumption) ?_ | refine' isi_dict_list (by assumption) ?_ | refine' isi_dict_tuple (by assumption) ?_ | refine' isi_dict_dict (by assumption) ?_ | refine' isi_dict_bytes (by assumption) ?_))
local macro_rules | `(tactic| walk_at "rd1") => `(tactic| first | (with_reducible (first | refine rd_seq ?_ | refine rd_var rfl ?_ | refine rd_c ?_ | refine rd_op ?_ | refine rd_asg ?_ | refine rd_gName ?_ | refine rd_xor ?_ | refine rd_i0 ?_ | refine rd_if ?_ | refine rd_tTest ?_ | refine rd_tB ?_ | refine rd_tb ?_ | refine rd_ret ?_ | refine rd_retN ?_ | refine rd_nx ?_ | refine rd_drop ?_ | refine rd_eqi ?_ | refine rd_nei ?_ | refine rd_eq rfl ?_ | refine rd_ne rfl ?_ | refine rd_call ?_ | refine rd_cons ?_ | refine rd_nil ?_ | refine rd_cb ?_ | refine rd_un ?_ | refine rd_and ?_ | refine rd_or ?_ | refine rd_not ?_ | refine rd_andV ?_ | refine rd_orV ?_ | refine rd_notV ?_ | refine rd_gSub ?_ | refine rd_augS ?_ | refine rd_aug rfl ?_ | refine rd_ipI ?_ | refine rd_tup ?_ | refine rd_lst ?_ | refine rd_bm0 ?_ | refine rd_bm ?_ | refine rd_chain ?_ | refine rd_rev ?_ | refine rd_tru ?_ | refine rd_u ?_ | refine rd_rng3 ?_ | refine rd_for ?_ | refine rd_lc ?_ | refine rd_rng1 ?_ | refine rd_rng2 ?_ | refine rd_il ?_ | refine rd_it ?_ | refine rd_sl ?_ | refine rd_part ?_ | refine rd_pi ?_ | refine rd_pn ?_ | refine iteT ?_ | refine iteF ?_ | refine iteNT ?_ | refine iteNF ?_ | refine rd_int1 ?_ | refine rd_int1b ?_ | refine rd_isNn ?_ | refine rd_isNi ?_ | refine rd_isNb ?_ | refine rd_isNs ?_ | refine rd_isNr ?_ | refine rd_notNn ?_ | refine rd_notNi ?_ | refine rd_notNb ?_ | refine rd_notNs ?_ | refine rd_notNr ?_)) | ((with_reducible refine rd_i ?c ?_); (case c => walk_at "ci")) | ((with_reducible refine' rd_ixL ?h ?a ?_); (case h => walk_at "hp"); (case a => rfl)) | ((with_reducible refine' rd_ixT ?h ?a ?_); (case h => walk_at "hp"); (case a => rfl)) | ((with_reducible refine' rd_setL ?h ?a ?_); (case h => walk_at "hp"); (case a => rfl)) | ((with_reducible refine' rd_lenL ?h (fun _ => ?_)); (case h => walk_at "hp")) | ((with_reducible refine' rd_dlen ?h (fun _ => ?_)); (case h => assumption)) | ((with_reducible refine' rd_dlenT ?h (fun _ => ?_)); (case h => assumption)) | ((with_reducible refine rd_rng ?a ?b ?_); (case a => omega); (case b => omega)) | ((with_reducible refine' rd_itl ?h ?_); (case h => walk_at "hq")) | ((with_reducible refine' rd_itt ?h ?_); (case h => walk_at "hq")) | walk_at "isi")
local macro_rules | `(tactic| walk_at "rd") => `(tactic| repeat (walk_at "rd1"))
local macro_rules | `(tactic| walk_at "at") => `(tactic| with_reducible (first | assumption | exact StAt.als (by assumption) | exact Is.int _ | exact Is.non | exact Is.bl _ | exact Is.str _ | exact Al.nil | exact Ext.refl | (refine' at_is0 (by assumption) ?k; (case k => walk_at "at")) | (refine' at_is (by assumption) ?k; (case k => walk_at "at")) | (refine' at_is1 (by assumption) ?k; (case k => walk_at "at")) | (refine' at_st0 (by assumption) ?k; (case k => walk_at "at")) | (refine' at_stN (by assumption) ?k; (case k => walk_at "at")) | (refine' at_isN (by assumption) ?k; (case k => walk_at "at")) | (refine' at_al (by assumption) ?k; (case k => walk_at "at")) | (refine' at_alN ?k; (case k => walk_at "at")) | (refine' at_ext (by assumption) ?k; (case k => walk_at "at")) | (refine' at_ext0 (by assumption) ?k; (case k => walk_at "at")) | (refine' at_extN (by assumption) ?k; (case k => walk_at "at"))))
local macro_rules | `(tactic| walk_at "all") => `(tactic| with_reducible (first | exact IsAll.nil | (refine' IsAll.cons ?ha ?hb; (case ha => walk_at "at"); (case hb => walk_at "all"))))
/-! ### _law_next: some number below the limit, the state's list changes -/
def sp_next : Sp := fun vs H Q _ => ∃ (p l : Addr) (lim : Int), vs = [.ref p, .int lim] ∧ StAt H p l ∧ 0 < lim ∧ lim.natAbs < 2 ^ 200 ∧ ∀ (v : Nat) (H' : Hp), (v : Int) < lim → StAt H' p l → Ext [p] H H' → Q (.int v) H'
theorem ok_law_next {P : Program} {w : World} {K : PySem.W.Frag} {mg : Str → Option Value} {base : Heap} (T : Txt K mg) : Cal P w K mg base 1 "_law_next" sp_next [] := by
  refine T.f_law_next.cal sc_law_next bd_law_next (fun vs H Q E h => ?_) fun f cdv A outer s H vs Q E hr h => ?_
  · obtain ⟨p, l, lim, rfl, _⟩ := h; rfl
  obtain ⟨p, l, lim, rfl, ⟨⟨ns, i, m, s0, hp, hl, hi, hn, hm⟩, npl⟩, h0, h1, k⟩ := h
  have hlen : (ns.map V.int).length = ns.length := List.length_map _
  have kk : ∀ (v : Int) (H' : Hp), 0 ≤ v → v < lim → StAt H' p l → (∀ b, b ≠ p → H' b = H b) → Q (.int v) H' := fun v H' v0 v1 S f => by
    have e : ((v.toNat : Nat) : Int) = v := by omega
    have z := k v.toNat H' (by omega) S ⟨fun b o hb h => by rw [f b (by simpa using hb)]; exact h, fun b hb => by
      by_cases e : b = p
      · rw [e]; exact S.al
      · rw [f b e]; exact hb⟩
    rw [e] at z
    exact z
  refine ⟨_, (pss_join (ps_if (PW.pt (pw_and (pt_cmpR op_eq (pe_ix (ix_listK K) (pv 0) pe_int (fun _ _ => rfl)) pe_int (nomark _)) (pw_and1 (pt_cmpR op_lt (pe_ix (ix_listK K) (pv 0) pe_int (fun _ _ => rfl)) (pe_callB (call_lenK K) (by rfl) T.z_len (by decide +kernel) (pa_cons (pe_ix (ix_listK K) (pv 0) pe_int (fun _ _ => rfl)) pa_nil)) (nomark _))))) (pss_cons (ps_set (i := 2) sc_law_next.nd rfl (Or.inl rfl) (pe_ix (ix_listK K) (pe_ix (ix_listK K) (pv 0) pe_int (fun _ _ => rfl)) (pe_ix (ix_listK K) (pv 0) pe_int (fun _ _ => rfl)) (fun _ _ => rfl)))
      (pss_cons (ps_augS (pv 0) pe_int (get_listK K) pe_int ip_add set_list)
      (pss_one (ps_if (pt_cmpR op_ge (pv 2) (pe_op op_pow pe_int pe_int) (nomark _)) (pss_one (ps_asg (pv 2) (pg_sub (pv 0) pe_int set_list))) (pss_one (ps_asg (pe_op op_mod (pe_callTy call_int1q (by rfl) T.z_int (by decide +kernel) (pa_cons (pe_op op_add (pe_op op_add (pe_op op_mul (pe_ix (ix_listK K) (pv 0) pe_int (fun _ _ => rfl)) pe_int) (pe_op op_mod (pe_callTy call_int1q (by rfl) T.z_int (by decide +kernel) (pa_cons (pv 2) pa_nil)) pe_int)) pe_int) pa_nil)) pe_int) (pg_sub (pv 0) pe_int set_list))))))) pss_nil)
      (pss_cons (ps_if (pt_cmpR op_gt (pe_ix (ix_listK K) (pv 0) pe_int (fun _ _ => rfl)) pe_int (nomark _)) (pss_cons (ps_set (i := 3) sc_law_next.nd rfl (Or.inl rfl) (pe_op op_mod (pe_callTy call_int1q (by rfl) T.z_int (by decide +kernel) (pa_cons (pe_ix (ix_listK K) (pv 0) pe_int (fun _ _ => rfl)) pa_nil)) (pv 1)))
      (pss_cons (ps_asg (pe_op op_fdivW (pe_ix (ix_listK K) (pv 0) pe_int (fun _ _ => rfl)) (pv 1)) (pg_sub (pv 0) pe_int set_list))
      (pss_one (ps_ret (pv 3))))) pss_nil)
      (pss_cons (ps_asg (pe_op op_mod (pe_callTy call_int1q (by rfl) T.z_int (by decide +kernel) (pa_cons (pe_op op_add (pe_op op_mul (pe_ix (ix_listK K) (pv 0) pe_int (fun _ _ => rfl)) pe_int) pe_int) pa_nil)) pe_int) (pg_sub (pv 0) pe_int set_list))
      (pss_one (ps_ret (pe_op op_mod (pe_callTy call_int1q (by rfl) T.z_int (by decide +kernel) (pa_cons (pe_op op_fdiv (pe_ix (ix_listK K) (pv 0) pe_int (fun _ _ => rfl)) pe_int) pa_nil)) (pv 1))))))), ?_⟩
  walk_at "k"
  refine ⟨fun σ H1 => ∃ (c : Option V) (m s0 i : Int), σ = [some (.ref p), some (.int lim), c, none] ∧ H1 p = some (.lst [.ref l, .int i, .int m, .int s0]) ∧ H1 l = some (.lst (ns.map V.int)) ∧ 0 ≤ i ∧ i ≤ ns.length ∧ 0 ≤ m ∧ (∀ b, b ≠ p → H1 b = H b), ?_, ?_⟩
  · walk_at "rd"
    refine rd_ite (fun c => ?_) (fun c => ?_)
    · walk_at "rd"
      refine rd_ite (fun c2 => ?_) (fun c2 => ?_)
      · have c2' := of_decide_eq_true c2
        rw [hlen] at c2'
        obtain ⟨z, hz, _⟩ := atI_int (ns := ns) hi c2'
        walk_at "rd"
        refine rd_ixL (SqL.of hl) hz ?_
        walk_at "rd"
        refine rd_ite (fun c3 => ?_) (fun c3 => ?_)
        · have c3' := of_decide_eq_true c3
          walk_at "rd"
          refine ⟨_, z, s0, i + 1, rfl, upd_same, by rw [upd_ne npl.symm, upd_ne npl.symm]; exact hl, by omega, by omega, ?_, fun b hb => by rw [upd_ne hb, upd_ne hb]⟩
          exact Int.le_trans (by decide) c3'
        · walk_at "rd"
          exact ⟨_, m, _, i + 1, rfl, upd_same, by rw [upd_ne npl.symm, upd_ne npl.symm]; exact hl, by omega, by omega, hm, fun b hb => by rw [upd_ne hb, upd_ne hb]⟩
      · walk_at "rd"
        exact ⟨_, m, _, i, rfl, hp, hl, hi, hn, hm, fun b hb => rfl⟩
    · walk_at "rd"
      exact ⟨_, m, _, i, rfl, hp, hl, hi, hn, hm, fun b hb => rfl⟩
  · rintro σ H1 ⟨c, m, s0, i, rfl, hp, hl, hi, hn, hm, hf⟩
    walk_at "rd"
    refine rd_ite (fun c => ?_) (fun c => ?_)
    · walk_at "rd"
      refine rd_i (wide_div h0 h1 (by decide) (by decide)) ?_
      walk_at "rd"
      refine kk _ _ (Int.emod_nonneg _ (by omega)) (Int.emod_lt_of_pos _ h0) ⟨⟨ns, i, _, s0, upd_same, by rw [upd_ne npl.symm]; exact hl, hi, hn, Int.ediv_nonneg hm (by omega)⟩, npl⟩ fun b hb => by rw [upd_ne hb, hf b hb]
    · walk_at "rd"
      refine kk _ _ (Int.emod_nonneg _ (by omega)) (Int.emod_lt_of_pos _ h0) ⟨⟨ns, i, m, _, upd_same, by rw [upd_ne npl.symm]; exact hl, hi, hn, hm⟩, npl⟩ fun b hb => by rw [upd_ne hb, hf b hb]
theorem rd_next {p l : Addr} {lim : Int} {H : Hp} {Q : VK} {E : XK} (hS : StAt H p l) (h0 : 0 < lim) (h1 : lim.natAbs < 2 ^ 200) (k : ∀ (v : Nat) (H' : Hp), (v : Int) < lim → StAt H' p l → Ext [p] H H' → Q (.int v) H') :
    sp_next ([.ref p, .int lim] ++ []) H Q E := ⟨p, l, lim, rfl, hS, h0, h1, k⟩
theorem lim_small {x : Int} (h0 : 0 ≤ x) (h : x < 1000000000000000000) : x.natAbs < 2 ^ 200 := Nat.lt_of_lt_of_le (show x.natAbs < 2 ^ 60 by omega) (Nat.pow_le_pow_right (by decide) (by decide))
/-! ### _law_same: the same data are the same -/
def sp_same (n : Nat) : Sp := fun vs H Q _ => ∃ (M M' : List Addr) (x y : V) (d : PyData), vs = [x, y] ∧ Is M H x d ∧ Is M' H y d ∧ Sh n d ∧ Q (.bl true) H
theorem Sh.listI {n : Nat} {ds : List PyData} (h : Sh n (.list ds)) : ∃ m, n = m + 1 ∧ ∀ d ∈ ds, Sh m d := by
  obtain ⟨h1, h2⟩ := h
  simp only [PyData.canLay0] at h1
  simp only [PyData.depth] at h2
  refine ⟨n - 1, by omega, fun d hd => ⟨PyData.canLay0_of_mem ds d h1 hd, ?_⟩⟩
  have := PyData.depth_le_depthAll ds d hd
  omega
theorem Sh.tupleI {n : Nat} {ds : List PyData} (h : Sh n (.tuple ds)) : ∃ m, n = m + 1 ∧ ∀ d ∈ ds, Sh m d := by
  obtain ⟨h1, h2⟩ := h
  simp only [PyData.canLay0] at h1
  simp only [PyData.depth] at h2
  refine ⟨n - 1, by omega, fun d hd => ⟨PyData.canLay0_of_mem ds d h1 hd, ?_⟩⟩
  have := PyData.depth_le_depthAll ds d hd
  omega
theorem rd_ixS_L {K : PySem.W.Frag} {H : Hp} {Q : VK} {p : Addr} {i : Int} (h : rIxL K (.ref p) (.int i) H Q) : rIx K (.ref p) (.int i) H Q := .inl h
theorem rd_ixS_T {K : PySem.W.Frag} {H : Hp} {Q : VK} {p : Addr} {i : Int} (h : rIxT K (.ref p) (.int i) H Q) : rIx K (.ref p) (.int i) H Q := .inr (.inl h)
section
variable {P : Program} {w : World} {K : PySem.W.Frag} {mg : Str → Option Value} {base : Heap}
theorem ok_law_same_step (T : Txt K mg) (n : Nat) (ih : Cal P w K mg base n "_law_same" (fun vs H Q E => ∃ m, n = m + 1 ∧ sp_same m vs H Q E) []) : Cal P w K mg base (n + 1) "_law_same" (sp_same n) [] := by
  refine T.f_law_same.cal sc_law_same bd_law_same (fun vs H Q E h => ?_) fun f cdv A outer s H vs Q E hr h => ?_
  · obtain ⟨M, M', x, y, d, rfl, _⟩ := h; rfl
  obtain ⟨M, M', x, y, d, rfl, hx, hy, hd, k⟩ := h
  refine ⟨_, (pss_cons (ps_if (pt_cmpR op_isNq (pv 1) pe_non (nomark _)) (pss_one (ps_ret (pe_cmpR op_isNq (pv 0) pe_non (nomark _)))) pss_nil)
      (pss_cons (ps_if (pt_val (pe_callB (call_isK K) (by rfl) T.z_isinstance (by decide +kernel) (pa_cons (pv 1) (pa_cons (pe_bltn (v := .ty "bool") (by rfl) T.z_bool (by decide +kernel) rfl) pa_nil)))) (pss_one (ps_ret (pe_and (pe_callB (call_isK K) (by rfl) T.z_isinstance (by decide +kernel) (pa_cons (pv 0) (pa_cons (pe_bltn (v := .ty "bool") (by rfl) T.z_bool (by decide +kernel) rfl) pa_nil))) (pe_one (pe_cmpR op_eq (pv 0) (pv 1) (nomark _)))))) pss_nil)
      (pss_cons (ps_if (pt_val (pe_callB (call_isK K) (by rfl) T.z_isinstance (by decide +kernel) (pa_cons (pv 1) (pa_cons (pe_bltn (v := .ty "int") (by rfl) T.z_int (by decide +kernel) rfl) pa_nil)))) (pss_one (ps_ret (pe_and (pe_callB (call_isK K) (by rfl) T.z_isinstance (by decide +kernel) (pa_cons (pv 0) (pa_cons (pe_bltn (v := .ty "int") (by rfl) T.z_int (by decide +kernel) rfl) pa_nil))) (pe_and (pe_not (pe_callB (call_isK K) (by rfl) T.z_isinstance (by decide +kernel) (pa_cons (pv 0) (pa_cons (pe_bltn (v := .ty "bool") (by rfl) T.z_bool (by decide +kernel) rfl) pa_nil)))) (pe_one (pe_cmpR op_eq (pv 0) (pv 1) (nomark _))))))) pss_nil)
      (pss_cons (ps_if (pt_val (pe_callB (call_isK K) (by rfl) T.z_isinstance (by decide +kernel) (pa_cons (pv 1) (pa_cons (pe_bltn (v := .ty "str") (by rfl) T.z_str (by decide +kernel) rfl) pa_nil)))) (pss_one (ps_ret (pe_and (pe_callB (call_isK K) (by rfl) T.z_isinstance (by decide +kernel) (pa_cons (pv 0) (pa_cons (pe_bltn (v := .ty "str") (by rfl) T.z_str (by decide +kernel) rfl) pa_nil))) (pe_one (pe_cmpR op_eq (pv 0) (pv 1) (nomark _)))))) pss_nil)
      (pss_cons (ps_if (PW.pt (pw_and (pt_val (pe_callB (call_isK K) (by rfl) T.z_isinstance (by decide +kernel) (pa_cons (pv 1) (pa_cons (pe_bltn (v := .ty "tuple") (by rfl) T.z_tuple (by decide +kernel) rfl) pa_nil)))) (pw_and1 (pt_not (pt_val (pe_callB (call_isK K) (by rfl) T.z_isinstance (by decide +kernel) (pa_cons (pv 0) (pa_cons (pe_bltn (v := .ty "tuple") (by rfl) T.z_tuple (by decide +kernel) rfl) pa_nil)))))))) (pss_one (ps_ret pe_bl)) pss_nil)
      (pss_cons (ps_if (PW.pt (pw_and (pt_val (pe_callB (call_isK K) (by rfl) T.z_isinstance (by decide +kernel) (pa_cons (pv 1) (pa_cons (pe_bltn (v := .ty "list") (by rfl) T.z_list (by decide +kernel) rfl) pa_nil)))) (pw_and1 (pt_not (pt_val (pe_callB (call_isK K) (by rfl) T.z_isinstance (by decide +kernel) (pa_cons (pv 0) (pa_cons (pe_bltn (v := .ty "list") (by rfl) T.z_list (by decide +kernel) rfl) pa_nil)))))))) (pss_one (ps_ret pe_bl)) pss_nil)
      (pss_cons (ps_if (pt_cmpR op_ne (pe_callB (call_lenK K) (by rfl) T.z_len (by decide +kernel) (pa_cons (pv 0) pa_nil)) (pe_callB (call_lenK K) (by rfl) T.z_len (by decide +kernel) (pa_cons (pv 1) pa_nil)) (nomark _)) (pss_one (ps_ret pe_bl)) pss_nil)
      (pss_cons (ps_for PassesOwn.never rfl (pi_range1 rfl T.z_range (pa_cons (pe_callB (call_lenK K) (by rfl) T.z_len (by decide +kernel) (pa_cons (pv 1) pa_nil)) pa_nil)) (pg_name (i := 2) sc_law_same.nd rfl (Or.inl rfl))
      (pss_one (ps_if (pt_not (pt_val (pe_c (ih) hr (Nat.le_refl _) rfl (pa_cons (pe_ix (ix_seqK K) (pv 0) (pv 2) (fun _ _ => rfl)) (pa_cons (pe_ix (ix_seqK K) (pv 1) (pv 2) (fun _ _ => rfl)) pa_nil))))) (pss_one (ps_ret pe_bl)) pss_nil)))
      (pss_one (ps_ret pe_bl)))))))))), ?_⟩
  walk_at "k"
  cases d with
  | none =>
    cases hx; cases hy
    walk_at "rd"
    exact k
  | bool b =>
    cases hx; cases hy
    walk_at "rd"
    have e : decide (V.bl b = V.bl b) = true := decide_eq_true rfl
    rw [e]
    exact k
  | int i =>
    cases hx; cases hy
    walk_at "rd"
    have e : decide (i = i) = true := decide_eq_true rfl
    rw [e]
    exact k
  | str x =>
    cases hx; cases hy
    walk_at "rd"
    have e : decide (V.str x = V.str x) = true := decide_eq_true rfl
    rw [e]
    exact k
  | list ds =>
    obtain ⟨a, xs, rfl, _, ha, ra⟩ := hx.listV
    obtain ⟨b, ys, rfl, _, hb, rb⟩ := hy.listV
    obtain ⟨m, rfl, hm⟩ := hd.listI
    have hz := ra.length
    have hz2 := rb.length
    walk_at "rd"
    rw [hz, hz2]
    refine iteNS rfl ?_
    walk_at "rd"
    refine q_range (fun j σ H' => ∃ u : Option V, σ = [some (.ref a), some (.ref b), u] ∧ H' = H) ⟨none, rfl, rfl⟩ ?_ ?_
    · rintro j σ H' hj ⟨u, rfl, rfl⟩
      have hj' : j < ds.length := by omega
      obtain ⟨v1, g1, i1⟩ := ra.get (List.getElem?_eq_getElem hj')
      obtain ⟨v2, g2, i2⟩ := rb.get (List.getElem?_eq_getElem hj')
      walk_at "rd"
      refine rd_ixS_L (rd_ixL (SqL.of ha) (by rw [Int.zero_add]; exact atI_nat g1) ?_)
      walk_at "rd"
      refine rd_ixS_L (rd_ixL (SqL.of hb) (by rw [Int.zero_add]; exact atI_nat g2) ?_)
      walk_at "rd"
      refine ⟨m, rfl, M, M', v1, v2, ds[j], rfl, i1, i2, hm _ (List.getElem_mem hj'), ?_⟩
      walk_at "rd"
      exact ⟨_, rfl, rfl⟩
    · rintro σ H' ⟨u, rfl, rfl⟩
      walk_at "rd"
      exact k
  | tuple ds =>
    obtain ⟨a, xs, rfl, _, ha, ra⟩ := hx.tupleV
    obtain ⟨b, ys, rfl, _, hb, rb⟩ := hy.tupleV
    obtain ⟨m, rfl, hm⟩ := hd.tupleI
    have hz := ra.length
    have hz2 := rb.length
    walk_at "rd"
    refine iteNS rfl ?_
    walk_at "rd"
    refine q_range (fun j σ H' => ∃ u : Option V, σ = [some (.ref a), some (.ref b), u] ∧ H' = H) ⟨none, rfl, rfl⟩ ?_ ?_
    · rintro j σ H' hj ⟨u, rfl, rfl⟩
      have hj' : j < ds.length := by omega
      obtain ⟨v1, g1, i1⟩ := ra.get (List.getElem?_eq_getElem hj')
      obtain ⟨v2, g2, i2⟩ := rb.get (List.getElem?_eq_getElem hj')
      walk_at "rd"
      refine rd_ixS_T (rd_ixT (SqT.of ha) (by rw [Int.zero_add]; exact atI_nat g1) ?_)
      walk_at "rd"
      refine rd_ixS_T (rd_ixT (SqT.of hb) (by rw [Int.zero_add]; exact atI_nat g2) ?_)
      walk_at "rd"
      refine ⟨m, rfl, M, M', v1, v2, ds[j], rfl, i1, i2, hm _ (List.getElem_mem hj'), ?_⟩
      walk_at "rd"
      exact ⟨_, rfl, rfl⟩
    · rintro σ H' ⟨u, rfl, rfl⟩
      walk_at "rd"
      exact k
  | dict kvs => cases hx
theorem ok_law_same (T : Txt K mg) : ∀ n : Nat, Cal P w K mg base (n + 1) "_law_same" (sp_same n) []
  | 0 => ok_law_same_step T 0 (by
      obtain ⟨f, fd, F, hm⟩ := T.f_law_same.ex
      exact ⟨f, fd, _, _, ⟨fun vs H Q E ⟨m, e, _⟩ => by omega, fun A outer s H args us vs Q E _ _ _ _ ⟨m, e, _⟩ => by omega⟩, hm, F.kp, F.bindsN bd_law_same, .nil⟩)
  | n + 1 => ok_law_same_step T (n + 1) (by
      obtain ⟨f, fd, ps, ds, F, hm, kp, b, d⟩ := (ok_law_same T n).ex
      exact ⟨f, fd, ps, ds, F.imp fun vs H Q E ⟨m, e, h⟩ => by
        have : n = m := by omega
        rw [this]
        exact h, hm, kp, b, d⟩)
end
theorem rd_same {M M' : List Addr} {H : Hp} {Q : VK} {E : XK} {x y : V} {n : Nat} {d : PyData} (hx : Is M H x d) (hy : Is M' H y d) (hd : Sh n d) (q : Q (.bl true) H) : sp_same n ([x, y] ++ []) H Q E := ⟨M, M', x, y, d, rfl, hx, hy, hd, q⟩
/-! ### blocks, heads: plain -/
def lit : Nat → Nat → List Nat
  | 0, _ => []
  | c + 1, n => n % 256 :: lit c (n / 256)
def wf (n c : Nat) : List Nat := (lit c n).reverse
def rf (l : List Nat) : Nat := l.foldl (fun t b => 256 * t + b) 0
theorem lit_len : ∀ (c n : Nat), (lit c n).length = c
  | 0, _ => rfl
  | c + 1, n => congrArg Nat.succ (lit_len c (n / 256))
theorem wf_len (n c : Nat) : (wf n c).length = c := by rw [wf, List.length_reverse, lit_len]
theorem lit_snoc : ∀ (c n : Nat), lit (c + 1) n = lit c n ++ [n / 256 ^ c % 256]
  | 0, n => by simp [lit]
  | c + 1, n => by
    have ih := lit_snoc c (n / 256)
    rw [lit, ih, Nat.div_div_eq_div_mul]
    show _ = n % 256 :: lit c (n / 256) ++ _
    rw [List.cons_append, Nat.pow_succ, Nat.mul_comm 256]
theorem wf_cons (c n : Nat) : wf n (c + 1) = [n / 256 ^ c % 256] ++ wf n c := by rw [wf, lit_snoc, List.reverse_append]; rfl
theorem lit_lt : ∀ (c n : Nat), ∀ x ∈ lit c n, x < 256
  | 0, _, _, h => nomatch h
  | c + 1, n, x, h => by
    rcases List.mem_cons.mp h with rfl | h
    · exact Nat.mod_lt _ (by decide)
    · exact lit_lt c _ x h
theorem wf_lt (n c : Nat) : ∀ x ∈ wf n c, x < 256 := fun x h => lit_lt c n x (List.mem_reverse.mp h)
theorem rf_rev (l : List Nat) : rf l.reverse = l.foldr (fun b t => 256 * t + b) 0 := by rw [rf, List.foldl_reverse]
theorem rf_wf (c : Nat) : ∀ n, rf (wf n c) = n % 256 ^ c := by
  induction c with
  | zero => intro n; rw [Nat.pow_zero, Nat.mod_one]; rfl
  | succ c ih =>
    intro n
    have e := ih (n / 256)
    rw [wf, rf_rev] at e ⊢
    show 256 * (lit c (n / 256)).foldr (fun b t => 256 * t + b) 0 + n % 256 = _
    rw [e, Nat.pow_succ, Nat.mul_comm (256 ^ c), Nat.mod_mul]
    omega
theorem rf_snoc (l : List Nat) (b : Nat) : rf (l ++ [b]) = 256 * rf l + b := by rw [rf, List.foldl_append]; rfl
/-- bytes are told apart -/
theorem rf_inj : ∀ (l m : List Nat), l.length = m.length → (∀ x ∈ l, x < 256) → (∀ x ∈ m, x < 256) → rf l = rf m → l = m := by
  have key : ∀ (l m : List Nat), l.length = m.length → (∀ x ∈ l, x < 256) → (∀ x ∈ m, x < 256) → rf l.reverse = rf m.reverse → l = m := by
    intro l
    induction l with
    | nil => intro m hl _ _ _; exact (List.eq_nil_of_length_eq_zero (by rw [← hl]; rfl)).symm
    | cons a l ih =>
      intro m hl h1 h2 e
      cases m with
      | nil => cases hl
      | cons b m =>
        rw [rf_rev, rf_rev, List.foldr_cons, List.foldr_cons, ← rf_rev, ← rf_rev] at e
        have ha := h1 a (List.mem_cons_self ..)
        have hb := h2 b (List.mem_cons_self ..)
        rw [ih m (by simpa using hl) (fun x h => h1 x (List.mem_cons_of_mem _ h)) (fun x h => h2 x (List.mem_cons_of_mem _ h)) (by omega), show a = b by omega]
  intro l m hl h1 h2 e
  have z := key l.reverse m.reverse (by simpa using hl) (fun x h => h1 x (List.mem_reverse.mp h)) (fun x h => h2 x (List.mem_reverse.mp h)) (by rw [List.reverse_reverse, List.reverse_reverse]; exact e)
  have z2 := congrArg List.reverse z
  rw [List.reverse_reverse, List.reverse_reverse] at z2
  exact z2
def content (d : List Nat) : List Nat := wf d.length 4 ++ d
def cnt (d : List Nat) : Nat := (4 + d.length + 53) / 54
def piece (d : List Nat) (i : Nat) : List Nat := ((content d).take (54 * i + 54)).drop (54 * i)
def padTo (f x : List Nat) : List Nat := f ++ x ++ List.replicate (54 - x.length) 0
def front (t d : Nat) : List Nat := wf t 6 ++ wf d 4
def blk (t : Nat) (d : List Nat) : List (List Nat) := (List.range (cnt d)).map fun i => padTo (front t (cnt d)) (piece d i)
theorem content_len (d : List Nat) : (content d).length = 4 + d.length := by rw [content, List.length_append, wf_len]
theorem cnt_pos (d : List Nat) : 0 < cnt d := by unfold cnt; omega
theorem blk_len (t : Nat) (d : List Nat) : (blk t d).length = cnt d := by rw [blk, List.length_map, List.length_range]
theorem front_len (t d : Nat) : (front t d).length = 10 := by rw [front, List.length_append, wf_len, wf_len]
theorem piece_len (d : List Nat) (i : Nat) : (piece d i).length ≤ 54 := by rw [piece, List.length_drop, List.length_take]; omega
theorem padTo_len (t d : Nat) (x : List Nat) (h : x.length ≤ 54) : (padTo (front t d) x).length = 64 := by rw [padTo, List.length_append, List.length_append, front_len, List.length_replicate]; omega
theorem blk_64 (t : Nat) (d : List Nat) : ∀ s ∈ blk t d, s.length = 64 := fun s h => by
  obtain ⟨i, _, rfl⟩ := List.mem_map.mp h
  exact padTo_len _ _ _ (piece_len _ _)
/-! reading -/
def cOf (S : List (List Nat)) : Nat := rf (((S.getD 0 []).take 10).drop 6)
def ctOf (S : List (List Nat)) : List Nat := (S.map fun s => s.drop 10).flatten
def rb (S : List (List Nat)) (t : Nat) : Option (List Nat × Nat) :=
  if S.length = 0 then none else if ¬ (1 ≤ cOf S ∧ cOf S ≤ S.length) then none else if ∀ s ∈ S.take (cOf S), rf (s.take 6) = t then
    (if (ctOf (S.take (cOf S))).length < 4 + rf ((ctOf (S.take (cOf S))).take 4) then none else some (((ctOf (S.take (cOf S))).take (4 + rf ((ctOf (S.take (cOf S))).take 4))).drop 4, cOf S)) else none
def rbD (S : List (List Nat)) (t : Nat) : PyData := match rb S t with
  | none => .none
  | some (d, c) => .tuple [nats d, .int c]
theorem rb_nil (t : Nat) : rb [] t = none := if_pos rfl
theorem rb_cnt {S : List (List Nat)} {t : Nat} (h : ¬ (1 ≤ cOf S ∧ cOf S ≤ S.length)) : rb S t = none := by
  unfold rb
  by_cases c : S.length = 0
  · rw [if_pos c]
  · rw [if_neg c, if_pos h]
theorem rb_turn {S : List (List Nat)} {t : Nat} (h : ∃ s ∈ S.take (cOf S), rf (s.take 6) ≠ t) : rb S t = none := by
  unfold rb
  split
  · rfl
  · split
    · rfl
    · rw [if_neg]
      intro q
      obtain ⟨s, hs, z⟩ := h
      exact z (q s hs)
theorem rb_size {S : List (List Nat)} {t : Nat} (h : (ctOf (S.take (cOf S))).length < 4 + rf ((ctOf (S.take (cOf S))).take 4)) : rb S t = none := by
  unfold rb
  by_cases c : S.length = 0
  · rw [if_pos c]
  · rw [if_neg c]
    by_cases c2 : ¬ (1 ≤ cOf S ∧ cOf S ≤ S.length)
    · rw [if_pos c2]
    · rw [if_neg c2, if_pos h]
      by_cases c3 : ∀ s ∈ S.take (cOf S), rf (s.take 6) = t
      · rw [if_pos c3]
      · rw [if_neg c3]
theorem rb_ok {A R : List (List Nat)} {t : Nat} {d j : List Nat} {n : Nat} (h1 : A ≠ []) (h2 : cOf (A ++ R) = A.length) (h3 : ∀ s ∈ A, rf (s.take 6) = t) (h4 : ctOf A = wf n 4 ++ j) (hn : n ≤ j.length) (hn2 : n < 2 ^ 32) : rb (A ++ R) t = some (j.take n, A.length) := by
  have hA : 0 < A.length := by cases A with
    | nil => exact absurd rfl h1
    | cons _ _ => exact Nat.succ_pos _
  have hl : (A ++ R).length = A.length + R.length := List.length_append
  have ht : (A ++ R).take (cOf (A ++ R)) = A := by rw [h2]; exact List.take_left
  have e4 : rf ((wf n 4 ++ j).take 4) = n := by
    have : (wf n 4 ++ j).take 4 = wf n 4 := by
      have z := List.take_left (l₁ := wf n 4) (l₂ := j)
      rw [wf_len] at z
      exact z
    rw [this, rf_wf, Nat.mod_eq_of_lt (by simpa using hn2)]
  unfold rb
  rw [if_neg (by omega), if_neg (by omega), ht, if_pos h3, h4, e4, if_neg (by rw [List.length_append, wf_len]; omega)]
  have e5 : ((wf n 4 ++ j).take (4 + n)).drop 4 = j.take n := by
    rw [← List.take_drop]
    have z := List.drop_left (l₁ := wf n 4) (l₂ := j)
    rw [wf_len] at z
    rw [z]
  rw [e5, h2]
/-! the law's sectors -/
def put (s : List Nat) (p : Nat) (d : List Nat) : List Nat := s.take p ++ d ++ s.drop (p + d.length)
theorem put_len {s d : List Nat} {p : Nat} (h : p + d.length ≤ s.length) : (put s p d).length = s.length := by
  rw [put, List.length_append, List.length_append, List.length_take, List.length_drop]; omega
theorem put_take {s d : List Nat} {p k : Nat} (h : k ≤ p) (hp : p ≤ s.length) : (put s p d).take k = s.take k := by
  rw [put, List.append_assoc, List.take_append_of_le_length (by rw [List.length_take]; omega), List.take_take, Nat.min_eq_left h]
theorem put_drop {s d : List Nat} {p k : Nat} (h : p + d.length ≤ k) (hp : p ≤ s.length) : (put s p d).drop k = s.drop k := by
  have hl : (s.take p ++ d).length = p + d.length := by rw [List.length_append, List.length_take]; omega
  obtain ⟨m, rfl⟩ : ∃ m, k = p + d.length + m := ⟨k - (p + d.length), by omega⟩
  rw [put, ← List.drop_drop, show (s.take p ++ d ++ s.drop (p + d.length)).drop (p + d.length) = s.drop (p + d.length) by rw [← hl]; exact List.drop_left, List.drop_drop]
theorem put_mid {s d : List Nat} {p : Nat} (hp : p ≤ s.length) : ((put s p d).take (p + d.length)).drop p = d := by
  have hl : (s.take p ++ d).length = p + d.length := by rw [List.length_append, List.length_take]; omega
  rw [put, show (s.take p ++ d ++ s.drop (p + d.length)).take (p + d.length) = s.take p ++ d by rw [← hl]; exact List.take_left]
  have : (s.take p).length = p := by rw [List.length_take]; omega
  rw [show (s.take p ++ d).drop p = (s.take p ++ d).drop (s.take p).length by rw [this]]
  exact List.drop_left

theorem chunks (k : Nat) : ∀ (n : Nat) (l : List Nat), l.length = k * n → ((List.range n).map fun i => (l.take (k * i + k)).drop (k * i)).flatten = l := by
  intro n
  induction n with
  | zero => intro l h; rw [Nat.mul_zero] at h; rw [List.eq_nil_of_length_eq_zero h]; rfl
  | succ n ih =>
    intro l h
    have h1 : k * (n + 1) = k * n + k := Nat.mul_succ k n
    have e := ih (l.take (k * n)) (by rw [List.length_take]; omega)
    have e2 : ((List.range n).map fun i => (l.take (k * i + k)).drop (k * i)) = ((List.range n).map fun i => ((l.take (k * n)).take (k * i + k)).drop (k * i)) := by
      refine List.map_congr_left fun i hi => ?_
      have hi := List.mem_range.mp hi
      have : k * i + k ≤ k * n := by
        have z : k * (i + 1) ≤ k * n := Nat.mul_le_mul_left k hi
        rw [Nat.mul_succ] at z
        exact z
      rw [List.take_take, Nat.min_eq_left this]
    rw [List.range_succ, List.map_append, List.flatten_append, e2, e]
    show l.take (k * n) ++ ((l.take (k * n + k)).drop (k * n) ++ []) = l
    have e3 : l.take (k * n + k) = l := List.take_of_length_le (by omega)
    rw [List.append_nil, e3, List.take_append_drop]
def zer (d : List Nat) : Nat := 54 * cnt d - (4 + d.length)
theorem pad_chunk {d : List Nat} {i : Nat} (hi : i < cnt d) : piece d i ++ List.replicate (54 - (piece d i).length) 0 = ((content d ++ List.replicate (zer d) 0).take (54 * i + 54)).drop (54 * i) := by
  have hl := content_len d
  rw [piece, List.take_append, List.drop_append, List.take_replicate, List.drop_replicate]
  congr 2
  rw [List.length_drop, List.length_take, hl]
  unfold zer cnt at *
  omega
theorem ctOf_blk (t : Nat) (d : List Nat) : ctOf (blk t d) = content d ++ List.replicate (zer d) 0 := by
  rw [← chunks 54 (cnt d) (content d ++ List.replicate (zer d) 0) (by rw [List.length_append, content_len, List.length_replicate]; unfold zer cnt; omega)]
  rw [ctOf, blk, List.map_map]
  congr 1
  refine List.map_congr_left fun i hi => ?_
  rw [← pad_chunk (List.mem_range.mp hi)]
  show (padTo (front t (cnt d)) (piece d i)).drop 10 = _
  rw [padTo, List.append_assoc]
  have z := List.drop_left (l₁ := front t (cnt d)) (l₂ := piece d i ++ List.replicate (54 - (piece d i).length) 0)
  rw [front_len] at z
  exact z
theorem pad_front {t n : Nat} {x : List Nat} : (padTo (front t n) x).take 6 = wf t 6 ∧ ((padTo (front t n) x).take 10).drop 6 = wf n 4 := by
  have z1 := List.take_left (l₁ := wf t 6) (l₂ := wf n 4)
  have z2 := List.drop_left (l₁ := wf t 6) (l₂ := wf n 4)
  have z3 := List.take_left (l₁ := front t n) (l₂ := x ++ List.replicate (54 - x.length) 0)
  rw [wf_len] at z1 z2
  rw [front_len] at z3
  rw [padTo, List.append_assoc]
  refine ⟨?_, ?_⟩
  · rw [← z1]
    have z := congrArg (List.take 6) z3
    rw [List.take_take] at z
    exact z
  · rw [z3]
    exact z2
theorem blk_6 {t : Nat} {d s : List Nat} (h : s ∈ blk t d) : s.take 6 = wf t 6 ∧ (s.take 10).drop 6 = wf (cnt d) 4 := by
  obtain ⟨i, _, rfl⟩ := List.mem_map.mp h
  exact pad_front
theorem rf6 {t : Nat} (h : t < 2 ^ 48) : rf (wf t 6) = t := by rw [rf_wf, Nat.mod_eq_of_lt (by simpa using h)]
theorem rf4 {t : Nat} (h : t < 2 ^ 32) : rf (wf t 4) = t := by rw [rf_wf, Nat.mod_eq_of_lt (by simpa using h)]
/-- all of what a list of sectors needs to be read as d -/
theorem rb_good {A R : List (List Nat)} {t c n : Nat} {d j : List Nat} (hc : 0 < c) (hl : A.length = c) (h0 : rf (((A.getD 0 []).take 10).drop 6) = c) (h6 : ∀ s ∈ A, rf (s.take 6) = t) (h4 : ctOf A = wf n 4 ++ (d ++ j)) (hn : n ≤ d.length) (hn2 : n < 2 ^ 32) : rb (A ++ R) t = some (d.take n, c) := by
  have h1 : A ≠ [] := fun e => by rw [e] at hl; simp at hl; omega
  have h2 : cOf (A ++ R) = A.length := by
    rw [cOf, List.getD_eq_getElem?_getD, List.getElem?_append_left (by omega), ← List.getD_eq_getElem?_getD, h0, hl]
  rw [rb_ok (d := []) (j := d ++ j) h1 h2 h6 h4 (by rw [List.length_append]; omega) hn2, List.take_append_of_le_length hn, hl]
theorem get0 {A B : List (List Nat)} (h : 0 < A.length) : (A ++ B).getD 0 [] = A.getD 0 [] := by
  rw [List.getD_eq_getElem?_getD, List.getElem?_append_left h, ← List.getD_eq_getElem?_getD]
theorem blk_0 (t : Nat) (d : List Nat) : (blk t d).getD 0 [] ∈ blk t d := by
  have h : 0 < (blk t d).length := by rw [blk_len]; exact cnt_pos d
  rw [List.getD_eq_getElem?_getD, List.getElem?_eq_getElem h]
  exact List.getElem_mem h
theorem blk_split (t : Nat) (d : List Nat) : blk t d = [(blk t d).getD 0 []] ++ (blk t d).drop 1 := by
  have h : 0 < (blk t d).length := by rw [blk_len]; exact cnt_pos d
  cases e : blk t d with
  | nil => rw [e] at h; cases h
  | cons a l => rfl
theorem cnt_lt {d : List Nat} (h : d.length ≤ 401) : cnt d ≤ 8 := by unfold cnt; omega
theorem rb_blk {t : Nat} {d : List Nat} {R : List (List Nat)} (ht : t < 2 ^ 48) (hd : d.length ≤ 401) : rb (blk t d ++ R) t = some (d, cnt d) := by
  have hc := cnt_lt hd
  have z := rb_good (A := blk t d) (R := R) (t := t) (n := d.length) (d := d) (j := List.replicate (zer d) 0) (cnt_pos d) (blk_len t d) (by rw [(blk_6 (blk_0 t d)).2, rf4 (by omega)]) (fun s h => by rw [(blk_6 h).1, rf6 ht]) (by rw [ctOf_blk, content, List.append_assoc]) (Nat.le_refl _) (by omega)
  rw [List.take_length] at z
  exact z
/-- the later sectors with other numbers of sectors -/
def Alike (s c : List Nat) : Prop := c.take 6 = s.take 6 ∧ c.drop 10 = s.drop 10 ∧ c.length = s.length
theorem alike_put {s : List Nat} {r : Nat} (h : s.length = 64) : Alike s (put s 6 (wf r 4)) := by
  refine ⟨put_take (Nat.le_refl _) (by omega), ?_, put_len (by rw [wf_len]; omega)⟩
  exact put_drop (by rw [wf_len]; omega) (by omega)
theorem alike_ct : ∀ {A B : List (List Nat)}, All2 Alike A B → ctOf B = ctOf A
  | _, _, .nil => rfl
  | _, _, .cons r t => by
    have e := alike_ct t
    unfold ctOf at e ⊢
    rw [List.map_cons, List.map_cons, List.flatten_cons, List.flatten_cons, e, r.2.1]
theorem alike_refl (A : List (List Nat)) : All2 Alike A A := by
  induction A with
  | nil => exact .nil
  | cons a A ih => exact .cons ⟨rfl, rfl, rfl⟩ ih
theorem ctOf_app (A B : List (List Nat)) : ctOf (A ++ B) = ctOf A ++ ctOf B := by rw [ctOf, List.map_append, List.flatten_append]; rfl
theorem ctOf_one (s : List Nat) : ctOf [s] = s.drop 10 := by rw [ctOf, List.map_singleton, List.flatten_singleton]
/-- sectors like those of a block, the first one as it was, the last one perhaps with other zeros -/
theorem rb_alike {t x : Nat} {d : List Nat} {C R : List (List Nat)} (ht : t < 2 ^ 48) (hd : d.length ≤ 401) (h : All2 Alike ((blk t d).drop 1) C) : rb ((((blk t d).take 1 ++ C)) ++ R) t = some (d, cnt d) ∧
    ∀ l, ((blk t d).take 1 ++ C).getLast? = some l → rb (((blk t d).take 1 ++ C).set (cnt d - 1) (l.take (64 - zer d) ++ List.replicate (zer d) x) ++ R) t = some (d, cnt d) := by
  have hp := cnt_pos d
  have hcl := cnt_lt hd
  have hbl := blk_len t d
  have hlC : C.length = cnt d - 1 := by rw [← h.length, List.length_drop, hbl]
  have htk : (blk t d).take 1 = [(blk t d).getD 0 []] := by
    have z := blk_split t d
    generalize (blk t d).getD 0 [] = a at z ⊢
    rw [z]
    rfl
  have hAll : All2 Alike (blk t d) ((blk t d).take 1 ++ C) := by
    have z := blk_split t d
    rw [htk]
    conv => arg 2; rw [z]
    exact .cons ⟨rfl, rfl, rfl⟩ h
  generalize hA : (blk t d).take 1 ++ C = A at hAll ⊢
  have hl : A.length = cnt d := by rw [← hAll.length, hbl]
  have h0 : A.getD 0 [] = (blk t d).getD 0 [] := by rw [← hA, htk]; rfl
  have h6 : ∀ s ∈ A, rf (s.take 6) = t ∧ s.length = 64 := fun s hs => by
    obtain ⟨b, hb, r⟩ := hAll.mem hs
    rw [r.1, (blk_6 hb).1, rf6 ht, r.2.2, blk_64 t d b hb]
    exact ⟨rfl, rfl⟩
  have hct : ctOf A = wf d.length 4 ++ (d ++ List.replicate (zer d) 0) := by rw [alike_ct hAll, ctOf_blk, content, List.append_assoc]
  have hc0 : rf (((A.getD 0 []).take 10).drop 6) = cnt d := by rw [h0, (blk_6 (blk_0 t d)).2, rf4 (by omega)]
  refine ⟨?_, fun l hl' => ?_⟩
  · have z := rb_good (R := R) (cnt_pos d) hl hc0 (fun s hs => (h6 s hs).1) hct (Nat.le_refl _) (by omega)
    rw [List.take_length] at z
    exact z
  · have hz : zer d ≤ 53 := by unfold zer cnt; omega
    have eA : A = A.take (cnt d - 1) ++ [l] := by
      have hlt : cnt d - 1 < A.length := by omega
      have : A[cnt d - 1]? = some l := by rw [← hl', List.getLast?_eq_getElem?, hl]
      rw [← take_snoc this, Nat.sub_add_cancel hp, ← hl, List.take_length]
    have eS : A.set (cnt d - 1) (l.take (64 - zer d) ++ List.replicate (zer d) x) = A.take (cnt d - 1) ++ [l.take (64 - zer d) ++ List.replicate (zer d) x] := by
      conv => lhs; rw [eA]
      rw [List.set_append_right _ _ (by rw [List.length_take]; omega), List.length_take, Nat.min_eq_left (by omega), Nat.sub_self]
      rfl
    have hlm : l ∈ A := by rw [eA]; simp
    have hl64 := (h6 l hlm).2
    rw [eS]
    have hll : (l.take (64 - zer d) ++ List.replicate (zer d) x).take 10 = l.take 10 := by
      rw [List.take_append_of_le_length (by rw [List.length_take]; omega), List.take_take, Nat.min_eq_left (by omega)]
    have z := rb_good (A := A.take (cnt d - 1) ++ [l.take (64 - zer d) ++ List.replicate (zer d) x]) (R := R) (t := t) (n := d.length) (d := d) (j := List.replicate (zer d) x) (cnt_pos d) (by rw [List.length_append, List.length_take, List.length_singleton]; omega) ?_ ?_ ?_ (Nat.le_refl _) (by omega)
    · rw [List.take_length] at z
      exact z
    · by_cases c : cnt d = 1
      · have e0 : A = [l] := by rw [eA, c]; rfl
        have e9 : A.take (cnt d - 1) = [] := by rw [c]; rfl
        rw [e9]
        show rf ((List.take 10 (l.take (64 - zer d) ++ List.replicate (zer d) x)).drop 6) = _
        rw [hll]
        rw [e0] at hc0
        exact hc0
      · rw [get0 (by rw [List.length_take]; omega)]
        have : (A.take (cnt d - 1)).getD 0 [] = A.getD 0 [] := by
          conv => rhs; rw [eA]
          exact (get0 (by rw [List.length_take]; omega)).symm
        rw [this]
        exact hc0
    · intro s hs
      rcases List.mem_append.mp hs with hs | hs
      · exact (h6 s (List.mem_of_mem_take hs)).1
      · rw [List.mem_singleton] at hs
        subst hs
        have : (l.take (64 - zer d) ++ List.replicate (zer d) x).take 6 = l.take 6 := by
          rw [List.take_append_of_le_length (by rw [List.length_take]; omega), List.take_take, Nat.min_eq_left (by omega)]
        rw [this]
        exact (h6 l hlm).1
    · have e1 : ctOf A = ctOf (A.take (cnt d - 1)) ++ l.drop 10 := by
        conv => lhs; rw [eA]
        rw [ctOf_app, ctOf_one]
      rw [ctOf_app, ctOf_one, List.drop_append_of_le_length (by rw [List.length_take]; omega), ← List.append_assoc]
      have e2 : (l.take (64 - zer d)).drop 10 = (l.drop 10).take (54 - zer d) := by rw [List.drop_take]; congr 1; omega
      rw [e2]
      have hlen := congrArg List.length e1
      rw [hct] at hlen
      simp only [List.length_append, wf_len, List.length_replicate, List.length_drop, hl64] at hlen
      have e3 : (ctOf A).take (4 + d.length) = ctOf (A.take (cnt d - 1)) ++ (l.drop 10).take (54 - zer d) := by
        rw [e1, List.take_append, List.take_of_length_le (by omega)]
        congr 2
        omega
      rw [← e3, hct, ← List.append_assoc, List.take_append_of_le_length (by rw [List.length_append, wf_len]; omega), List.take_of_length_le (by rw [List.length_append, wf_len]; omega), List.append_assoc]

/-! spoilt ones -/
theorem put_first {s b : List Nat} {f : Nat} (h : s.length = 64) : (put s 10 (wf f 4)).take 10 = s.take 10 ∧ (put s 10 (wf f 4)).drop 10 = wf f 4 ++ s.drop 14 := by
  refine ⟨put_take (Nat.le_refl _) (by omega), ?_⟩
  rw [put, List.append_assoc, wf_len]
  have : (s.take 10).length = 10 := by rw [List.length_take]; omega
  have z := List.drop_left (l₁ := s.take 10) (l₂ := wf f 4 ++ s.drop (10 + 4))
  rw [this] at z
  exact z
/-- the first sector of a block, changed behind its front -/
theorem short_facts {t f : Nat} {d : List Nat} (ht : t < 2 ^ 48) (hd : d.length ≤ 401) : let A := [put ((blk t d).getD 0 []) 10 (wf f 4)] ++ (blk t d).drop 1
    A.length = cnt d ∧ rf (((A.getD 0 []).take 10).drop 6) = cnt d ∧ (∀ s ∈ A, rf (s.take 6) = t) ∧ ctOf A = wf f 4 ++ (d ++ List.replicate (zer d) 0) := by
  have hp := cnt_pos d
  have hcl := cnt_lt hd
  have hs := blk_split t d
  have h0 := blk_0 t d
  have hl := blk_len t d
  have h64 := blk_64 t d _ h0
  generalize hz : (blk t d).getD 0 [] = z at hs h0 h64
  obtain ⟨p1, p2⟩ := put_first (b := []) (f := f) h64
  intro A
  refine ⟨?_, ?_, ?_, ?_⟩
  · show (put z 10 (wf f 4) :: (blk t d).drop 1).length = _
    rw [List.length_cons, List.length_drop, hl]; omega
  · show rf (((put z 10 (wf f 4)).take 10).drop 6) = _
    rw [p1, (blk_6 h0).2, rf4 (by omega)]
  · intro s hs'
    rcases List.mem_cons.mp hs' with rfl | hs'
    · have : (put z 10 (wf f 4)).take 6 = z.take 6 := put_take (by decide) (by omega)
      rw [this, (blk_6 h0).1, rf6 ht]
    · rw [(blk_6 (List.mem_of_mem_drop hs')).1, rf6 ht]
  · show ctOf ([put z 10 (wf f 4)] ++ (blk t d).drop 1) = _
    have e := ctOf_blk t d
    rw [hs, ctOf_app, ctOf_one, content, List.append_assoc] at e
    rw [ctOf_app, ctOf_one, p2, List.append_assoc]
    congr 1
    have e2 := congrArg (List.drop 4) e
    rw [List.drop_append_of_le_length (by rw [List.length_drop]; omega), List.drop_drop] at e2
    have z4 := List.drop_left (l₁ := wf d.length 4) (l₂ := d ++ List.replicate (zer d) 0)
    rw [wf_len] at z4
    rw [z4] at e2
    rw [show (blk t d).drop 1 = ([z] ++ List.drop 1 (blk t d)).drop 1 from rfl, ← hs]
    exact e2
theorem rb_short {t f : Nat} {d : List Nat} {R : List (List Nat)} (ht : t < 2 ^ 48) (hd : d.length ≤ 401) (hf : f ≤ d.length) : rb (([put ((blk t d).getD 0 []) 10 (wf f 4)] ++ (blk t d).drop 1) ++ R) t = some (d.take f, cnt d) := by
  obtain ⟨a, b, c, e⟩ := short_facts (f := f) ht hd
  exact rb_good (cnt_pos d) a b c e hf (by omega)
theorem rb_more {t r : Nat} {d : List Nat} (ht : t < 2 ^ 48) (hd : d.length ≤ 401) (hr : r < 1000) : rb ([put ((blk t d).getD 0 []) 10 (wf (54 * cnt d - 3 + r) 4)] ++ (blk t d).drop 1) t = none := by
  obtain ⟨a, b, c, e⟩ := short_facts (f := 54 * cnt d - 3 + r) ht hd
  have hcl := cnt_lt hd
  have hp := cnt_pos d
  have hc : cOf ([put ((blk t d).getD 0 []) 10 (wf (54 * cnt d - 3 + r) 4)] ++ (blk t d).drop 1) = cnt d := b
  refine rb_size ?_
  rw [hc]
  rw [show ∀ {A : List (List Nat)}, A.length = cnt d → A.take (cnt d) = A from fun h => by rw [← h, List.take_length], e]
  rotate_left
  · exact a
  have z4 := List.take_left (l₁ := wf (54 * cnt d - 3 + r) 4) (l₂ := d ++ List.replicate (zer d) 0)
  rw [wf_len] at z4
  rw [z4, rf4 (by omega)]
  simp only [List.length_append, wf_len, List.length_replicate]
  unfold zer cnt at *
  omega
theorem rb_next {t : Nat} {d : List Nat} {R : List (List Nat)} (ht : t < 2 ^ 48) (hd : d.length ≤ 401) : rb (blk t d ++ R) (t + 1) = none := by
  have hp := cnt_pos d
  have hcl := cnt_lt hd
  have hl := blk_len t d
  have hc : cOf (blk t d ++ R) = cnt d := by rw [cOf, get0 (by omega), (blk_6 (blk_0 t d)).2, rf4 (by omega)]
  refine rb_turn ⟨(blk t d).getD 0 [], ?_, ?_⟩
  · rw [hc, ← hl, List.take_left]
    exact blk_0 t d
  · rw [(blk_6 (blk_0 t d)).1, rf6 ht]
    omega
theorem rb_fewer {t : Nat} {d : List Nat} (hd : d.length ≤ 401) : rb ((blk t d).take (cnt d - 1)) t = none := by
  have hp := cnt_pos d
  have hcl := cnt_lt hd
  have hl := blk_len t d
  by_cases c : cnt d = 1
  · rw [c]
    exact rb_nil t
  · refine rb_cnt ?_
    have h0 : ((blk t d).take (cnt d - 1)).getD 0 [] = (blk t d).getD 0 [] := by
      rw [List.getD_eq_getElem?_getD, List.getElem?_take_of_lt (by omega), ← List.getD_eq_getElem?_getD]
    rw [cOf, h0, (blk_6 (blk_0 t d)).2, rf4 (by omega), List.length_take]
    omega
theorem rb_count {t n : Nat} {s : List Nat} {L : List (List Nat)} (hs : s.length = 64) (hn : n < 2 ^ 32) (h : n = 0 ∨ L.length + 1 < n) : rb ([put s 6 (wf n 4)] ++ L) t = none := by
  refine rb_cnt ?_
  have e : (((put s 6 (wf n 4)).take 10).drop 6) = wf n 4 := by
    have z := put_mid (s := s) (d := wf n 4) (p := 6) (by omega)
    rw [wf_len] at z
    exact z
  have : cOf ([put s 6 (wf n 4)] ++ L) = n := by
    show rf (((put s 6 (wf n 4)).take 10).drop 6) = n
    rw [e, rf4 hn]
  rw [this]
  show ¬ (1 ≤ n ∧ n ≤ L.length + 1)
  omega
theorem put_one {s : List Nat} {a v : Nat} (h : a < s.length) : put s a [v] = s.set a v := by
  rw [put, List.set_eq_take_append_cons_drop, if_pos h, List.append_assoc]
  rfl
/-- one byte of a turn is another one -/
theorem rb_wrong {t a v k : Nat} {d : List Nat} (ht : t < 2 ^ 48) (hd : d.length ≤ 401) (hk : k < cnt d) (ha : a < 6) (hv : v < 256) (hne : v ≠ ((blk t d).getD k []).getD a 0) :
    rb (((blk t d).take k ++ [put ((blk t d).getD k []) a [v]]) ++ (blk t d).drop (k + 1)) t = none := by
  have hp := cnt_pos d
  have hcl := cnt_lt hd
  have hl := blk_len t d
  have hkl : k < (blk t d).length := by omega
  have em : (blk t d).getD k [] = (blk t d)[k] := by rw [List.getD_eq_getElem?_getD, List.getElem?_eq_getElem hkl]; rfl
  have hm : (blk t d).getD k [] ∈ blk t d := by rw [em]; exact List.getElem_mem hkl
  have h64 := blk_64 t d _ hm
  generalize hz : (blk t d).getD k [] = z at hm h64 hne ⊢
  rw [put_one (by omega)]
  generalize hS : ((blk t d).take k ++ [z.set a v]) ++ (blk t d).drop (k + 1) = S
  have hc : cOf S = cnt d := by
    have : ((S.getD 0 []).take 10).drop 6 = (((blk t d).getD 0 []).take 10).drop 6 := by
      by_cases c : k = 0
      · subst c
        rw [← hS, hz]
        show ((z.set a v).take 10).drop 6 = _
        rw [List.take_set, List.drop_set_of_lt (by omega)]
      · rw [← hS, List.append_assoc, get0 (by rw [List.length_take]; omega), List.getD_eq_getElem?_getD, List.getElem?_take_of_lt (by omega), ← List.getD_eq_getElem?_getD]
    rw [cOf, this, (blk_6 (blk_0 t d)).2, rf4 (by omega)]
  have hSl : S.length = cnt d := by rw [← hS]; simp only [List.length_append, List.length_take, List.length_drop, List.length_singleton, hl]; omega
  refine rb_turn ⟨z.set a v, ?_, fun e => ?_⟩
  · rw [hc, ← hSl, List.take_length, ← hS]
    simp
  · have e1 : rf ((z.set a v).take 6) = rf (z.take 6) := by rw [e, (blk_6 hm).1, rf6 ht]
    have e2 := rf_inj _ _ (by simp) (fun x hx => ?_) (fun x hx => ?_) e1
    · have e3 := congrArg (fun l : List Nat => l.getD a 0) e2
      simp only [List.getD_eq_getElem?_getD] at e3
      rw [List.getElem?_take_of_lt ha, List.getElem?_take_of_lt ha, List.getElem?_set_self (by omega), ← List.getD_eq_getElem?_getD] at e3
      exact hne e3
    · rw [List.take_set, (blk_6 hm).1] at hx
      rcases List.mem_or_eq_of_mem_set hx with hx | rfl
      · exact wf_lt _ _ x hx
      · exact hv
    · rw [(blk_6 hm).1] at hx
      exact wf_lt _ _ x hx
/-! heads -/
def hd (t a : Nat) : List Nat := (([82, 85, 76, 69] ++ wf t 6) ++ [a]) ++ List.replicate 53 0
theorem hd_len (t a : Nat) : (hd t a).length = 64 := by simp [hd, wf_len]
def rh (s : List Nat) : Option (Nat × Nat) := if rf ((s.take 10).drop 4) < 1 then none else if 1 < s.getD 10 0 then none else if s = hd (rf ((s.take 10).drop 4)) (s.getD 10 0) then some (rf ((s.take 10).drop 4), s.getD 10 0) else none
def rhD (s : List Nat) : PyData := match rh s with
  | none => .none
  | some (t, a) => .tuple [.int t, .int a]
theorem wf6 (a : Nat) : ∃ x0 x1 x2 x3 x4 x5, wf a 6 = [x0, x1, x2, x3, x4, x5] := ⟨_, _, _, _, _, _, rfl⟩
theorem hd_told (t a : Nat) : ((hd t a).take 10).drop 4 = wf t 6 ∧ (hd t a).getD 10 0 = a := by
  obtain ⟨x0, x1, x2, x3, x4, x5, hx⟩ := wf6 t
  unfold hd
  rw [hx]
  exact ⟨rfl, rfl⟩
theorem rh_hd {t a : Nat} (h0 : 1 ≤ t) (ht : t < 2 ^ 48) (ha : a < 2) : rh (hd t a) = some (t, a) := by
  obtain ⟨e1, e2⟩ := hd_told t a
  unfold rh
  rw [e1, e2, rf6 ht, if_neg (by omega), if_neg (by omega), if_pos rfl]
theorem hd_fixed {p : Nat} (hp : p < 4 ∨ 11 ≤ p) (t a u b : Nat) : (hd t a).getD p 0 = (hd u b).getD p 0 := by
  obtain ⟨x0, x1, x2, x3, x4, x5, hx⟩ := wf6 t
  obtain ⟨y0, y1, y2, y3, y4, y5, hy⟩ := wf6 u
  unfold hd
  rw [hx, hy]
  rcases hp with hp | hp
  · match p, hp with
    | 0, _ | 1, _ | 2, _ | 3, _ => rfl
  · obtain ⟨q, rfl⟩ : ∃ q, p = q + 11 := ⟨p - 11, by omega⟩
    rfl
theorem rh_wrong {t a p v : Nat} (hp : p < 4 ∨ 11 ≤ p) (hl : p < 64) (hv : v ≠ (hd t a).getD p 0) : rh (put (hd t a) p [v]) = none := by
  rw [put_one (by rw [hd_len]; exact hl)]
  unfold rh
  split
  · rfl
  · split
    · rfl
    · split
      · rename_i e
        have z := congrArg (fun l : List Nat => l.getD p 0) e
        replace z : ((hd t a).set p v).getD p 0 = _ := z
        rw [List.getD_eq_getElem?_getD, List.getElem?_set_self (by rw [hd_len]; exact hl)] at z
        exact absurd (z.trans (hd_fixed hp _ _ t a)) hv
      · rfl
theorem rh_area {s : List Nat} {v : Nat} (hl : s.length = 64) (hv : 1 < v) : rh (put s 10 [v]) = none := by
  rw [put_one (by omega)]
  have e : (s.set 10 v).getD 10 0 = v := by rw [List.getD_eq_getElem?_getD, List.getElem?_set_self (by omega)]; rfl
  unfold rh
  rw [e, if_pos hv, ite_self]
theorem rh_zero {s : List Nat} (h : (s.take 10).drop 4 = List.replicate 6 0) : rh s = none := by
  unfold rh
  rw [h]
  exact if_pos (by decide)
theorem rh_put0 {s : List Nat} (hl : s.length = 64) : rh (put s 4 (List.replicate 6 0)) = none := rh_zero (put_mid (s := s) (d := List.replicate 6 0) (p := 4) (by omega))
theorem getD_take {l : List Nat} {a n : Nat} (h : a < n) : (l.take n).getD a 0 = l.getD a 0 := by
  rw [List.getD_eq_getElem?_getD, List.getD_eq_getElem?_getD, List.getElem?_take_of_lt h]
theorem getD_lt {l : List Nat} {a m : Nat} (h : ∀ x ∈ l, x < m) (ha : a < l.length) : l.getD a 0 < m := by
  rw [List.getD_eq_getElem?_getD, List.getElem?_eq_getElem ha]
  exact h _ (List.getElem_mem ha)
theorem rbD_none {S : List (List Nat)} {t : Nat} (h : rb S t = none) : rbD S t = .none := by rw [rbD, h]
/-! ### promises -/
abbrev nV (ns : List Nat) : List V := ns.map fun n : Nat => V.int n
def sp_fixed : Sp := fun vs H Q _ => ∃ n c : Nat, vs = [.int n, .int c] ∧ c ≤ 100 ∧ ∀ v H', Ext [] H H' → New H H' v (nats (wf n c)) → Q v H'
theorem rd_fixed {M : List Addr} {H : Hp} {Q : VK} {E : XK} {x y : Int} (n c : Nat) (s : Al M H) (hx : x = (n : Int)) (hy : y = (c : Int)) (hc : c ≤ 100) (q : ∀ p H', Ext [] H H' → Is M H' (.ref p) (nats (wf n c)) → Q (.ref p) H') : sp_fixed ([.int x, .int y] ++ []) H Q E := by
  subst hx hy
  refine ⟨n, c, rfl, hc, fun v H' e i => ?_⟩
  have j := i M s
  obtain ⟨a, xs, rfl, _⟩ := j.listV
  exact q a H' e j
def sp_num : Sp := fun vs H Q _ => ∃ (M : List Addr) (a : Addr) (ns : List Nat), vs = [.ref a] ∧ Is M H (.ref a) (nats ns) ∧ Q (.int (rf ns)) H
theorem rd_num {M : List Addr} {H : Hp} {Q : VK} {E : XK} {a : Addr} {ns : List Nat} (i : Is M H (.ref a) (nats ns)) (q : Q (.int (rf ns)) H) : sp_num ([.ref a] ++ []) H Q E := ⟨M, a, ns, rfl, i, q⟩
def sp_turn : Sp := fun vs H Q _ => ∃ (M : List Addr) (a : Addr) (ns : List Nat), vs = [.ref a] ∧ Is M H (.ref a) (nats ns) ∧ Al M H ∧ ∀ H', Ext [] H H' → Q (.int (rf (ns.take 6))) H'
section
variable {P : Program} {w : World} {K : PySem.W.Frag} {mg : Str → Option Value} {base : Heap}
theorem ok_fixed (T : Txt K mg) : Cal P w K mg base 1 "fixed" sp_fixed [] := by
  refine T.f_fixed.cal sc_fixed bd_fixed (fun vs H Q E h => ?_) fun f cdv A outer s H vs Q E hr h => ?_
  · obtain ⟨n, c, rfl, _⟩ := h; rfl
  obtain ⟨n, c, rfl, hc, q⟩ := h
  refine ⟨_, (pss_cons (ps_set (i := 2) sc_fixed.nd rfl (Or.inl rfl) (pe_lst pa_nil))
      (pss_cons (ps_for PassesOwn.never rfl (pi_range1 rfl T.z_range (pa_cons (pv 1) pa_nil)) (pg_name (i := 3) sc_fixed.nd rfl (Or.inl rfl))
      (pss_cons (ps_expr (pe_bm PySem.F.plainAttrs_list PySem.F.slot_list_append PySem.F.type_list_append mt_append (pv 2) (pa_cons (pe_op op_mod (pv 0) pe_int) pa_nil)))
      (pss_one (ps_set (i := 0) sc_fixed.nd rfl (Or.inl rfl) (pe_op op_fdiv (pv 0) pe_int)))))
      (pss_one (ps_ret (pe_revLK K (pv 2)))))), ?_⟩
  walk_at "k"
  walk_at "rd"
  refine ⟨szl (by simp), fun p hp => ?_⟩
  walk_at "rd"
  refine q_range (fun i σ H' => ∃ (x : Option V), σ = [some (.int ((n / 256 ^ i : Nat) : Int)), some (.int c), some (.ref p), x] ∧ Ext [] H H' ∧ H' p = some (.lst (nV (lit i n)))) ⟨none, by rw [Nat.pow_zero, Nat.div_one] <;> rfl, .new hp, upd_same⟩ ?_ ?_
  · rintro i σ H' hi ⟨x, rfl, e, hx⟩
    walk_at "rd"
    refine rd_app hx ?_
    walk_at "rd"
    refine ⟨_, hx, szl' (by rw [List.length_map, lit_len]; omega), ?_⟩
    walk_at "rd"
    have e1 : ((n / 256 ^ i : Nat) : Int) / 256 = ((n / 256 ^ (i + 1) : Nat) : Int) := by rw [Nat.pow_succ, ← Nat.div_div_eq_div_mul]; rfl
    rw [e1]
    refine ⟨_, rfl, e.mut hp, ?_⟩
    rw [upd_same, lit_snoc]
    show some (HO.lst (nV (lit i n) ++ _)) = some (HO.lst (List.map _ _))
    rw [List.map_append]
    rfl
  · rintro σ H' ⟨x, rfl, e, hx⟩
    walk_at "rd"
    refine rd_revd (SqL.of hx) fun r hr => ?_
    refine q _ _ (e.trans (.new hr)) fun M hM => new_lst (hM.ext e) ?_ hr
    rw [nV, ← List.map_reverse]
    exact nats_V _
theorem ok_number_of (T : Txt K mg) : Cal P w K mg base 1 "number_of" sp_num [] := by
  refine T.f_number_of.cal sc_number_of bd_number_of (fun vs H Q E h => ?_) fun f cdv A outer s H vs Q E hr h => ?_
  · obtain ⟨M, a, ns, rfl, _⟩ := h; rfl
  obtain ⟨M, a, ns, rfl, hI, q⟩ := h
  refine ⟨_, (pss_cons (ps_set (i := 1) sc_number_of.nd rfl (Or.inl rfl) pe_int)
      (pss_cons (ps_for PassesOwn.never rfl (pi_listK K (pv 0)) (pg_name (i := 2) sc_number_of.nd rfl (Or.inl rfl))
      (pss_one (ps_set (i := 1) sc_number_of.nd rfl (Or.inl rfl) (pe_op op_add (pe_op op_mul pe_int (pv 1)) (pv 2)))))
      (pss_one (ps_ret (pv 1))))), ?_⟩
  walk_at "k"
  walk_at "rd"
  refine q_dataM (g := fun n : Nat => PyData.int n) hI (fun i σ H' => ∃ (x : Option V), σ = [some (.ref a), some (.int (rf (ns.take i))), x] ∧ H' = H) ⟨none, rfl, rfl⟩ (fun i σ H' ⟨_, _, e⟩ => by rw [e]; exact .refl) ?_ ?_
  · rintro i b x σ H' hn hd ⟨y, rfl, rfl⟩
    cases hd
    walk_at "rd"
    have e2 : rf (ns.take (i + 1)) = 256 * rf (ns.take i) + b := by rw [take_snoc hn, rf_snoc]
    rw [e2]
    exact ⟨_, rfl, rfl⟩
  · rintro σ H' ⟨y, rfl, rfl⟩
    rw [List.take_length]
    walk_at "rd"
    exact q
theorem ok_turn_of (T : Txt K mg) : Cal P w K mg base 2 "turn_of" sp_turn [] := by
  refine T.f_turn_of.cal sc_turn_of bd_turn_of (fun vs H Q E h => ?_) fun f cdv A outer s H vs Q E hr h => ?_
  · obtain ⟨M, a, ns, rfl, _⟩ := h; rfl
  obtain ⟨M, a, ns, rfl, hI, hM, q⟩ := h
  refine ⟨_, (pss_one (ps_ret (pe_c (ok_number_of T) hr (by decide) rfl (pa_cons (pe_slice (sl_listK K) (pv 0) po_none (po_some pe_int)) pa_nil)))), ?_⟩
  walk_at "k"
  walk_at "rd"
  refine rd_ncut0 (h := 6) hM hI rfl fun p1 H1 hp1 e1 i1 => ?_
  walk_at "rd"
  refine rd_num i1 ?_
  exact q _ e1
end
def sp_wb : Sp := fun vs H Q _ => ∃ (M : List Addr) (a : Addr) (t : Nat) (d : List Nat), vs = [.int t, .ref a] ∧ Is M H (.ref a) (nats d) ∧ d.length ≤ 401 ∧ Al M H ∧ ∀ v H', Ext [] H H' → Is M H' v (natss (blk t d)) → Q v H'
def sp_rb : Sp := fun vs H Q _ => ∃ (M : List Addr) (a : Addr) (S : List (List Nat)) (t : Nat), vs = [.ref a, .int t] ∧ Is M H (.ref a) (natss S) ∧ S.length ≤ 100 ∧ (∀ s ∈ S, s.length ≤ 100) ∧ Al M H ∧ ∀ v H', Ext [] H H' → Is M H' v (rbD S t) → Q v H'
def sp_as : Sp := fun vs H Q _ => ∃ n : Int, vs = [.int n] ∧ Q (.int ((n - 2) / 2)) H
def sp_ast : Sp := fun vs H Q _ => ∃ n m : Int, vs = [.int n, .int m] ∧ (-(2 ^ 64) < m ∧ m < 2 ^ 64) ∧ Q (.int (2 + m * ((n - 2) / 2))) H
def sp_head : Sp := fun vs H Q _ => ∃ (M : List Addr) (t a : Nat), vs = [.int t, .int a] ∧ Al M H ∧ ∀ p H', Ext [] H H' → Is M H' (.ref p) (nats (hd t a)) → Q (.ref p) H'
def sp_rh : Sp := fun vs H Q _ => ∃ (M : List Addr) (a : Addr) (s : List Nat), vs = [.ref a] ∧ Is M H (.ref a) (nats s) ∧ 10 < s.length ∧ s.length ≤ 100 ∧ Al M H ∧ ∀ v H', Ext [] H H' → Is M H' v (rhD s) → Q v H'
section
variable {P : Program} {w : World} {K : PySem.W.Frag} {mg : Str → Option Value} {base : Heap}
theorem ok_write_block (T : Txt K mg) : Cal P w K mg base 2 "write_block" sp_wb [] := by
  refine T.f_write_block.cal sc_write_block bd_write_block (fun vs H Q E h => ?_) fun f cdv A outer s H vs Q E hr h => ?_
  · obtain ⟨M, a, t, d, rfl, _⟩ := h; rfl
  obtain ⟨M, a, t, d, rfl, hI, hl, hM, q⟩ := h
  have hcl := cnt_lt hl
  refine ⟨_, (pss_cons (ps_set (i := 2) sc_write_block.nd rfl (Or.inr rfl) (pe_op op_cat (pe_c (ok_fixed T) hr (by decide) rfl (pa_cons (pe_callB (call_lenK K) (by rfl) T.z_len (by decide +kernel) (pa_cons (pv 1) pa_nil)) (pa_cons pe_int pa_nil))) (pe_callTy (call_listK K) (by rfl) T.z_list (by decide +kernel) (pa_cons (pv 1) pa_nil))))
      (pss_cons (ps_setLc (i := 3) (own := [("start", 4)]) (g := gName 4) (tt := tYes) rfl sc_write_block.nd rfl rfl (sw_true rfl rfl rfl (by decide +kernel)) (pi_range3 rfl T.z_range (pa_cons pe_int (pa_cons (pe_callB (call_lenK K) (by rfl) T.z_len (by decide +kernel) (pa_cons (pv 2) pa_nil)) (pa_cons (pe_gc (by rfl) T.g_PIECE) pa_nil)))) (blkOk_by (own := [("start", 4)]) (N := nm_write_block) (sc := defScope s_write_block) (by decide +kernel)) (fun _ _ _ _ _ => (pg_name (i := 4) sc_write_block.nd rfl (Or.inl rfl))) (fun _ _ _ _ _ => pts_nil) (fun _ _ _ _ _ => (pe_slice (sl_listK K) (pv 2) (po_some (pv 4)) (po_some (pe_op op_add (pv 4) (pe_gc (by rfl) T.g_PIECE))))))
      (pss_cons (ps_set (i := 5) sc_write_block.nd rfl (Or.inr rfl) (pe_op op_cat (pe_c (ok_fixed T) hr (by decide) rfl (pa_cons (pv 0) (pa_cons pe_int pa_nil))) (pe_c (ok_fixed T) hr (by decide) rfl (pa_cons (pe_callB (call_lenK K) (by rfl) T.z_len (by decide +kernel) (pa_cons (pv 3) pa_nil)) (pa_cons pe_int pa_nil)))))
      (pss_one (ps_ret (pe_lc (own := [("piece", 6)]) (g := gName 6) (tt := tYes) rfl sc_write_block.nd (pi_listK K (pv 3)) (blkOk_by (own := [("piece", 6)]) (N := nm_write_block) (sc := defScope s_write_block) (by decide +kernel)) (fun _ _ _ _ _ => (pg_name (i := 6) sc_write_block.nd rfl (Or.inl rfl))) (fun _ _ _ _ _ => pts_nil) (fun _ _ _ _ _ => (pe_op op_cat (pe_op op_cat (pv 5) (pv 6)) (pe_op op_rep (pe_lst (pa_cons pe_int pa_nil)) (pe_op op_sub (pe_gc (by rfl) T.g_PIECE) (pe_callB (call_lenK K) (by rfl) T.z_len (by decide +kernel) (pa_cons (pv 6) pa_nil)))))))))))), ?_⟩
  walk_at "k"
  walk_at "rd"
  rw [List.length_map]
  refine rd_fixed d.length 4 hM rfl rfl (by decide) fun p1 H1 e1 i1 => ?_
  walk_at "rd"
  refine rd_ndlist (by walk_at "at") (at_is0 e1 hI) fun p2 H2 hp2 e2 i2 => ?_
  refine rd_ncat (M := M) (by walk_at "at") (by walk_at "at") i2 (by rw [wf_len]; omega) fun p3 H3 hp3 e3 i3 => ?_
  walk_at "rd"
  rw [List.length_map]
  have hc := content_len d
  replace i3 : Is M H3 (.ref p3) (nats (content d)) := i3
  rw [show wf d.length 4 ++ d = content d from rfl, hc]
  refine ⟨_, _, _, _, rfl, rgC_up (by decide) (by decide) (by omega) (by omega) (by omega) (by omega), ?_⟩
  have en : (if (0 : Int) < ((4 + d.length : Nat) : Int) then (((4 + d.length : Nat) : Int) - 0 - 1) / 54 + 1 else 0).toNat = cnt d := by
    rw [if_pos (by omega)]
    unfold cnt
    omega
  rw [en]
  intro D hD
  have hM3 : Al M H3 := by walk_at "at"
  refine q_lcC (M := M) (fun i => nats (piece d i)) hM3 hD (by omega) (fun _ => rfl) (fun i H' hi sD e R k => ?_) fun H4 e4 i4 => ?_
  · walk_at "rd"
    refine rd_ncut (l := 54 * i) (h := 54 * i + 54) sD ((i3.off hD).mono e.any) (by omega) (by omega) fun p H'' hp e' i' => ?_
    exact k _ _ e' i'
  walk_at "rd"
  have hM4 : Al M H4 := by walk_at "at"
  refine rd_fixed t 6 hM4 rfl rfl (by decide) fun p5 H5 e5 i5 => ?_
  walk_at "rd"
  refine rd_dlen (at_is0 e5 i4) fun _ => ?_
  rw [List.length_map, List.length_range]
  walk_at "rd"
  refine rd_fixed (cnt d) 4 (M := M) (by walk_at "at") rfl rfl (by decide) fun p6 H6 e6 i6 => ?_
  walk_at "rd"
  refine rd_ncat (M := M) (by walk_at "at") (by walk_at "at") i6 (by rw [wf_len, wf_len]; decide) fun p7 H7 hp7 e7 i7 => ?_
  walk_at "rd"
  intro D2 hD2
  have hM7 : Al M H7 := by walk_at "at"
  have i47 : Is M H7 (.ref D) (.list ((List.range (cnt d)).map fun i => nats (piece d i))) := by walk_at "at"
  refine q_lcM (M := M) (g := fun i => nats (piece d i)) (L := List.range (cnt d)) (fun i => nats (padTo (front t (cnt d)) (piece d i))) hM7 hD2 i47 (by rw [List.length_range]; omega) (fun _ => rfl) (fun x i H' hi sD e ix R k => ?_) fun H8 e8 i8 => ?_
  · obtain ⟨px, xs, rfl, _⟩ := ix.listV
    have hpl := piece_len d i
    walk_at "rd"
    refine rd_ncat sD ((i7.off hD2).mono e.any) ix (by rw [List.length_append, wf_len, wf_len]; omega) fun p8 H8 hp8 e8 i8 => ?_
    walk_at "rd"
    refine rd_newL (M := D2 :: M) (by walk_at "at") (by walk_at "all") (by simp) fun p9 H9 hp9 e9 h9 i9 => ?_
    walk_at "rd"
    refine rd_nlen (xs := piece d i) (M := D2 :: M) (by walk_at "at") ?_
    walk_at "rd"
    refine rd_nrep1 (M := D2 :: M) (n := 0) (j := 54 - (piece d i).length) (by walk_at "at") h9 (by omega) (by omega) (by omega) fun p10 H10 hp10 e10 i10 => ?_
    refine rd_ncat (M := D2 :: M) (by walk_at "at") (by walk_at "at") i10 (by rw [List.length_append, List.length_append, wf_len, wf_len, List.length_replicate]; omega) fun p11 H11 hp11 e11 i11 => ?_
    exact k _ _ (by walk_at "at") i11
  · refine q _ _ (by walk_at "at") ?_
    rw [natss, blk, List.map_map]
    exact i8
theorem ok_area_size (T : Txt K mg) : Cal P w K mg base 1 "area_size" sp_as [] := by
  refine T.f_area_size.cal sc_area_size bd_area_size (fun vs H Q E h => ?_) fun f cdv A outer s H vs Q E hr h => ?_
  · obtain ⟨n, rfl, _⟩ := h; rfl
  obtain ⟨n, rfl, q⟩ := h
  refine ⟨_, (pss_one (ps_ret (pe_op op_fdiv (pe_op op_sub (pv 0) pe_int) pe_int))), ?_⟩
  walk_at "k"
  walk_at "rd"
  exact q
theorem ok_area_start (T : Txt K mg) : Cal P w K mg base 2 "area_start" sp_ast [] := by
  refine T.f_area_start.cal sc_area_start bd_area_start (fun vs H Q E h => ?_) fun f cdv A outer s H vs Q E hr h => ?_
  · obtain ⟨n, m, rfl, _⟩ := h; rfl
  obtain ⟨n, m, rfl, hm, q⟩ := h
  refine ⟨_, (pss_one (ps_ret (pe_op op_add pe_int (pe_op op_mul (pv 1) (pe_c (ok_area_size T) hr (by decide) rfl (pa_cons (pv 0) pa_nil)))))), ?_⟩
  walk_at "k"
  walk_at "rd"
  refine ⟨n, rfl, ?_⟩
  walk_at "rd"
  exact q
theorem ok_head (T : Txt K mg) : Cal P w K mg base 2 "head" sp_head [] := by
  refine T.f_head.cal sc_head bd_head (fun vs H Q E h => ?_) fun f cdv A outer s H vs Q E hr h => ?_
  · obtain ⟨M, t, a, rfl, _⟩ := h; rfl
  obtain ⟨M, t, a, rfl, hM, q⟩ := h
  refine ⟨_, (pss_one (ps_ret (pe_op op_cat (pe_op op_cat (pe_op (op_catK K) (pe_gc (v := .ref (He.ga K "MARK")) (by rfl) ⟨_, T.t_MARK.1, rfl⟩) (pe_c (ok_fixed T) hr (by decide) rfl (pa_cons (pv 0) (pa_cons pe_int pa_nil)))) (pe_lst (pa_cons (pv 1) pa_nil))) (pe_op op_rep (pe_lst (pa_cons pe_int pa_nil)) (pe_gc (by rfl) T.g_HEAD_ZEROS))))), ?_⟩
  walk_at "k"
  walk_at "rd"
  refine rd_fixed t 6 hM rfl rfl (by decide) fun p1 H1 e1 i1 => ?_
  refine rd_catK (ms := [82, 85, 76, 69]) (M := M) (by walk_at "at") T.p_MARK i1 (by rw [wf_len]; decide) fun p2 H2 hp2 e2 i2 => ?_
  walk_at "rd"
  refine rd_newL (M := M) (by walk_at "at") (by walk_at "all") (by simp) fun p3 H3 hp3 e3 h3 i3 => ?_
  refine rd_ncat (M := M) (ys := [a]) (by walk_at "at") (by walk_at "at") i3 (by simp [wf_len]) fun p4 H4 hp4 e4 i4 => ?_
  walk_at "rd"
  refine rd_newL (M := M) (by walk_at "at") (by walk_at "all") (by simp) fun p5 H5 hp5 e5 h5 i5 => ?_
  walk_at "rd"
  refine rd_nrep1 (M := M) (n := 0) (j := 53) (by walk_at "at") h5 rfl (by decide) (by decide) fun p6 H6 hp6 e6 i6 => ?_
  refine rd_ncat (M := M) (by walk_at "at") (by walk_at "at") i6 (by simp [wf_len]) fun p7 H7 hp7 e7 i7 => ?_
  exact q _ _ (by walk_at "at") i7
theorem ok_read_head (T : Txt K mg) : Cal P w K mg base 3 "read_head" sp_rh [] := by
  refine T.f_read_head.cal sc_read_head bd_read_head (fun vs H Q E h => ?_) fun f cdv A outer s H vs Q E hr h => ?_
  · obtain ⟨M, a, s, rfl, _⟩ := h; rfl
  obtain ⟨M, a, s, rfl, hI, h10, hl, hM, q⟩ := h
  refine ⟨_, (pss_cons (ps_set (i := 1) sc_read_head.nd rfl (Or.inl rfl) (pe_c (ok_number_of T) hr (by decide) rfl (pa_cons (pe_slice (sl_listK K) (pv 0) (po_some pe_int) (po_some pe_int)) pa_nil)))
      (pss_cons (ps_set (i := 2) sc_read_head.nd rfl (Or.inl rfl) (pe_ix (ix_listK K) (pv 0) pe_int (fun _ _ => rfl)))
      (pss_cons (ps_if (PW.pt (pw_or (pt_cmpR op_lt (pv 1) pe_int (nomark _)) (pw_or (pt_cmpR op_gt (pv 2) pe_int (nomark _)) (pw_or1 (pt_cmpR (op_neDK K hr.units) (pv 0) (pe_c (ok_head T) hr (by decide) rfl (pa_cons (pv 1) (pa_cons (pv 2) pa_nil))) (nomark _)))))) (pss_one (ps_ret pe_non)) pss_nil)
      (pss_one (ps_ret (pe_tup (pa_cons (pv 1) (pa_cons (pv 2) pa_nil)))))))), ?_⟩
  walk_at "k"
  walk_at "rd"
  refine rd_ncut (l := 4) (h := 10) hM hI rfl rfl fun p1 H1 hp1 e1 i1 => ?_
  walk_at "rd"
  refine rd_num i1 ?_
  walk_at "rd"
  refine rd_nix (xs := s) (j := 10) (M := M) (by walk_at "at") rfl h10 ?_
  walk_at "rd"
  refine rd_ite (fun c => ?_) (fun c => ?_)
  · have c' := of_decide_eq_true c
    walk_at "rd"
    refine q _ _ e1 ?_
    have : rh s = none := by unfold rh; rw [if_pos (by omega)]
    rw [rhD, this]
    exact .non
  have c' := of_decide_eq_false c
  walk_at "rd"
  refine rd_ite (fun c2 => ?_) (fun c2 => ?_)
  · have c2' := of_decide_eq_true c2
    walk_at "rd"
    refine q _ _ e1 ?_
    have : rh s = none := by unfold rh; rw [if_neg (by omega), if_pos (by omega)]
    rw [rhD, this]
    exact .non
  have c2' := of_decide_eq_false c2
  walk_at "rd"
  refine ⟨M, _, _, rfl, by walk_at "at", fun p2 H2 e2 i2 => ?_⟩
  refine rd_neD (M := M) (d := nats s) (by walk_at "at") i2 (sh_nats (n := 0) _).ok (sh_nats (n := 0) _).ok ?_
  rw [eqv_nats]
  walk_at "rd"
  refine rd_ite (fun c3 => ?_) (fun c3 => ?_)
  · have c3' := not_t c3
    walk_at "rd"
    refine q _ _ (by walk_at "at") ?_
    have : rh s = none := by unfold rh; rw [if_neg (by omega), if_neg (by omega), if_neg c3']
    rw [rhD, this]
    exact .non
  have c3' := not_f c3
  walk_at "rd"
  refine rd_newT (M := M) (by walk_at "at") (by walk_at "all") (by simp) fun p3 H3 hp3 e3 h3 i3 => ?_
  refine q _ _ (by walk_at "at") ?_
  have : rh s = some (rf ((s.take 10).drop 4), s.getD 10 0) := by unfold rh; rw [if_neg (by omega), if_neg (by omega), if_pos c3']
  rw [rhD, this]
  exact i3
theorem ok_read_block (T : Txt K mg) : Cal P w K mg base 3 "read_block" sp_rb [] := by
  refine T.f_read_block.cal sc_read_block bd_read_block (fun vs H Q E h => ?_) fun f cdv A outer s H vs Q E hr h => ?_
  · obtain ⟨M, a, S, t, rfl, _⟩ := h; rfl
  obtain ⟨M, a, S, t, rfl, hI, hSl, hl, hM, q⟩ := h
  have qn : rb S t = none → ∀ H', Ext [] H H' → Q .non H' := fun e H' e' => q _ _ e' (by rw [rbD, e]; exact .non)
  refine ⟨_, (pss_cons (ps_if (pt_cmpR op_eq (pe_callB (call_lenK K) (by rfl) T.z_len (by decide +kernel) (pa_cons (pv 0) pa_nil)) pe_int (nomark _)) (pss_one (ps_ret pe_non)) pss_nil)
      (pss_cons (ps_set (i := 2) sc_read_block.nd rfl (Or.inl rfl) (pe_c (ok_number_of T) hr (by decide) rfl (pa_cons (pe_slice (sl_listK K) (pe_ix (ix_listK K) (pv 0) pe_int (fun _ _ => rfl)) (po_some pe_int) (po_some pe_int)) pa_nil)))
      (pss_cons (ps_if (pt_not (pt_chain op_le op_le pe_int (pv 2) (pe_callB (call_lenK K) (by rfl) T.z_len (by decide +kernel) (pa_cons (pv 0) pa_nil)))) (pss_one (ps_ret pe_non)) pss_nil)
      (pss_cons (ps_set (i := 3) sc_read_block.nd rfl (Or.inl rfl) (pe_lst pa_nil))
      (pss_cons (ps_for PassesOwn.never rfl (pi_listK K (pe_slice (sl_listK K) (pv 0) po_none (po_some (pv 2)))) (pg_name (i := 4) sc_read_block.nd rfl (Or.inl rfl))
      (pss_cons (ps_if (pt_cmpR op_ne (pe_c (ok_turn_of T) hr (by decide) rfl (pa_cons (pv 4) pa_nil)) (pv 1) (nomark _)) (pss_one (ps_ret pe_non)) pss_nil)
      (pss_one (ps_set (i := 3) sc_read_block.nd rfl (Or.inl rfl) (pe_op op_cat (pv 3) (pe_slice (sl_listK K) (pv 4) (po_some pe_int) po_none))))))
      (pss_cons (ps_set (i := 5) sc_read_block.nd rfl (Or.inl rfl) (pe_c (ok_number_of T) hr (by decide) rfl (pa_cons (pe_slice (sl_listK K) (pv 3) po_none (po_some pe_int)) pa_nil)))
      (pss_cons (ps_if (pt_cmpR op_gt (pv 5) (pe_op op_sub (pe_callB (call_lenK K) (by rfl) T.z_len (by decide +kernel) (pa_cons (pv 3) pa_nil)) pe_int) (nomark _)) (pss_one (ps_ret pe_non)) pss_nil)
      (pss_one (ps_ret (pe_tup (pa_cons (pe_slice (sl_listK K) (pv 3) (po_some pe_int) (po_some (pe_op op_add pe_int (pv 5)))) (pa_cons (pv 2) pa_nil)))))))))))), ?_⟩
  walk_at "k"
  walk_at "rd"
  rw [List.length_map]
  refine rd_ite (fun c => ?_) (fun c => ?_)
  · have c' := of_decide_eq_true c
    walk_at "rd"
    refine qn ?_ _ .refl
    unfold rb
    rw [if_pos (by omega)]
  have c' := of_decide_eq_false c
  walk_at "rd"
  have hS0 : 0 < S.length := by omega
  have e0 : S.getD 0 [] = S[0] := by rw [List.getD_eq_getElem?_getD, List.getElem?_eq_getElem hS0]; rfl
  refine rd_dix (j := 0) (d := nats S[0]) hI rfl (by rw [List.getElem?_map, List.getElem?_eq_getElem hS0]; rfl) fun v iv => ?_
  obtain ⟨b, xb, rfl, _, _, _⟩ := iv.listV
  walk_at "rd"
  refine rd_ncut (l := 6) (h := 10) hM iv rfl rfl fun p1 H1 hp1 e1 i1 => ?_
  walk_at "rd"
  refine rd_num i1 ?_
  have ec : rf (((S[0]).take 10).drop 6) = cOf S := by rw [cOf, e0]
  rw [ec]
  generalize hcc : cOf S = cc
  walk_at "rd"
  have hno : ¬ (1 ≤ cOf S ∧ cOf S ≤ S.length) → rb S t = none := rb_cnt
  rw [hcc] at hno
  refine rd_ite (fun c1 => ?_) (fun c1 => ?_)
  case refine_2 =>
    have c1' := of_decide_eq_false c1
    walk_at "rd"
    exact qn (hno (by omega)) _ e1
  have c1' := of_decide_eq_true c1
  walk_at "rd"
  refine rd_dlen (at_is0 e1 hI) fun _ => ?_
  rw [List.length_map]
  walk_at "rd"
  refine rd_ite (fun c2 => ?_) (fun c2 => ?_)
  · have c2' := not_t c2
    walk_at "rd"
    exact qn (hno (by omega)) _ e1
  have c2' := not_f c2
  have hok : 1 ≤ cOf S ∧ cOf S ≤ S.length := by rw [hcc]; omega
  walk_at "rd"
  refine rd_newL (M := M) (by walk_at "at") (by walk_at "all") (by simp) fun p2 H2 hp2 e2 h2 i2 => ?_
  walk_at "rd"
  have hM2 : Al M H2 := by walk_at "at"
  refine rd_mcut0 (L := S) (g := nats) (h := cc) (M := M) hM2 (by walk_at "at") rfl fun p3 H3 hp3 e3 i3 => ?_
  walk_at "rd"
  have hM3 : Al M H3 := by walk_at "at"
  have e03 : Ext [] H H3 := by walk_at "at"
  have hlT : ∀ i, (ctOf ((S.take cc).take i)).length ≤ 10000 := fun i => by
    have z : ∀ L : List (List Nat), (∀ x ∈ L, x.length ≤ 100) → (ctOf L).length ≤ 100 * L.length := fun L => by
      induction L with
      | nil => intro _; exact Nat.le_refl _
      | cons x L ih =>
        intro hL
        have h1 := ih fun y hy => hL y (List.mem_cons_of_mem _ hy)
        have h2 := hL x (List.mem_cons_self ..)
        rw [show x :: L = [x] ++ L from rfl, ctOf_app, ctOf_one, List.length_append, List.length_drop, List.length_append, List.length_singleton]
        omega
    have := z ((S.take cc).take i) fun x hx => hl x (List.mem_of_mem_take (List.mem_of_mem_take hx))
    rw [List.length_take, List.length_take] at this
    omega
  refine q_dataM (M := M) (H0 := H3) (L := S.take cc) (g := nats) i3 (fun i σ H' => ∃ (x : Option V) (p : Addr), σ = [some (.ref a), some (.int t), some (.int cc), some (.ref p), x, none] ∧ Ext [] H3 H' ∧ Is M H' (.ref p) (nats (ctOf ((S.take cc).take i))) ∧ ∀ s ∈ (S.take cc).take i, rf (s.take 6) = t) ⟨none, p2, rfl, .refl, i2.mono e3.any, fun s h => nomatch h⟩ (fun i σ H' ⟨_, _, _, e, _⟩ => e.any) ?_ ?_
  · rintro i s x σ H' hi hd ⟨y, p, rfl, e, ip, hall⟩
    obtain ⟨ps, xs, rfl, _⟩ := hd.listV
    have hM' : Al M H' := by walk_at "at"
    walk_at "rd"
    refine ⟨M, ps, s, rfl, hd, hM', fun H4 e4 => ?_⟩
    walk_at "rd"
    have hsm : s ∈ S.take cc := List.mem_of_getElem? hi
    refine rd_ite (fun c3 => ?_) (fun c3 => ?_)
    · have c3' := not_t c3
      walk_at "rd"
      refine qn (rb_turn ⟨s, by rw [hcc]; exact hsm, fun z => c3' (by rw [z])⟩) _ (by walk_at "at")
    have c3' := not_f c3
    walk_at "rd"
    refine rd_ncutN (M := M) (l := 10) (by walk_at "at") (by walk_at "at") rfl fun p5 H5 hp5 e5 i5 => ?_
    have hs100 := hl s (List.mem_of_mem_take hsm)
    have ht := hlT i
    refine rd_ncat (M := M) (by walk_at "at") (by walk_at "at") i5 (by rw [List.length_drop]; omega) fun p6 H6 hp6 e6 i6 => ?_
    walk_at "rd"
    rw [take_snoc hi, ctOf_app, ctOf_one]
    refine ⟨_, p6, rfl, by walk_at "at", i6, fun z hz => ?_⟩
    rcases List.mem_append.mp hz with hz | hz
    · exact hall z hz
    · rw [List.mem_singleton] at hz
      subst hz
      omega
  · rintro σ H' ⟨y, p, rfl, e, ip, hall⟩
    rw [List.take_length] at ip hall
    have hlt := hlT cc
    rw [List.take_take, Nat.min_self] at hlt
    have hM' : Al M H' := by walk_at "at"
    walk_at "rd"
    refine rd_ncut0 (h := 4) hM' ip rfl fun p4 H4 hp4 e4 i4 => ?_
    walk_at "rd"
    refine rd_num i4 ?_
    walk_at "rd"
    refine rd_nlen (xs := ctOf (S.take cc)) (M := M) (by walk_at "at") ?_
    walk_at "rd"
    have hrb : rb S t = if (ctOf (S.take cc)).length < 4 + rf ((ctOf (S.take cc)).take 4) then none else some (((ctOf (S.take cc)).take (4 + rf ((ctOf (S.take cc)).take 4))).drop 4, cc) := by
      unfold rb
      rw [if_neg (by omega), if_neg (fun z => z hok), hcc, if_pos hall]
    refine rd_ite (fun c4 => ?_) (fun c4 => ?_)
    · have c4' := of_decide_eq_true c4
      walk_at "rd"
      refine qn ?_ _ (by walk_at "at")
      rw [hrb, if_pos (by omega)]
    have c4' := of_decide_eq_false c4
    walk_at "rd"
    refine rd_ncut (M := M) (xs := ctOf (S.take cc)) (l := 4) (h := 4 + rf ((ctOf (S.take cc)).take 4)) (by walk_at "at") (by walk_at "at") rfl rfl fun p5 H5 hp5 e5 i5 => ?_
    walk_at "rd"
    refine rd_newT (M := M) (by walk_at "at") (by walk_at "all") (by simp) fun p6 H6 hp6 e6 h6 i6 => ?_
    refine q _ _ (by walk_at "at") ?_
    rw [rbD, hrb, if_neg (by omega)]
    exact i6
end
/-! the law's functions without a state -/
def sp_put : Sp := fun vs H Q _ => ∃ (M : List Addr) (a b : Addr) (s d : List Nat) (p : Nat), vs = [.ref a, .int p, .ref b] ∧ Is M H (.ref a) (nats s) ∧ Is M H (.ref b) (nats d) ∧ s.length ≤ 1000 ∧ d.length ≤ 1000 ∧ Al M H ∧ ∀ p' H', Ext [] H H' → Is M H' (.ref p') (nats (put s p d)) → Q (.ref p') H'
theorem rd_put {M : List Addr} {H : Hp} {Q : VK} {E : XK} {a b : Addr} {s d : List Nat} {x : Int} (p : Nat) (hM : Al M H) (hx : x = (p : Int)) (i : Is M H (.ref a) (nats s)) (j : Is M H (.ref b) (nats d)) (h1 : s.length ≤ 1000) (h2 : d.length ≤ 1000) (q : ∀ p' H', Ext [] H H' → Is M H' (.ref p') (nats (put s p d)) → Q (.ref p') H') : sp_put ([.ref a, .int x, .ref b] ++ []) H Q E := by
  subst hx
  exact ⟨M, a, b, s, d, p, rfl, i, j, h1, h2, hM, q⟩
def sp_lwb : Sp := fun vs H Q _ => ∃ (M : List Addr) (a : Addr) (t : Nat) (d : List Nat), vs = [.int t, .ref a] ∧ Is M H (.ref a) (nats d) ∧ d.length ≤ 401 ∧ Al M H ∧ ∀ p H', Ext [] H H' → Is M H' (.ref p) (natss (blk t d)) → Q (.ref p) H'
section
variable {P : Program} {w : World} {K : PySem.W.Frag} {mg : Str → Option Value} {base : Heap}
theorem ok_law_fixed (T : Txt K mg) : Cal P w K mg base 1 "_law_fixed" sp_fixed [] := by
  refine T.f_law_fixed.cal sc_law_fixed bd_law_fixed (fun vs H Q E h => ?_) fun f cdv A outer s H vs Q E hr h => ?_
  · obtain ⟨n, c, rfl, _⟩ := h; rfl
  obtain ⟨n, c, rfl, hc, q⟩ := h
  refine ⟨_, (pss_cons (ps_set (i := 2) sc_law_fixed.nd rfl (Or.inl rfl) (pe_lst pa_nil))
      (pss_cons (ps_for PassesOwn.never rfl (pi_range1 rfl T.z_range (pa_cons (pv 1) pa_nil)) (pg_name (i := 3) sc_law_fixed.nd rfl (Or.inl rfl))
      (pss_cons (ps_set (i := 2) sc_law_fixed.nd rfl (Or.inl rfl) (pe_op op_cat (pe_lst (pa_cons (pe_op op_mod (pe_callTy call_int1q (by rfl) T.z_int (by decide +kernel) (pa_cons (pv 0) pa_nil)) pe_int) pa_nil)) (pv 2)))
      (pss_one (ps_set (i := 0) sc_law_fixed.nd rfl (Or.inl rfl) (pe_op op_fdiv (pv 0) pe_int)))))
      (pss_one (ps_ret (pv 2))))), ?_⟩
  walk_at "k"
  walk_at "rd"
  refine ⟨szl (by simp), fun p hp => ?_⟩
  walk_at "rd"
  refine q_range (fun i σ H' => ∃ (x : Option V) (p : Addr), σ = [some (.int ((n / 256 ^ i : Nat) : Int)), some (.int c), some (.ref p), x] ∧ Ext [] H H' ∧ New H H' (.ref p) (nats (wf n i))) ⟨none, p, by rw [Nat.pow_zero, Nat.div_one] <;> rfl, .new hp, fun M hM => new_lst hM .nil hp⟩ ?_ ?_
  · rintro i σ H' hi ⟨x, p, rfl, e, hx⟩
    walk_at "rd"
    refine ⟨szl (by simp), fun p1 hp1 => ?_⟩
    obtain ⟨a0, ws, ea, _, hw, rw0⟩ := (hx [] .nil).listV
    cases ea
    have hlen := rw0.length
    rw [List.length_map, wf_len] at hlen
    walk_at "rd"
    refine rd_cat (xs := [.int ((n / 256 ^ i : Nat) % 256 : Int)]) upd_same (by rw [upd_ne (ne_of_none hw hp1)]; exact hw) (szl (by rw [hlen]; simp; omega)) fun p2 hp2 => ?_
    walk_at "rd"
    have e1 : ((n / 256 ^ i : Nat) : Int) / 256 = ((n / 256 ^ (i + 1) : Nat) : Int) := by rw [Nat.pow_succ, ← Nat.div_div_eq_div_mul]; rfl
    rw [e1]
    refine ⟨_, p2, rfl, (e.trans (.new hp1)).trans (.new hp2), fun M hM => ?_⟩
    have i0 : Is M H' (.ref p) (nats (wf n i)) := hx M hM
    have i1 : Is M (upd H' p1 (.lst [.int ((n / 256 ^ i : Nat) % 256 : Int)])) (.ref p) (nats (wf n i)) := i0.mono (.new hp1)
    obtain ⟨ws', _, hw', r'⟩ := i1.list
    rw [upd_ne (ne_of_none hw hp1), hw] at hw'
    cases hw'
    have hM2 : Al M (upd H' p1 (.lst [.int ((n / 256 ^ i : Nat) % 256 : Int)])) := by walk_at "at"
    refine new_lst hM2 ?_ hp2
    rw [wf_cons, List.map_append]
    exact IsAll.append (.one (.int _)) r'
  · rintro σ H' ⟨x, p, rfl, e, hx⟩
    walk_at "rd"
    exact q _ _ e hx
theorem ok_law_put (T : Txt K mg) : Cal P w K mg base 1 "_law_put" sp_put [] := by
  refine T.f_law_put.cal sc_law_put bd_law_put (fun vs H Q E h => ?_) fun f cdv A outer s H vs Q E hr h => ?_
  · obtain ⟨M, a, b, s, d, p, rfl, _⟩ := h; rfl
  obtain ⟨M, a, b, s, d, p, rfl, i, j, h1, h2, hM, q⟩ := h
  refine ⟨_, (pss_one (ps_ret (pe_op op_cat (pe_op op_cat (pe_slice (sl_listK K) (pv 0) po_none (po_some (pv 1))) (pv 2)) (pe_slice (sl_listK K) (pv 0) (po_some (pe_op op_add (pv 1) (pe_callB (call_lenK K) (by rfl) T.z_len (by decide +kernel) (pa_cons (pv 2) pa_nil)))) po_none)))), ?_⟩
  walk_at "k"
  walk_at "rd"
  refine rd_ncut0 hM i rfl fun p1 H1 hp1 e1 i1 => ?_
  walk_at "rd"
  refine rd_ncat (M := M) (by walk_at "at") i1 (at_is0 e1 j) (by rw [List.length_take]; omega) fun p2 H2 hp2 e2 i2 => ?_
  walk_at "rd"
  refine rd_nlen (xs := d) (M := M) (by walk_at "at") ?_
  walk_at "rd"
  refine rd_ncutN (M := M) (xs := s) (l := p + d.length) (by walk_at "at") (by walk_at "at") rfl fun p3 H3 hp3 e3 i3 => ?_
  walk_at "rd"
  refine rd_ncat (M := M) (by walk_at "at") (at_is0 e3 i2) i3 (by rw [List.length_append, List.length_take, List.length_drop]; omega) fun p4 H4 hp4 e4 i4 => ?_
  exact q _ _ (by walk_at "at") i4
theorem ok_law_block (T : Txt K mg) : Cal P w K mg base 2 "_law_block" sp_lwb [] := by
  refine T.f_law_block.cal sc_law_block bd_law_block (fun vs H Q E h => ?_) fun f cdv A outer s H vs Q E hr h => ?_
  · obtain ⟨M, a, t, d, rfl, _⟩ := h; rfl
  obtain ⟨M, a, t, d, rfl, hI, hl, hM, q⟩ := h
  have hcl := cnt_lt hl
  refine ⟨_, (pss_cons (ps_set (i := 2) sc_law_block.nd rfl (Or.inl rfl) (pe_op op_cat (pe_c (ok_law_fixed T) hr (by decide) rfl (pa_cons (pe_callB (call_lenK K) (by rfl) T.z_len (by decide +kernel) (pa_cons (pv 1) pa_nil)) (pa_cons pe_int pa_nil))) (pv 1)))
      (pss_cons (ps_set (i := 3) sc_law_block.nd rfl (Or.inl rfl) (pe_op op_fdiv (pe_op op_add (pe_callB (call_lenK K) (by rfl) T.z_len (by decide +kernel) (pa_cons (pv 2) pa_nil)) pe_int) pe_int))
      (pss_cons (ps_set (i := 4) sc_law_block.nd rfl (Or.inl rfl) (pe_lst pa_nil))
      (pss_cons (ps_for PassesOwn.never rfl (pi_range1 rfl T.z_range (pa_cons (pv 3) pa_nil)) (pg_name (i := 5) sc_law_block.nd rfl (Or.inl rfl))
      (pss_cons (ps_set (i := 6) sc_law_block.nd rfl (Or.inl rfl) (pe_slice (sl_listK K) (pv 2) (po_some (pe_op op_mul pe_int (pv 5))) (po_some (pe_op op_add (pe_op op_mul pe_int (pv 5)) pe_int))))
      (pss_one (ps_expr (pe_bm PySem.F.plainAttrs_list PySem.F.slot_list_append PySem.F.type_list_append mt_append (pv 4) (pa_cons (pe_op op_cat (pe_op op_cat (pe_op op_cat (pe_c (ok_law_fixed T) hr (by decide) rfl (pa_cons (pv 0) (pa_cons pe_int pa_nil))) (pe_c (ok_law_fixed T) hr (by decide) rfl (pa_cons (pv 3) (pa_cons pe_int pa_nil)))) (pv 6)) (pe_op op_rep (pe_lst (pa_cons pe_int pa_nil)) (pe_op op_sub pe_int (pe_callB (call_lenK K) (by rfl) T.z_len (by decide +kernel) (pa_cons (pv 6) pa_nil))))) pa_nil))))))
      (pss_one (ps_ret (pv 4))))))), ?_⟩
  walk_at "k"
  walk_at "rd"
  rw [List.length_map]
  refine rd_fixed d.length 4 hM rfl rfl (by decide) fun p1 H1 e1 i1 => ?_
  walk_at "rd"
  refine rd_ncat (M := M) (by walk_at "at") i1 (at_is0 e1 hI) (by rw [wf_len]; omega) fun p3 H3 hp3 e3 i3 => ?_
  replace i3 : Is M H3 (.ref p3) (nats (content d)) := i3
  walk_at "rd"
  rw [List.length_map, content_len]
  have ec : (((4 + d.length : Nat) : Int) + 53) / 54 = (cnt d : Int) := by unfold cnt; omega
  rw [ec]
  refine ⟨szl (by simp), fun D hD => ?_⟩
  walk_at "rd"
  have hM3 : Al M H3 := by walk_at "at"
  have e03 : Ext [] H H3 := by walk_at "at"
  refine q_range (fun i σ H' => ∃ (x y : Option V), σ = [some (.int t), some (.ref a), some (.ref p3), some (.int (cnt d)), some (.ref D), x, y] ∧ MadeN [] M H3 D (((List.range i).map fun i => padTo (front t (cnt d)) (piece d i)).map nats) H') ⟨none, none, rfl, MadeN.start (fun b h => nomatch h) hM3 hD⟩ ?_ ?_
  · rintro i σ H' hi ⟨x, y, rfl, m⟩
    have sD := m.al hM3
    have j3 := m.ofs i3
    have hi' : i < cnt d := by omega
    have hpl := piece_len d i
    walk_at "rd"
    refine rd_ncut (M := D :: M) (xs := content d) (l := 54 * i) (h := 54 * i + 54) sD j3 (by omega) (by omega) fun p4 H4 hp4 e4 i4 => ?_
    replace i4 : Is (D :: M) H4 (.ref p4) (nats (piece d i)) := i4
    walk_at "rd"
    obtain ⟨ys, hys⟩ := (m.go e4).lst
    refine rd_app hys ?_
    walk_at "rd"
    refine rd_fixed (M := D :: M) t 6 (by walk_at "at") rfl rfl (by decide) fun p5 H5 e5 i5 => ?_
    walk_at "rd"
    refine rd_fixed (M := D :: M) (cnt d) 4 (by walk_at "at") rfl rfl (by decide) fun p6 H6 e6 i6 => ?_
    walk_at "rd"
    refine rd_ncat (M := D :: M) (by walk_at "at") (at_is0 e6 i5) i6 (by rw [wf_len, wf_len]; decide) fun p7 H7 hp7 e7 i7 => ?_
    replace i7 : Is (D :: M) H7 (.ref p7) (nats (front t (cnt d))) := i7
    walk_at "rd"
    refine rd_ncat (M := D :: M) (ys := piece d i) (by walk_at "at") i7 (by walk_at "at") (by rw [front_len]; omega) fun p8 H8 hp8 e8 i8 => ?_
    walk_at "rd"
    refine rd_newL (M := D :: M) (by walk_at "at") (by walk_at "all") (by simp) fun p9 H9 hp9 e9 h9 i9 => ?_
    walk_at "rd"
    refine rd_nlen (xs := piece d i) (M := D :: M) (by walk_at "at") ?_
    walk_at "rd"
    refine rd_nrep1 (M := D :: M) (n := 0) (j := 54 - (piece d i).length) (by walk_at "at") h9 (by omega) (by omega) (by omega) fun p10 H10 hp10 e10 i10 => ?_
    walk_at "rd"
    refine rd_ncat (M := D :: M) (by walk_at "at") (by walk_at "at") i10 (by rw [List.length_append, front_len, List.length_replicate]; omega) fun p11 H11 hp11 e11 i11 => ?_
    refine rd_appE m (by walk_at "at") i11 (by rw [List.length_map, List.length_map, List.length_range]; omega) fun acc m' => ?_
    walk_at "rd"
    refine ⟨_, _, rfl, ?_⟩
    rw [List.range_succ, List.map_append, List.map_append]
    exact m'
  · rintro σ H' ⟨x, y, rfl, m⟩
    walk_at "rd"
    exact q _ _ (e03.trans m.ext) m.is
end
/-! the law's functions with the state -/
def sp_sturn : Sp := fun vs H Q _ => ∃ p l : Addr, vs = [.ref p] ∧ StAt H p l ∧ ∀ (t : Nat) H', 1 ≤ t → t < 2 ^ 48 → StAt H' p l → Ext [p] H H' → Q (.int t) H'
def sp_sbytes : Sp := fun vs H Q _ => ∃ p l : Addr, vs = [.ref p] ∧ StAt H p l ∧ ∀ (r : Addr) (d : List Nat) H', d.length ≤ 401 → StAt H' p l → Ext [p] H H' → Is [p] H' (.ref r) (nats d) → Q (.ref r) H'
def sp_sask : Sp := fun vs H Q _ => ∃ p l : Addr, vs = [.ref p] ∧ StAt H p l ∧ ∀ H', StAt H' p l → Ext [p] H H' → Q (.bl true) H'
def sp_places : Sp := fun vs H Q _ => ∃ n : Nat, vs = [.int n] ∧ n < 1000 ∧ ∀ H', Ext [] H H' → Q (.bl true) H'
theorem Ext.keepP {H H' : Hp} {p q : Addr} {o : HO} (e : Ext [p] H H') (hq : q ≠ p) (h : H q = some o) : H' q = some o := e.keep q o (by simpa using hq) h
section
variable {P : Program} {w : World} {K : PySem.W.Frag} {mg : Str → Option Value} {base : Heap}
theorem ok_law_turn (T : Txt K mg) : Cal P w K mg base 2 "_law_turn" sp_sturn [] := by
  refine T.f_law_turn.cal sc_law_turn bd_law_turn (fun vs H Q E h => ?_) fun f cdv A outer s H vs Q E hr h => ?_
  · obtain ⟨p, l, rfl, _⟩ := h; rfl
  obtain ⟨p, l, rfl, hs, q⟩ := h
  refine ⟨_, (pss_one (ps_ret (pe_ix (ix_listK K) (pe_lst (pa_cons pe_int (pa_cons pe_int (pa_cons pe_int (pa_cons pe_int (pa_cons (pe_op op_add pe_int (pe_c (ok_law_next T) hr (by decide) rfl (pa_cons (pv 0) (pa_cons (pe_op op_pow pe_int pe_int) pa_nil)))) pa_nil)))))) (pe_c (ok_law_next T) hr (by decide) rfl (pa_cons (pv 0) (pa_cons pe_int pa_nil))) (fun _ _ => rfl)))), ?_⟩
  walk_at "k"
  walk_at "rd"
  refine rd_next hs (by decide) (by decide) fun v H1 hv s1 e1 => ?_
  walk_at "rd"
  refine ⟨szl (by simp), fun r hr' => ?_⟩
  walk_at "rd"
  have hv2 : (v : Int) < 2 ^ 47 := hv
  have hv' : v < 2 ^ 47 := by omega
  have s2 : StAt (upd H1 r (.lst [.int 1, .int 2, .int 255, .int 256, .int (1 + v)])) p l := s1.ext0 (.new hr')
  refine rd_next s2 (by decide) (by decide) fun k H2 hk s3 e2 => ?_
  refine rd_pick (P := fun n => ∃ m : Nat, n = m ∧ 1 ≤ m ∧ m < 2 ^ 48) (ns := [1, 2, 255, 256, 1 + (v : Int)]) (v := k) (e2.keepP (s1.ne_new hr') upd_same) (by simp; omega) (fun n hn => ?_) ?_
  · simp only [List.mem_cons, List.not_mem_nil, or_false] at hn
    rcases hn with rfl | rfl | rfl | rfl | rfl
    · exact ⟨1, rfl, by decide, by decide⟩
    · exact ⟨2, rfl, by decide, by decide⟩
    · exact ⟨255, rfl, by decide, by decide⟩
    · exact ⟨256, rfl, by decide, by decide⟩
    · exact ⟨1 + v, rfl, by omega, by omega⟩
  · rintro n ⟨m, rfl, h1, h2⟩
    exact q m H2 h1 h2 s3 ((e1.trans (.new hr')).trans e2)
theorem ok_law_bytes (T : Txt K mg) : Cal P w K mg base 2 "_law_bytes" sp_sbytes [] := by
  refine T.f_law_bytes.cal sc_law_bytes bd_law_bytes (fun vs H Q E h => ?_) fun f cdv A outer s H vs Q E hr h => ?_
  · obtain ⟨p, l, rfl, _⟩ := h; rfl
  obtain ⟨p, l, rfl, hs, q⟩ := h
  refine ⟨_, (pss_cons (ps_set (i := 1) sc_law_bytes.nd rfl (Or.inl rfl) (pe_ix (ix_listK K) (pe_lst (pa_cons pe_int (pa_cons pe_int (pa_cons (pe_op op_add pe_int (pe_c (ok_law_next T) hr (by decide) rfl (pa_cons (pv 0) (pa_cons pe_int pa_nil)))) (pa_cons (pe_op op_add pe_int (pe_c (ok_law_next T) hr (by decide) rfl (pa_cons (pv 0) (pa_cons pe_int pa_nil)))) (pa_cons (pe_c (ok_law_next T) hr (by decide) rfl (pa_cons (pv 0) (pa_cons pe_int pa_nil))) pa_nil)))))) (pe_c (ok_law_next T) hr (by decide) rfl (pa_cons (pv 0) (pa_cons pe_int pa_nil))) (fun _ _ => rfl)))
      (pss_cons (ps_set (i := 2) sc_law_bytes.nd rfl (Or.inr rfl) (pe_c (ok_law_next T) hr (by decide) rfl (pa_cons (pv 0) (pa_cons pe_int pa_nil))))
      (pss_one (ps_ret (pe_lc (own := [("k", 3)]) (g := gName 3) (tt := tYes) rfl sc_law_bytes.nd (pi_range1 rfl T.z_range (pa_cons (pv 1) pa_nil)) (blkOk_by (own := [("k", 3)]) (N := nm_law_bytes) (sc := defScope s_law_bytes) (by decide +kernel)) (fun _ _ _ _ _ => (pg_name (i := 3) sc_law_bytes.nd rfl (Or.inl rfl))) (fun _ _ _ _ _ => pts_nil) (fun _ _ _ _ _ => (pe_op op_mod (pe_op op_add (pe_op op_add (pv 2) (pe_op op_mul pe_int (pv 3))) (pe_op op_mul (pv 3) (pv 3))) pe_int))))))), ?_⟩
  walk_at "k"
  walk_at "rd"
  refine rd_next hs (by decide) (by decide) fun v1 H1 hv1 s1 e1 => ?_
  walk_at "rd"
  refine rd_next s1 (by decide) (by decide) fun v2 H2 hv2 s2 e2 => ?_
  walk_at "rd"
  refine rd_next s2 (by decide) (by decide) fun v3 H3 hv3 s3 e3 => ?_
  walk_at "rd"
  refine ⟨szl (by simp), fun r hr' => ?_⟩
  walk_at "rd"
  have s4 : StAt (upd H3 r (.lst [.int 0, .int 1, .int (49 + v1), .int (103 + v2), .int v3])) p l := s3.ext0 (.new hr')
  refine rd_next s4 (by decide) (by decide) fun k H5 hk s5 e5 => ?_
  refine rd_pick (P := fun n => ∃ m : Nat, n = m ∧ m ≤ 401) (ns := [0, 1, 49 + (v1 : Int), 103 + (v2 : Int), (v3 : Int)]) (v := k) (e5.keepP (s3.ne_new hr') upd_same) (by simp; omega) (fun n hn => ?_) ?_
  · simp only [List.mem_cons, List.not_mem_nil, or_false] at hn
    rcases hn with rfl | rfl | rfl | rfl | rfl
    · exact ⟨0, rfl, by decide⟩
    · exact ⟨1, rfl, by decide⟩
    · exact ⟨49 + v1, rfl, by omega⟩
    · exact ⟨103 + v2, rfl, by omega⟩
    · exact ⟨v3, rfl, by omega⟩
  · rintro n ⟨m, rfl, hm⟩
    walk_at "rd"
    refine rd_next s5 (by decide) (by decide) fun v6 H6 hv6 s6 e6 => ?_
    walk_at "rd"
    intro D hD
    have ex : Ext [p] H H6 := ((((e1.trans e2).trans e3).trans (.new hr')).trans e5).trans e6
    refine q_lcR (M := [p]) (fun i => .int (((v6 + 31 * i + i * i) % 256 : Nat) : Int)) s6.als hD (by omega) (fun _ => rfl) (fun i H' hi _ e R k => ?_) fun H7 e7 i7 => ?_
    · have hi' : i < 401 := by omega
      walk_at "rd"
      have e0 : ((v6 : Int) + 31 * (0 + (i : Int)) + (0 + (i : Int)) * (0 + (i : Int))) % 256 = (((v6 + 31 * i + i * i) % 256 : Nat) : Int) := by rw [Int.zero_add]; rfl
      rw [e0]
      exact k _ _ .refl (.int _)
    · refine q D ((List.range m).map fun i => (v6 + 31 * i + i * i) % 256) H7 (by rw [List.length_map, List.length_range]; omega) (s6.ext0 e7) (ex.trans e7.any) ?_
      rw [nats, List.map_map]
      exact i7
theorem ok_law_asks_places (T : Txt K mg) : Cal P w K mg base 4 "_law_asks_places" sp_places [] := by
  refine T.f_law_asks_places.cal sc_law_asks_places bd_law_asks_places (fun vs H Q E h => ?_) fun f cdv A outer s H vs Q E hr h => ?_
  · obtain ⟨n, rfl, _⟩ := h; rfl
  obtain ⟨n, rfl, hn, q⟩ := h
  refine ⟨_, (pss_cons (ps_set (i := 1) sc_law_asks_places.nd rfl (Or.inl rfl) (pe_op op_fdiv (pe_op op_sub (pv 0) pe_int) pe_int))
      (pss_one (ps_ret (pe_c (ok_law_same T 2) hr (by decide) rfl (pa_cons (pe_lst (pa_cons (pe_c (ok_area_size T) hr (by decide) rfl (pa_cons (pv 0) pa_nil)) (pa_cons (pe_c (ok_area_start T) hr (by decide) rfl (pa_cons (pv 0) (pa_cons pe_int pa_nil))) (pa_cons (pe_c (ok_area_start T) hr (by decide) rfl (pa_cons (pv 0) (pa_cons pe_int pa_nil))) pa_nil)))) (pa_cons (pe_lst (pa_cons (pv 1) (pa_cons pe_int (pa_cons (pe_op op_add pe_int (pv 1)) pa_nil)))) pa_nil)))))), ?_⟩
  walk_at "k"
  walk_at "rd"
  refine ⟨_, rfl, ?_⟩
  walk_at "rd"
  refine ⟨_, _, rfl, ⟨by decide, by decide⟩, ?_⟩
  walk_at "rd"
  refine ⟨_, _, rfl, ⟨by decide, by decide⟩, ?_⟩
  walk_at "rd"
  refine rd_newL (M := []) (by walk_at "at") (by walk_at "all") (by simp) fun p1 H1 hp1 e1 h1 i1 => ?_
  walk_at "rd"
  refine rd_newL (M := []) (by walk_at "at") (by walk_at "all") (by simp) fun p2 H2 hp2 e2 h2 i2 => ?_
  walk_at "rd"
  refine rd_same (n := 2) (M := []) (at_is0 e2 i1) (M' := []) ?_ ?_ ?_
  · have e : ([.int (((n : Int) - 2) / 2), .int 2, .int (2 + ((n : Int) - 2) / 2)] : List PyData) = [.int (((n : Int) - 2) / 2), .int (2 + 0 * (((n : Int) - 2) / 2)), .int (2 + 1 * (((n : Int) - 2) / 2))] := by rw [Int.zero_mul, Int.one_mul]; rfl
    rw [← e]
    exact i2
  · refine Sh.list fun d hd => ?_
    simp only [List.mem_cons, List.not_mem_nil, or_false] at hd
    rcases hd with rfl | rfl | rfl <;> exact .int _
  · exact q _ (by walk_at "at")
end
section
variable {P : Program} {w : World} {K : PySem.W.Frag} {mg : Str → Option Value} {base : Heap}
theorem ok_law_asks_head (T : Txt K mg) : Cal P w K mg base 4 "_law_asks_head" sp_sask [] := by
  refine T.f_law_asks_head.cal sc_law_asks_head bd_law_asks_head (fun vs H Q E h => ?_) fun f cdv A outer s H vs Q E hr h => ?_
  · obtain ⟨p, l, rfl, _⟩ := h; rfl
  obtain ⟨p, l, rfl, hs, q⟩ := h
  refine ⟨_, (pss_cons (ps_set (i := 1) sc_law_asks_head.nd rfl (Or.inl rfl) (pe_c (ok_law_turn T) hr (by decide) rfl (pa_cons (pv 0) pa_nil)))
      (pss_cons (ps_set (i := 2) sc_law_asks_head.nd rfl (Or.inl rfl) (pe_c (ok_law_next T) hr (by decide) rfl (pa_cons (pv 0) (pa_cons pe_int pa_nil))))
      (pss_cons (ps_set (i := 3) sc_law_asks_head.nd rfl (Or.inl rfl) (pe_op op_cat (pe_op op_cat (pe_op op_cat (pe_lst (pa_cons pe_int (pa_cons pe_int (pa_cons pe_int (pa_cons pe_int pa_nil))))) (pe_c (ok_law_fixed T) hr (by decide) rfl (pa_cons (pv 1) (pa_cons pe_int pa_nil)))) (pe_lst (pa_cons (pv 2) pa_nil))) (pe_op op_rep (pe_lst (pa_cons pe_int pa_nil)) pe_int)))
      (pss_cons (ps_if (PW.pt (pw_or (pt_not (pt_val (pe_c (ok_law_same T 2) hr (by decide) rfl (pa_cons (pe_c (ok_head T) hr (by decide) rfl (pa_cons (pv 1) (pa_cons (pv 2) pa_nil))) (pa_cons (pv 3) pa_nil))))) (pw_or1 (pt_not (pt_val (pe_c (ok_law_same T 2) hr (by decide) rfl (pa_cons (pe_c (ok_read_head T) hr (by decide) rfl (pa_cons (pe_callTy (call_listK K) (by rfl) T.z_list (by decide +kernel) (pa_cons (pv 3) pa_nil)) pa_nil)) (pa_cons (pe_tup (pa_cons (pv 1) (pa_cons (pv 2) pa_nil))) pa_nil)))))))) (pss_one (ps_ret pe_bl)) pss_nil)
      (pss_cons (ps_set (i := 4) sc_law_asks_head.nd rfl (Or.inl rfl) (pe_ix (ix_listK K) (pe_lst (pa_cons (pe_c (ok_law_next T) hr (by decide) rfl (pa_cons (pv 0) (pa_cons pe_int pa_nil))) (pa_cons (pe_op op_add pe_int (pe_c (ok_law_next T) hr (by decide) rfl (pa_cons (pv 0) (pa_cons pe_int pa_nil)))) pa_nil))) (pe_c (ok_law_next T) hr (by decide) rfl (pa_cons (pv 0) (pa_cons pe_int pa_nil))) (fun _ _ => rfl)))
      (pss_cons (ps_set (i := 5) sc_law_asks_head.nd rfl (Or.inl rfl) (pe_lst (pa_cons (pe_c (ok_law_put T) hr (by decide) rfl (pa_cons (pv 3) (pa_cons (pv 4) (pa_cons (pe_lst (pa_cons (pe_op op_mod (pe_op op_add (pe_op op_add (pe_ix (ix_listK K) (pv 3) (pv 4) (fun _ _ => rfl)) pe_int) (pe_c (ok_law_next T) hr (by decide) rfl (pa_cons (pv 0) (pa_cons pe_int pa_nil)))) pe_int) pa_nil)) pa_nil)))) (pa_cons (pe_op op_rep (pe_lst (pa_cons pe_int pa_nil)) pe_int) pa_nil))))
      (pss_cons (ps_set (i := 5) sc_law_asks_head.nd rfl (Or.inl rfl) (pe_op op_cat (pv 5) (pe_lst (pa_cons (pe_c (ok_law_put T) hr (by decide) rfl (pa_cons (pv 3) (pa_cons pe_int (pa_cons (pe_lst (pa_cons (pe_op op_add pe_int (pe_c (ok_law_next T) hr (by decide) rfl (pa_cons (pv 0) (pa_cons pe_int pa_nil)))) pa_nil)) pa_nil)))) (pa_cons (pe_c (ok_law_put T) hr (by decide) rfl (pa_cons (pv 3) (pa_cons pe_int (pa_cons (pe_op op_rep (pe_lst (pa_cons pe_int pa_nil)) pe_int) pa_nil)))) pa_nil)))))
      (pss_one (ps_ret (pe_cmpR (op_eqDK K hr.units) (pe_lc (own := [("each", 6)]) (g := gName 6) (tt := tYes) rfl sc_law_asks_head.nd (pi_listK K (pv 5)) (blkOk_by (own := [("each", 6)]) (N := nm_law_asks_head) (sc := defScope s_law_asks_head) (by decide +kernel)) (fun _ _ _ _ _ => (pg_name (i := 6) sc_law_asks_head.nd rfl (Or.inl rfl))) (fun _ _ _ _ _ => pts_nil) (fun _ _ _ _ _ => (pe_c (ok_read_head T) hr (by decide) rfl (pa_cons (pv 6) pa_nil)))) (pe_lst (pa_cons pe_non (pa_cons pe_non (pa_cons pe_non (pa_cons pe_non pa_nil))))) (nomark _))))))))))), ?_⟩
  walk_at "k"
  walk_at "rd"
  refine ⟨p, l, rfl, hs, fun t H1 ht0 ht s1 e1 => ?_⟩
  walk_at "rd"
  refine rd_next s1 (by decide) (by decide) fun a H2 ha s2 e2 => ?_
  walk_at "rd"
  have ha' : a < 2 := by omega
  have hM2 := s2.als
  refine rd_newL (M := [p]) hM2 (by walk_at "all") (by simp) fun p1 H3 hp1 e3 h3 i3 => ?_
  walk_at "rd"
  refine rd_fixed (M := [p]) t 6 (by walk_at "at") rfl rfl (by decide) fun p2 H4 e4 i4 => ?_
  walk_at "rd"
  refine rd_ncat (M := [p]) (xs := [82, 85, 76, 69]) (by walk_at "at") (at_is0 e4 i3) i4 (by simp [wf_len]) fun p3 H5 hp3 e5 i5 => ?_
  walk_at "rd"
  refine rd_newL (M := [p]) (by walk_at "at") (by walk_at "all") (by simp) fun p4 H6 hp4 e6 h6 i6 => ?_
  walk_at "rd"
  refine rd_ncat (M := [p]) (ys := [a]) (by walk_at "at") (at_is0 e6 i5) i6 (by simp [wf_len]) fun p5 H7 hp5 e7 i7 => ?_
  walk_at "rd"
  refine rd_newL (M := [p]) (by walk_at "at") (by walk_at "all") (by simp) fun p6 H8 hp6 e8 h8 i8 => ?_
  walk_at "rd"
  refine rd_nrep1 (M := [p]) (n := 0) (j := 53) (by walk_at "at") h8 rfl (by decide) (by decide) fun p7 H9 hp7 e9 i9 => ?_
  walk_at "rd"
  refine rd_ncat (M := [p]) (by walk_at "at") (by walk_at "at") i9 (by simp [wf_len]) fun ps Ha hps ea isec => ?_
  replace isec : Is [p] Ha (.ref ps) (nats (hd t a)) := isec
  have sa : StAt Ha p l := by walk_at "at"
  have exa : Ext [p] H Ha := by walk_at "at"
  have hMa := sa.als
  clear e3 i3 h3 e4 i4 e5 i5 e6 h6 i6 e7 i7 e8 h8 i8 e9 i9 ea e1 e2
  walk_at "rd"
  refine ⟨[p], t, a, rfl, hMa, fun pb Hb eb ib => ?_⟩
  walk_at "rd"
  refine rd_same (n := 2) ib (at_is0 eb isec) (sh_nats _) ?_
  walk_at "rd"
  refine rd_ndlist (M := [p]) (by walk_at "at") (at_is0 eb isec) fun pc Hc hpc ec ic => ?_
  walk_at "rd"
  refine ⟨[p], pc, _, rfl, ic, by rw [hd_len]; decide, by rw [hd_len]; decide, by walk_at "at", fun vd Hd ed id' => ?_⟩
  rw [rhD, rh_hd ht0 ht ha'] at id'
  obtain ⟨pd, xd, rfl, _⟩ := id'.tupleV
  walk_at "rd"
  refine rd_newT (M := [p]) (by walk_at "at") (by walk_at "all") (by simp) fun pe He hpe ee he ie => ?_
  walk_at "rd"
  refine rd_same (n := 2) (at_is0 ee id') ie (Sh.tuple fun d hd => ?_) ?_
  · simp only [List.mem_cons, List.not_mem_nil, or_false] at hd
    rcases hd with rfl | rfl <;> exact .int _
  walk_at "rd"
  have se : StAt He p l := by walk_at "at"
  refine rd_next se (by decide) (by decide) fun n1 Hf hn1 sf ef => ?_
  walk_at "rd"
  refine rd_next sf (by decide) (by decide) fun n2 Hg hn2 sg eg => ?_
  walk_at "rd"
  refine ⟨szl (by simp), fun pl hpl => ?_⟩
  walk_at "rd"
  have sg' : StAt (upd Hg pl (.lst [.int n1, .int (11 + n2)])) p l := sg.ext0 (.new hpl)
  refine rd_next sg' (by decide) (by decide) fun n3 Hh hn3 sh eh => ?_
  refine rd_pick (P := fun n => ∃ m : Nat, n = m ∧ (m < 4 ∨ 11 ≤ m) ∧ m < 64) (ns := [(n1 : Int), 11 + (n2 : Int)]) (v := n3) (eh.keepP (sg.ne_new hpl) upd_same) (by simp; omega) (fun n hn => ?_) ?_
  · simp only [List.mem_cons, List.not_mem_nil, or_false] at hn
    rcases hn with rfl | rfl
    · exact ⟨n1, rfl, by omega, by omega⟩
    · exact ⟨11 + n2, rfl, by omega, by omega⟩
  rintro n ⟨m, rfl, hm1, hm2⟩
  walk_at "rd"
  have exh : Ext [p] Ha Hh := by walk_at "at"
  have isech : Is [p] Hh (.ref ps) (nats (hd t a)) := isec.mono exh
  clear eb ib ec ic ed id' ee he ie ef eg eh
  refine rd_nix (xs := hd t a) (M := [p]) (j := m) isech rfl (by rw [hd_len]; exact hm2) ?_
  walk_at "rd"
  refine rd_next sh (by decide) (by decide) fun n4 Hi hn4 si ei => ?_
  walk_at "rd"
  have ev : (((hd t a).getD m 0 : Nat) : Int) + 1 + (n4 : Int) = (((hd t a).getD m 0 + 1 + n4 : Nat) : Int) := by omega
  have ev2 : ((((hd t a).getD m 0 : Nat) : Int) + 1 + (n4 : Int)) % 256 = ((((hd t a).getD m 0 + 1 + n4) % 256 : Nat) : Int) := by omega
  rw [ev2]
  refine rd_newL (M := [p]) si.als (by walk_at "all") (by simp) fun pj Hj hpj ej hj ij => ?_
  walk_at "rd"
  refine rd_put (M := [p]) (s := hd t a) (d := [((hd t a).getD m 0 + 1 + n4) % 256]) m (by walk_at "at") rfl (by walk_at "at") ij (by rw [hd_len]; decide) (by simp) fun pk Hk ek ik => ?_
  walk_at "rd"
  refine rd_newL (M := [p]) (by walk_at "at") (by walk_at "all") (by simp) fun pm Hm hpm em hm im => ?_
  walk_at "rd"
  refine rd_nrep1 (M := [p]) (n := 0) (j := 64) (by walk_at "at") hm rfl (by decide) (by decide) fun pn Hn hpn en in' => ?_
  walk_at "rd"
  refine rd_newL (M := [p]) (by walk_at "at") (by walk_at "all") (by simp) fun po Ho hpo eo ho io => ?_
  walk_at "rd"
  have so : StAt Ho p l := by walk_at "at"
  refine rd_next so (by decide) (by decide) fun n5 Hp hn5 sp ep => ?_
  walk_at "rd"
  have isecp : Is [p] Hp (.ref ps) (nats (hd t a)) := by walk_at "at"
  have iop := at_is ep io
  have exp : Ext [p] Ha Hp := by walk_at "at"
  clear ei ej hj ij ek ik em hm im en in' eo ho io ep
  refine rd_newL (M := [p]) sp.als (by walk_at "all") (by simp) fun pq Hq hpq eq hq iq => ?_
  walk_at "rd"
  refine rd_put (M := [p]) (s := hd t a) (d := [2 + n5]) 10 (by walk_at "at") rfl (by walk_at "at") iq (by rw [hd_len]; decide) (by simp) fun pr Hr er ir => ?_
  walk_at "rd"
  refine rd_newL (M := [p]) (by walk_at "at") (by walk_at "all") (by simp) fun pt Ht hpt et ht' it => ?_
  walk_at "rd"
  refine rd_nrep1 (M := [p]) (n := 0) (j := 6) (by walk_at "at") ht' rfl (by decide) (by decide) fun pu Hu hpu eu iu => ?_
  walk_at "rd"
  refine rd_put (M := [p]) (s := hd t a) (d := List.replicate 6 0) 4 (by walk_at "at") rfl (by walk_at "at") iu (by rw [hd_len]; decide) (by simp) fun pv Hv ev' iv => ?_
  walk_at "rd"
  refine rd_newL (M := [p]) (by walk_at "at") (by walk_at "all") (by simp) fun pw Hw hpw ew hw iw => ?_
  walk_at "rd"
  refine rd_mcat (M := [p]) (g := nats) (L := [put (hd t a) m [((hd t a).getD m 0 + 1 + n4) % 256], List.replicate 64 0]) (L2 := [put (hd t a) 10 [2 + n5], put (hd t a) 4 (List.replicate 6 0)]) (by walk_at "at") (by show Is [p] Hw (.ref po) (.list [nats _, nats _]); walk_at "at") iw (by simp) fun px Hx hpx ex _ ix => ?_
  walk_at "rd"
  intro D hD
  have sx : StAt Hx p l := by walk_at "at"
  have exx : Ext [p] Ha Hx := by walk_at "at"
  refine q_lcM (M := [p]) rhD sx.als hD ix (by simp) (fun _ => rfl) (fun x y H' hy sD e iy R k => ?_) fun Hy ey iyy => ?_
  · obtain ⟨px, xs, rfl, _⟩ := iy.listV
    have hy64 : y.length = 64 := by
      simp only [List.cons_append, List.nil_append, List.mem_cons, List.not_mem_nil, or_false] at hy
      rcases hy with rfl | rfl | rfl | rfl
      · rw [put_len (by rw [hd_len]; exact hm2), hd_len]
      · rfl
      · rw [put_len (by rw [hd_len]; simp), hd_len]
      · rw [put_len (by rw [hd_len]; simp), hd_len]
    walk_at "rd"
    exact ⟨_, px, y, rfl, iy, by omega, by omega, sD, fun v H2 e2 i2 => k v H2 e2 i2⟩
  · have hne : ((hd t a).getD m 0 + 1 + n4) % 256 ≠ (hd t a).getD m 0 := by omega
    have r1 : rh (put (hd t a) m [((hd t a).getD m 0 + 1 + n4) % 256]) = none := rh_wrong hm1 hm2 hne
    have r2 : rh (List.replicate 64 0) = none := rh_zero rfl
    have r3 : rh (put (hd t a) 10 [2 + n5]) = none := rh_area (hd_len _ _) (by omega)
    have r4 : rh (put (hd t a) 4 (List.replicate 6 0)) = none := rh_put0 (hd_len _ _)
    have ed : ([put (hd t a) m [((hd t a).getD m 0 + 1 + n4) % 256], List.replicate 64 0] ++ [put (hd t a) 10 [2 + n5], put (hd t a) 4 (List.replicate 6 0)]).map rhD = [.none, .none, .none, .none] := by
      simp only [List.cons_append, List.nil_append, List.map_cons, List.map_nil, rhD, r1, r2, r3, r4]
    rw [ed] at iyy
    walk_at "rd"
    refine rd_newL (M := [p]) (by walk_at "at") (by walk_at "all") (by simp) fun pz Hz hpz ez hz iz => ?_
    walk_at "rd"
    have hsh : Sh 1 (.list [.none, .none, .none, .none]) := Sh.list fun d hd => by
      simp only [List.mem_cons, List.not_mem_nil, or_false] at hd
      rcases hd with rfl | rfl | rfl | rfl <;> exact .non
    refine rd_eqD (at_is0 ez iyy) iz hsh.ok hsh.ok ?_
    rw [hsh.refl]
    exact q _ (by walk_at "at") ((exa.trans exx).trans (ey.any.trans ez.any))
end
theorem sh_natss {n : Nat} (S : List (List Nat)) : Sh (n + 2) (natss S) := Sh.list fun d hd => by
  obtain ⟨k, _, rfl⟩ := List.mem_map.mp hd
  exact sh_nats k
theorem sh_pair {n : Nat} (xs : List Nat) (i : Int) : Sh (n + 2) (.tuple [nats xs, .int i]) := Sh.tuple fun d hd => by
  simp only [List.mem_cons, List.not_mem_nil, or_false] at hd
  rcases hd with rfl | rfl
  · exact sh_nats xs
  · exact .int i
section
variable {P : Program} {w : World} {K : PySem.W.Frag} {mg : Str → Option Value} {base : Heap}
theorem ok_law_asks_block (T : Txt K mg) : Cal P w K mg base 4 "_law_asks_block" sp_sask [] := by
  refine T.f_law_asks_block.cal sc_law_asks_block bd_law_asks_block (fun vs H Q E h => ?_) fun f cdv A outer s H vs Q E hr h => ?_
  · obtain ⟨p, l, rfl, _⟩ := h; rfl
  obtain ⟨p, l, rfl, hs, q⟩ := h
  refine ⟨_, (pss_cons (ps_set (i := 1) sc_law_asks_block.nd rfl (Or.inr rfl) (pe_c (ok_law_turn T) hr (by decide) rfl (pa_cons (pv 0) pa_nil)))
      (pss_cons (ps_set (i := 2) sc_law_asks_block.nd rfl (Or.inl rfl) (pe_c (ok_law_bytes T) hr (by decide) rfl (pa_cons (pv 0) pa_nil)))
      (pss_cons (ps_set (i := 3) sc_law_asks_block.nd rfl (Or.inl rfl) (pe_c (ok_law_block T) hr (by decide) rfl (pa_cons (pv 1) (pa_cons (pv 2) pa_nil))))
      (pss_cons (ps_set (i := 4) sc_law_asks_block.nd rfl (Or.inl rfl) (pe_callTy (call_listK K) (by rfl) T.z_list (by decide +kernel) (pa_cons (pv 2) pa_nil)))
      (pss_cons (ps_if (PW.pt (pw_or (pt_not (pt_val (pe_c (ok_law_same T 2) hr (by decide) rfl (pa_cons (pe_c (ok_write_block T) hr (by decide) rfl (pa_cons (pv 1) (pa_cons (pv 4) pa_nil))) (pa_cons (pv 3) pa_nil))))) (pw_or1 (pt_cmpR (op_neDK K hr.units) (pv 4) (pv 2) (nomark _))))) (pss_one (ps_ret pe_bl)) pss_nil)
      (pss_cons (ps_set (i := 5) sc_law_asks_block.nd rfl (Or.inl rfl) (pe_c (ok_law_block T) hr (by decide) rfl (pa_cons (pe_ix (ix_listK K) (pe_lst (pa_cons (pv 1) (pa_cons (pe_op op_add (pv 1) pe_int) pa_nil))) (pe_c (ok_law_next T) hr (by decide) rfl (pa_cons (pv 0) (pa_cons pe_int pa_nil))) (fun _ _ => rfl)) (pa_cons (pe_c (ok_law_bytes T) hr (by decide) rfl (pa_cons (pv 0) pa_nil)) pa_nil))))
      (pss_cons (ps_set (i := 6) sc_law_asks_block.nd rfl (Or.inl rfl) (pe_op op_cat (pe_slice (sl_listK K) (pv 3) po_none (po_some pe_int)) (pe_lc (own := [("sector", 7)]) (g := gName 7) (tt := tYes) rfl sc_law_asks_block.nd (pi_listK K (pe_slice (sl_listK K) (pv 3) (po_some pe_int) po_none)) (blkOk_by (own := [("sector", 7)]) (N := nm_law_asks_block) (sc := defScope s_law_asks_block) (by decide +kernel)) (fun _ _ _ _ _ => (pg_name (i := 7) sc_law_asks_block.nd rfl (Or.inl rfl))) (fun _ _ _ _ _ => pts_nil) (fun _ _ _ _ _ => (pe_c (ok_law_put T) hr (by decide) rfl (pa_cons (pv 7) (pa_cons pe_int (pa_cons (pe_c (ok_law_fixed T) hr (by decide) rfl (pa_cons (pe_c (ok_law_next T) hr (by decide) rfl (pa_cons (pv 0) (pa_cons (pe_op op_pow pe_int pe_int) pa_nil))) (pa_cons pe_int pa_nil))) pa_nil))))))))
      (pss_cons (ps_set (i := 8) sc_law_asks_block.nd rfl (Or.inl rfl) (pe_op op_sub (pe_op op_sub (pe_op op_mul pe_int (pe_callB (call_lenK K) (by rfl) T.z_len (by decide +kernel) (pa_cons (pv 3) pa_nil))) pe_int) (pe_callB (call_lenK K) (by rfl) T.z_len (by decide +kernel) (pa_cons (pv 2) pa_nil))))
      (pss_join (ps_if (pt_cmpR op_gt (pv 8) pe_int (nomark _)) (pss_one (ps_asg (pe_op op_cat (pe_slice (sl_listK K) (pe_ix (ix_listK K) (pv 6) (pe_op op_sub (pe_callB (call_lenK K) (by rfl) T.z_len (by decide +kernel) (pa_cons (pv 6) pa_nil)) pe_int) (fun _ _ => rfl)) po_none (po_some (pe_op op_sub pe_int (pv 8)))) (pe_op op_rep (pe_lst (pa_cons (pe_c (ok_law_next T) hr (by decide) rfl (pa_cons (pv 0) (pa_cons pe_int pa_nil))) pa_nil)) (pv 8))) (pg_sub (pv 6) (pe_op op_sub (pe_callB (call_lenK K) (by rfl) T.z_len (by decide +kernel) (pa_cons (pv 6) pa_nil)) pe_int) set_list))) pss_nil)
      (pss_cons (ps_for PassesOwn.never rfl (pi_listK K (pe_lst (pa_cons (pv 3) (pa_cons (pv 6) pa_nil)))) (pg_name (i := 9) sc_law_asks_block.nd rfl (Or.inl rfl))
      (pss_cons (ps_set (i := 10) sc_law_asks_block.nd rfl (Or.inl rfl) (pe_c (ok_read_block T) hr (by decide) rfl (pa_cons (pe_op op_cat (pe_op op_cat (pv 9) (pe_op op_rep (pv 5) (pe_c (ok_law_next T) hr (by decide) rfl (pa_cons (pv 0) (pa_cons pe_int pa_nil))))) (pe_op op_rep (pe_lst (pa_cons (pe_op op_rep (pe_lst (pa_cons pe_int pa_nil)) pe_int) pa_nil)) (pe_c (ok_law_next T) hr (by decide) rfl (pa_cons (pv 0) (pa_cons pe_int pa_nil))))) (pa_cons (pv 1) pa_nil))))
      (pss_one (ps_if (pt_not (pt_val (pe_c (ok_law_same T 2) hr (by decide) rfl (pa_cons (pv 10) (pa_cons (pe_tup (pa_cons (pv 2) (pa_cons (pe_callB (call_lenK K) (by rfl) T.z_len (by decide +kernel) (pa_cons (pv 3) pa_nil)) pa_nil))) pa_nil))))) (pss_one (ps_ret pe_bl)) pss_nil))))
      (pss_cons (ps_set (i := 11) sc_law_asks_block.nd rfl (Or.inl rfl) (pe_c (ok_law_next T) hr (by decide) rfl (pa_cons (pv 0) (pa_cons (pe_op op_add (pe_callB (call_lenK K) (by rfl) T.z_len (by decide +kernel) (pa_cons (pv 2) pa_nil)) pe_int) pa_nil))))
      (pss_cons (ps_set (i := 12) sc_law_asks_block.nd rfl (Or.inl rfl) (pe_op op_cat (pe_lst (pa_cons (pe_c (ok_law_put T) hr (by decide) rfl (pa_cons (pe_ix (ix_listK K) (pv 3) pe_int (fun _ _ => rfl)) (pa_cons pe_int (pa_cons (pe_c (ok_law_fixed T) hr (by decide) rfl (pa_cons (pv 11) (pa_cons pe_int pa_nil))) pa_nil)))) pa_nil)) (pe_slice (sl_listK K) (pv 3) (po_some pe_int) po_none)))
      (pss_cons (ps_if (pt_not (pt_val (pe_c (ok_law_same T 2) hr (by decide) rfl (pa_cons (pe_c (ok_read_block T) hr (by decide) rfl (pa_cons (pe_op op_cat (pv 12) (pv 5)) (pa_cons (pv 1) pa_nil))) (pa_cons (pe_tup (pa_cons (pe_slice (sl_listK K) (pv 2) po_none (po_some (pv 11))) (pa_cons (pe_callB (call_lenK K) (by rfl) T.z_len (by decide +kernel) (pa_cons (pv 3) pa_nil)) pa_nil))) pa_nil))))) (pss_one (ps_ret pe_bl)) pss_nil)
      (pss_cons (ps_if (PW.pt (pw_or (pt_cmpR op_notNq (pe_c (ok_read_block T) hr (by decide) rfl (pa_cons (pe_op op_cat (pv 3) (pv 5)) (pa_cons (pe_op op_add (pv 1) pe_int) pa_nil))) pe_non (nomark _)) (pw_or1 (pt_cmpR op_notNq (pe_c (ok_read_block T) hr (by decide) rfl (pa_cons (pe_lst pa_nil) (pa_cons (pv 1) pa_nil))) pe_non (nomark _))))) (pss_one (ps_ret pe_bl)) pss_nil)
      (pss_cons (ps_set (i := 13) sc_law_asks_block.nd rfl (Or.inl rfl) (pe_c (ok_law_next T) hr (by decide) rfl (pa_cons (pv 0) (pa_cons (pe_callB (call_lenK K) (by rfl) T.z_len (by decide +kernel) (pa_cons (pv 3) pa_nil)) pa_nil))))
      (pss_cons (ps_set (i := 14) sc_law_asks_block.nd rfl (Or.inl rfl) (pe_c (ok_law_next T) hr (by decide) rfl (pa_cons (pv 0) (pa_cons pe_int pa_nil))))
      (pss_cons (ps_set (i := 15) sc_law_asks_block.nd rfl (Or.inl rfl) (pe_c (ok_law_put T) hr (by decide) rfl (pa_cons (pe_ix (ix_listK K) (pv 3) (pv 13) (fun _ _ => rfl)) (pa_cons (pv 14) (pa_cons (pe_lst (pa_cons (pe_op op_mod (pe_op op_add (pe_op op_add (pe_ix (ix_listK K) (pe_ix (ix_listK K) (pv 3) (pv 13) (fun _ _ => rfl)) (pv 14) (fun _ _ => rfl)) pe_int) (pe_c (ok_law_next T) hr (by decide) rfl (pa_cons (pv 0) (pa_cons pe_int pa_nil)))) pe_int) pa_nil)) pa_nil)))))
      (pss_cons (ps_set (i := 16) sc_law_asks_block.nd rfl (Or.inl rfl) (pe_lst (pa_cons (pe_op op_cat (pe_op op_cat (pe_slice (sl_listK K) (pv 3) po_none (po_some (pv 13))) (pe_lst (pa_cons (pv 15) pa_nil))) (pe_slice (sl_listK K) (pv 3) (po_some (pe_op op_add (pv 13) pe_int)) po_none)) (pa_cons (pe_slice (sl_listK K) (pv 3) po_none (po_some (pe_op op_sub (pe_callB (call_lenK K) (by rfl) T.z_len (by decide +kernel) (pa_cons (pv 3) pa_nil)) pe_int))) pa_nil))))
      (pss_cons (ps_set (i := 17) sc_law_asks_block.nd rfl (Or.inl rfl) (pe_c (ok_law_fixed T) hr (by decide) rfl (pa_cons (pe_op op_add (pe_op op_sub (pe_op op_mul pe_int (pe_callB (call_lenK K) (by rfl) T.z_len (by decide +kernel) (pa_cons (pv 3) pa_nil))) pe_int) (pe_c (ok_law_next T) hr (by decide) rfl (pa_cons (pv 0) (pa_cons pe_int pa_nil)))) (pa_cons pe_int pa_nil))))
      (pss_cons (ps_set (i := 16) sc_law_asks_block.nd rfl (Or.inl rfl) (pe_op op_cat (pv 16) (pe_lst (pa_cons (pe_op op_cat (pe_lst (pa_cons (pe_c (ok_law_put T) hr (by decide) rfl (pa_cons (pe_ix (ix_listK K) (pv 3) pe_int (fun _ _ => rfl)) (pa_cons pe_int (pa_cons (pv 17) pa_nil)))) pa_nil)) (pe_slice (sl_listK K) (pv 3) (po_some pe_int) po_none)) (pa_cons (pe_op op_cat (pe_lst (pa_cons (pe_c (ok_law_put T) hr (by decide) rfl (pa_cons (pe_ix (ix_listK K) (pv 3) pe_int (fun _ _ => rfl)) (pa_cons pe_int (pa_cons (pe_lst (pa_cons pe_int (pa_cons pe_int (pa_cons pe_int (pa_cons pe_int pa_nil))))) pa_nil)))) pa_nil)) (pe_slice (sl_listK K) (pv 3) (po_some pe_int) po_none)) pa_nil)))))
      (pss_cons (ps_expr (pe_bm PySem.F.plainAttrs_list PySem.F.slot_list_append PySem.F.type_list_append mt_append (pv 16) (pa_cons (pe_op op_cat (pe_lst (pa_cons (pe_c (ok_law_put T) hr (by decide) rfl (pa_cons (pe_ix (ix_listK K) (pv 3) pe_int (fun _ _ => rfl)) (pa_cons pe_int (pa_cons (pe_c (ok_law_fixed T) hr (by decide) rfl (pa_cons (pe_op op_add (pe_op op_mul pe_int (pe_op op_add pe_int (pe_c (ok_law_next T) hr (by decide) rfl (pa_cons (pv 0) (pa_cons pe_int pa_nil))))) (pe_callB (call_lenK K) (by rfl) T.z_len (by decide +kernel) (pa_cons (pv 3) pa_nil))) (pa_cons pe_int pa_nil))) pa_nil)))) pa_nil)) (pe_slice (sl_listK K) (pv 3) (po_some pe_int) po_none)) pa_nil)))
      (pss_one (ps_ret (pe_cmpR (op_eqDK K hr.units) (pe_lc (own := [("each", 9)]) (g := gName 9) (tt := tYes) rfl sc_law_asks_block.nd (pi_listK K (pv 16)) (blkOk_by (own := [("each", 9)]) (N := nm_law_asks_block) (sc := defScope s_law_asks_block) (by decide +kernel)) (fun _ _ _ _ _ => (pg_name (i := 9) sc_law_asks_block.nd rfl (Or.inl rfl))) (fun _ _ _ _ _ => pts_nil) (fun _ _ _ _ _ => (pe_c (ok_read_block T) hr (by decide) rfl (pa_cons (pv 9) (pa_cons (pv 1) pa_nil))))) (pe_lst (pa_cons pe_non (pa_cons pe_non (pa_cons pe_non (pa_cons pe_non (pa_cons pe_non pa_nil)))))) (nomark _))))))))))))))))))))))))), ?_⟩
  walk_at "k"
  walk_at "rd"
  refine ⟨p, l, rfl, hs, fun t H1 ht0 ht s1 e1 => ?_⟩
  walk_at "rd"
  refine ⟨p, l, rfl, s1, fun pd d H2 hd s2 e2 i2 => ?_⟩
  walk_at "rd"
  refine ⟨[p], pd, t, d, rfl, i2, hd, s2.als, fun pb H3 e3 i3 => ?_⟩
  walk_at "rd"
  refine rd_ndlist (M := [p]) (by walk_at "at") (at_is0 e3 i2) fun pp H4 hpp e4 i4 => ?_
  walk_at "rd"
  refine ⟨[p], pp, t, d, rfl, i4, hd, by walk_at "at", fun v5 H5 e5 i5 => ?_⟩
  walk_at "rd"
  refine rd_same (n := 2) (M' := [p]) i5 (by walk_at "at") (sh_natss _) ?_
  walk_at "rd"
  refine rd_neD (M := [p]) (M' := [p]) (d := nats d) (e := nats d) (by walk_at "at") (by walk_at "at") (sh_nats (n := 0) _).ok (sh_nats (n := 0) _).ok ?_
  rw [eqv_nats, show decide (d = d) = true from decide_eq_true rfl]
  walk_at "rd"
  have hcl := cnt_lt hd
  have hcp := cnt_pos d
  have hbl := blk_len t d
  refine ⟨szl (by simp), fun r hr' => ?_⟩
  walk_at "rd"
  have s5 : StAt H5 p l := by walk_at "at"
  refine rd_next (s5.ext0 (.new hr')) (by decide) (by decide) fun k H6 hk s6 e6 => ?_
  walk_at "rd"
  refine rd_pick (P := fun n => ∃ m : Nat, n = m) (ns := [(t : Int), (t : Int) + 1]) (v := k) (e6.keepP (s5.ne_new hr') upd_same) (by simp; omega) (fun n hn => ?_) ?_
  · simp only [List.mem_cons, List.not_mem_nil, or_false] at hn
    rcases hn with rfl | rfl
    · exact ⟨t, rfl⟩
    · exact ⟨t + 1, rfl⟩
  rintro n ⟨t', rfl⟩
  walk_at "rd"
  refine ⟨p, l, rfl, s6, fun pd2 d2 H7 hd2 s7 e7 i7 => ?_⟩
  walk_at "rd"
  refine ⟨[p], pd2, t', d2, rfl, i7, hd2, s7.als, fun po H8 e8 i8 => ?_⟩
  have s8 := s7.ext0 e8
  have e56 : Ext [p] H5 H6 := (Ext.new hr').trans e6
  have e08 : Ext [p] H H8 := by walk_at "at"
  have ib : Is [p] H8 (.ref pb) (natss (blk t d)) := by walk_at "at"
  have iD : Is [p] H8 (.ref pd) (nats d) := by walk_at "at"
  have hol : (blk t' d2).length ≤ 8 := by rw [blk_len]; exact cnt_lt hd2
  have ho64 := blk_64 t' d2
  generalize blk t' d2 = others at i8 hol ho64
  clear e1 e2 i2 e3 i3 e4 i4 e5 i5 e6 e7 i7 e8 e56 s1 s2 s5 s6 s7
  walk_at "rd"
  refine rd_mcut0 (M := [p]) (L := blk t d) (g := nats) (h := 1) s8.als ib rfl fun p9 H9 hp9 e9 i9 => ?_
  walk_at "rd"
  refine rd_mcutN (M := [p]) (L := blk t d) (g := nats) (l := 1) (by walk_at "at") (at_is0 e9 ib) rfl fun p10 H10 hp10 e10 i10 => ?_
  walk_at "rd"
  intro D hD
  have s10 : StAt H10 p l := by walk_at "at"
  have hDp : p ∉ [D] := by
    rw [List.mem_singleton]
    exact (s10.ne_new hD).symm
  have hDl : l ∉ [D] := by
    rw [List.mem_singleton]
    exact fun e => s10.al2 (by rw [e]; exact hD)
  refine q_lcA (N := [p]) (M := [p]) (fun H => StAt H p l) (fun s e => ∃ c, e = nats c ∧ Alike s c) (fun b h => h) s10.als hD i10 (by rw [List.length_drop]; omega) (fun _ => rfl) s10 (fun A o s => s.ext (M := [D]) (.set (by simp)) hDp hDl) (fun i x y H' hy sD e jh ix R k => ?_) fun H12 es e12 s12 hes i12 => ?_
  · obtain ⟨px, xs, rfl, _⟩ := ix.listV
    have hy64 := blk_64 t d y (List.mem_of_mem_drop (List.mem_of_getElem? hy))
    walk_at "rd"
    refine rd_next jh (by decide) (by decide) fun r H11 hr11 s11 e11 => ?_
    walk_at "rd"
    refine rd_fixed (M := [D, p]) r 4 (by walk_at "at") rfl rfl (by decide) fun p12 H12 e12 i12 => ?_
    walk_at "rd"
    refine rd_put (M := [D, p]) (s := y) (d := wf r 4) 6 (by walk_at "at") rfl (by walk_at "at") i12 (by omega) (by rw [wf_len]; decide) fun p13 H13 e13 i13 => ?_
    exact k _ _ _ (by walk_at "at") (by walk_at "at") i13 ⟨_, rfl, alike_put hy64⟩
  obtain ⟨cs, rfl, hcs⟩ := hes.pick
  walk_at "rd"
  have hcsl : cs.length = cnt d - 1 := by rw [← hcs.length, List.length_drop, hbl]
  refine rd_mcat (M := [p]) (g := nats) (L := (blk t d).take 1) (L2 := cs) s12.als (by walk_at "at") i12 (by rw [List.length_take]; omega) fun pS H13 hpS e13 hraw i13 => ?_
  have ga := fun R => (rb_alike (x := 0) (R := R) ht hd hcs).1
  have gl := fun R x => (rb_alike (x := x) (R := R) ht hd hcs).2
  have hS64 : ∀ s ∈ (blk t d).take 1 ++ cs, s.length = 64 := fun s hs => by
    rcases List.mem_append.mp hs with hs | hs
    · exact blk_64 t d s (List.mem_of_mem_take hs)
    · obtain ⟨b, hb, r⟩ := hcs.mem hs
      rw [r.2.2, blk_64 t d b (List.mem_of_mem_drop hb)]
  have hSl : ((blk t d).take 1 ++ cs).length = cnt d := by rw [List.length_append, List.length_take]; omega
  have e813 : Ext [p] H8 H13 := by walk_at "at"
  have s13 : StAt H13 p l := by walk_at "at"
  generalize (blk t d).take 1 ++ cs = SS at hraw i13 ga gl hS64 hSl
  obtain ⟨xs, hxs, rxs⟩ := hraw
  have e812 : Ext [p] H8 H12 := by walk_at "at"
  have hp8 := e812.free hpS
  walk_at "rd"
  refine rd_dlen (M := [p]) (ds := (blk t d).map nats) (by walk_at "at") fun _ => ?_
  walk_at "rd"
  refine rd_nlen (M := [p]) (xs := d) (by walk_at "at") ?_
  walk_at "rd"
  rw [List.length_map, hbl]
  have hz : 54 * (cnt d : Int) - 4 - (d.length : Int) = (zer d : Int) := by unfold zer cnt; omega
  rw [hz]
  refine ⟨fun σ H' => σ = [some (.ref p), some (.int t), some (.ref pd), some (.ref pb), some (.ref pp), some (.ref po), some (.ref pS), none, some (.int (zer d)), none, none, none, none, none, none, none, none, none] ∧
    ∃ S2 : List (List Nat), S2.length = cnt d ∧ (∀ s ∈ S2, s.length = 64) ∧ (∀ R, rb (S2 ++ R) t = some (d, cnt d)) ∧ Is [p] H' (.ref pS) (natss S2) ∧ StAt H' p l ∧ Ext [p] H8 H', ?_, ?_⟩
  · walk_at "rd"
    refine rd_ite (fun c => ?_) (fun c => ?_)
    case refine_2 =>
      walk_at "rd"
      exact ⟨rfl, SS, hSl, hS64, ga, i13, s13, e813⟩
    have hzz : zer d ≤ 53 := by unfold zer cnt; omega
    have hMS : Al [pS, p] H13 := .cons (some_ne hxs) s13.als
    obtain ⟨lst, hlst⟩ : ∃ z, SS.getLast? = some z := by
      cases e : SS.getLast? with
      | none => rw [List.getLast?_eq_none_iff] at e; rw [e] at hSl; simp at hSl; omega
      | some z => exact ⟨z, rfl⟩
    have hlm : SS[cnt d - 1]? = some lst := by rw [← hlst, List.getLast?_eq_getElem?, hSl]
    have hl64 := hS64 lst (List.mem_of_getElem? hlm)
    have hlx : xs.length = cnt d := by rw [rxs.length, List.length_map, hSl]
    obtain ⟨vl, hvl, ivl⟩ := rxs.get (i := cnt d - 1) (d := nats lst) (by rw [List.getElem?_map, hlm]; rfl)
    obtain ⟨plst, _, rfl, _⟩ := ivl.listV
    walk_at "rd"
    rw [hlx]
    have ek : (cnt d : Int) - 1 = ((cnt d - 1 : Nat) : Int) := by omega
    rw [ek]
    refine rd_ixL (SqL.of hxs) (atI_nat hvl) ?_
    walk_at "rd"
    refine rd_ncut0 (M := [pS, p]) (xs := lst) (h := 64 - zer d) hMS ivl (by omega) fun p14 H14 hp14 e14 i14 => ?_
    walk_at "rd"
    have s14 := s13.ext0 e14
    refine rd_next s14 (by decide) (by decide) fun x H15 hx15 s15 e15 => ?_
    walk_at "rd"
    have hM15 : Al [pS, p] H15 := (hMS.ext e14).ext e15
    refine rd_newL (M := [pS, p]) hM15 (by walk_at "all") (by simp) fun p16 H16 hp16 e16 h16 i16 => ?_
    walk_at "rd"
    refine rd_nrep1 (M := [pS, p]) (n := x) (j := zer d) (by walk_at "at") h16 (by omega) (by omega) (by omega) fun p17 H17 hp17 e17 i17 => ?_
    walk_at "rd"
    refine rd_ncat (M := [pS, p]) (xs := lst.take (64 - zer d)) (by walk_at "at") (by walk_at "at") i17 (by rw [List.length_take, List.length_replicate]; omega) fun p18 H18 hp18 e18 i18 => ?_
    have e1318 : Ext [p] H13 H18 := by walk_at "at"
    have hxs18 : H18 pS = some (.lst xs) := e1318.keepP (s12.ne_new hpS) hxs
    walk_at "rd"
    rw [hlx, ek]
    refine rd_setL hxs18 (j := cnt d - 1) (by rw [hlx]; unfold ixN; rw [if_pos (by omega), if_pos (by omega), Int.toNat_natCast]) ?_
    walk_at "rd"
    have hpS2 : pS ∉ [p] := by
      rw [List.mem_singleton]
      exact s12.ne_new hpS
    have hpl : l ∉ [pS] := by
      rw [List.mem_singleton]
      exact fun e => s12.al2 (by rw [e]; exact hpS)
    have hpp' : p ∉ [pS] := by
      rw [List.mem_singleton]
      exact (s12.ne_new hpS).symm
    have s18 : StAt H18 p l := by walk_at "at"
    refine ⟨rfl, SS.set (cnt d - 1) (lst.take (64 - zer d) ++ List.replicate (zer d) x), by rw [List.length_set, hSl], fun s hs => ?_, fun R => gl R x lst hlst, ?_, s18.ext (M := [pS]) (.set (by simp)) hpp' hpl, (e813.trans e1318).mut hp8⟩
    · rcases List.mem_or_eq_of_mem_set hs with hs | rfl
      · exact hS64 s hs
      · rw [List.length_append, List.length_take, List.length_replicate, hl64]; omega
    · refine .lst hpS2 upd_same ?_
      have rx18 : IsAll [pS, p] H18 xs (SS.map nats) := rxs.mono (e1318.more fun b hb => List.mem_cons_of_mem _ hb)
      rw [List.map_set]
      exact ((rx18.set (cnt d - 1) i18).mono (.set (by simp))).on
  · rintro σ H14 ⟨rfl, S2, hS2l, hS2, gS, i14, s14, e14⟩
    clear e9 i9 e10 i10 e12 i12 e13 i13 s8 s10 s12 s13 e813 e812 hxs rxs
    have ib14 : Is [p] H14 (.ref pb) (natss (blk t d)) := ib.mono e14
    have iD14 : Is [p] H14 (.ref pd) (nats d) := iD.mono e14
    have io14 : Is [p] H14 (.ref po) (natss others) := i8.mono e14
    have e014 : Ext [p] H H14 := e08.trans e14
    clear e14 ib iD i8 e08
    walk_at "rd"
    refine rd_newL (M := [p]) s14.als (by walk_at "all") (by simp) fun pL H15 hpL e15 h15 i15 => ?_
    walk_at "rd"
    have s15 : StAt H15 p l := by walk_at "at"
    have ib15 := at_is0 e15 ib14
    have iD15 := at_is0 e15 iD14
    have io15 := at_is0 e15 io14
    have e015 : Ext [p] H H15 := by walk_at "at"
    refine q_dataM (M := [p]) (H0 := H15) (L := [blk t d, S2]) (g := natss) i15 (fun i σ H' => ∃ x y : Option V, σ = [some (.ref p), some (.int t), some (.ref pd), some (.ref pb), some (.ref pp), some (.ref po), some (.ref pS), none, some (.int (zer d)), x, y, none, none, none, none, none, none, none] ∧ StAt H' p l ∧ Ext [p] H15 H') ⟨none, none, rfl, s15, .refl⟩ (fun i σ H' ⟨_, _, _, _, e⟩ => e) ?_ ?_
    · rintro i E0 x σ H' hi iE ⟨y, z, rfl, s16, e16⟩
      obtain ⟨pE, _, rfl, _⟩ := iE.listV
      have hE : E0.length = cnt d ∧ (∀ s ∈ E0, s.length = 64) ∧ ∀ R, rb (E0 ++ R) t = some (d, cnt d) := by
        have hm : E0 ∈ [blk t d, S2] := List.mem_of_getElem? hi
        simp only [List.mem_cons, List.not_mem_nil, or_false] at hm
        rcases hm with rfl | rfl
        · exact ⟨hbl, blk_64 t d, fun R => rb_blk ht hd⟩
        · exact ⟨hS2l, hS2, gS⟩
      walk_at "rd"
      refine rd_next s16 (by decide) (by decide) fun k1 H17 hk1 s17 e17 => ?_
      walk_at "rd"
      have hk1o : others.length * k1 ≤ 100000 := Nat.le_trans (Nat.mul_le_mul hol (show k1 ≤ 1 by omega)) (by decide)
      refine rd_mrep (M := [p]) (L := others) (g := nats) (k := (k1 : Int)) (j := k1) (by walk_at "at") (by walk_at "at") (by omega) (by omega) (by omega) hk1o fun p18 H18 hp18 e18 i18 => ?_
      have hk1l : ((List.replicate k1 others).flatten).length ≤ 8 := by
        rw [List.length_flatten, List.map_replicate, List.sum_replicate_nat]
        have : k1 ≤ 1 := by omega
        have : k1 * others.length ≤ 1 * 8 := Nat.mul_le_mul this hol
        omega
      have hk1m : ∀ s ∈ (List.replicate k1 others).flatten, s.length = 64 := fun s hs => by
        obtain ⟨a, ha, hs⟩ := List.mem_flatten.mp hs
        rw [List.eq_of_mem_replicate ha] at hs
        exact ho64 s hs
      walk_at "rd"
      refine rd_mcat (M := [p]) (g := nats) (L := E0) (L2 := (List.replicate k1 others).flatten) (by walk_at "at") (by walk_at "at") i18 (by omega) fun p19 H19 hp19 e19 _ i19 => ?_
      walk_at "rd"
      refine rd_newL (M := [p]) (by walk_at "at") (by walk_at "all") (by simp) fun p20 H20 hp20 e20 h20 i20 => ?_
      walk_at "rd"
      refine rd_nrep1 (M := [p]) (n := 0) (j := 64) (by walk_at "at") h20 rfl (by decide) (by decide) fun p21 H21 hp21 e21 i21 => ?_
      walk_at "rd"
      refine rd_newL (M := [p]) (by walk_at "at") (by walk_at "all") (by simp) fun p22 H22 hp22 e22 h22 i22 => ?_
      walk_at "rd"
      refine rd_next (by walk_at "at") (by decide) (by decide) fun k2 H23 hk2 s23 e23 => ?_
      walk_at "rd"
      refine rd_mrep (M := [p]) (L := [List.replicate 64 0]) (g := nats) (k := (k2 : Int)) (j := k2) (by walk_at "at") (at_is e23 i22) (by omega) (by omega) (by omega) (by simp; omega) fun p24 H24 hp24 e24 i24 => ?_
      have hk2l : ((List.replicate k2 [List.replicate 64 0]).flatten : List (List Nat)).length ≤ 2 := by
        rw [List.length_flatten, List.map_replicate, List.sum_replicate_nat]
        simp
        omega
      have hk2m : ∀ s ∈ ((List.replicate k2 [List.replicate 64 0]).flatten : List (List Nat)), s.length = 64 := fun s hs => by
        obtain ⟨a, ha, hs⟩ := List.mem_flatten.mp hs
        rw [List.eq_of_mem_replicate ha] at hs
        rw [List.mem_singleton.mp hs]
        rfl
      walk_at "rd"
      refine rd_mcat (M := [p]) (g := nats) (L := E0 ++ (List.replicate k1 others).flatten) (L2 := (List.replicate k2 [List.replicate 64 0]).flatten) (by walk_at "at") (by walk_at "at") i24 (by rw [List.length_append]; omega) fun p25 H25 hp25 e25 _ i25 => ?_
      walk_at "rd"
      refine ⟨[p], p25, _, t, rfl, i25, by rw [List.length_append, List.length_append]; omega, fun s hs => ?_, by walk_at "at", fun v26 H26 e26 i26 => ?_⟩
      · rcases List.mem_append.mp hs with hs | hs
        · rcases List.mem_append.mp hs with hs | hs
          · rw [hE.2.1 s hs]; decide
          · rw [hk1m s hs]; decide
        · rw [hk2m s hs]; decide
      rw [rbD, List.append_assoc, hE.2.2] at i26
      obtain ⟨p26, _, rfl, _⟩ := i26.tupleV
      walk_at "rd"
      refine rd_dlen (M := [p]) (ds := (blk t d).map nats) (by walk_at "at") fun _ => ?_
      walk_at "rd"
      refine rd_newT (M := [p]) (by walk_at "at") (by walk_at "all") (by simp) fun p27 H27 hp27 e27 h27 i27 => ?_
      rw [List.length_map, hbl] at i27
      walk_at "rd"
      refine rd_same (n := 2) (at_is0 e27 i26) i27 (sh_pair _ _) ?_
      walk_at "rd"
      exact ⟨_, _, rfl, by walk_at "at", by walk_at "at"⟩
    · rintro σ H' ⟨y, z, rfl, s16, e16⟩
      clear gS i14 i15 hS2 hS2l
      have ib16 : Is [p] H' (.ref pb) (natss (blk t d)) := ib15.mono e16
      have iD16 : Is [p] H' (.ref pd) (nats d) := iD15.mono e16
      have io16 : Is [p] H' (.ref po) (natss others) := io15.mono e16
      have e016 : Ext [p] H H' := e015.trans e16
      clear e16 ib15 iD15 io15 e015 ib14 iD14 io14 e014 e15 h15 s14 s15
      have hb64 := blk_64 t d
      have hb0 := blk_0 t d
      have h064 := hb64 _ hb0
      have hg0 : (blk t d)[0]? = some ((blk t d).getD 0 []) := get_D (by omega)
      have hp64 : ∀ (x : List Nat) (k : Nat), k + x.length ≤ 64 → (put ((blk t d).getD 0 []) k x).length = 64 := fun x k h => by rw [put_len (by omega), h064]
      have hd1 : ((blk t d).drop 1).length = cnt d - 1 := by rw [List.length_drop, hbl]
      walk_at "rd"
      rw [List.length_map]
      refine rd_next s16 (by omega) (lim_small (by omega) (by omega)) fun fw H17 hfw s17 e17 => ?_
      walk_at "rd"
      refine rd_mix (M := [p]) (L := blk t d) (g := nats) (j := 0) (by walk_at "at") rfl hg0 fun vb ivb => ?_
      obtain ⟨pb0, _, rfl, _⟩ := ivb.listV
      walk_at "rd"
      refine rd_fixed (M := [p]) fw 4 s17.als rfl rfl (by decide) fun p18 H18 e18 i18 => ?_
      walk_at "rd"
      refine rd_put (M := [p]) (s := (blk t d).getD 0 []) (d := wf fw 4) 10 (by walk_at "at") rfl (by walk_at "at") i18 (by omega) (by rw [wf_len]; decide) fun p19 H19 e19 i19 => ?_
      walk_at "rd"
      refine rd_newL (M := [p]) (by walk_at "at") (by walk_at "all") (by simp) fun p20 H20 hp20 e20 h20 i20 => ?_
      walk_at "rd"
      refine rd_mcutN (M := [p]) (L := blk t d) (g := nats) (l := 1) (by walk_at "at") (by walk_at "at") rfl fun p21 H21 hp21 e21 i21 => ?_
      walk_at "rd"
      refine rd_mcat (M := [p]) (g := nats) (L := [put ((blk t d).getD 0 []) 10 (wf fw 4)]) (L2 := (blk t d).drop 1) (by walk_at "at") (at_is0 e21 i20) i21 (by rw [List.length_singleton]; omega) fun p22 H22 hp22 e22 _ i22 => ?_
      walk_at "rd"
      refine rd_mcat (M := [p]) (g := nats) (L := [put ((blk t d).getD 0 []) 10 (wf fw 4)] ++ (blk t d).drop 1) (L2 := others) (by walk_at "at") i22 (by walk_at "at") (by rw [List.length_append, List.length_singleton]; omega) fun p23 H23 hp23 e23 _ i23 => ?_
      walk_at "rd"
      refine ⟨[p], p23, _, t, rfl, i23, by rw [List.length_append, List.length_append, List.length_singleton]; omega, fun s hs => ?_, by walk_at "at", fun v24 H24 e24 i24 => ?_⟩
      · rcases List.mem_append.mp hs with hs | hs
        · rcases List.mem_append.mp hs with hs | hs
          · rw [List.mem_singleton.mp hs, hp64 _ _ (by rw [wf_len]; decide)]; decide
          · rw [hb64 s (List.mem_of_mem_drop hs)]; decide
        · rw [ho64 s hs]; decide
      rw [rbD, rb_short ht hd (by omega)] at i24
      obtain ⟨p24, _, rfl, _⟩ := i24.tupleV
      walk_at "rd"
      refine rd_ncut0 (M := [p]) (xs := d) (h := fw) (by walk_at "at") (by walk_at "at") rfl fun p25 H25 hp25 e25 i25 => ?_
      walk_at "rd"
      refine rd_dlen (M := [p]) (ds := (blk t d).map nats) (by walk_at "at") fun _ => ?_
      walk_at "rd"
      refine rd_newT (M := [p]) (by walk_at "at") (by walk_at "all") (by simp) fun p26 H26 hp26 e26 h26 i26 => ?_
      rw [List.length_map, hbl] at i26
      walk_at "rd"
      refine rd_same (n := 2) (M := [p]) (by walk_at "at") i26 (sh_pair _ _) ?_
      have s26 : StAt H26 p l := by walk_at "at"
      have ib26 : Is [p] H26 (.ref pb) (natss (blk t d)) := by walk_at "at"
      have iD26 : Is [p] H26 (.ref pd) (nats d) := by walk_at "at"
      have io26 : Is [p] H26 (.ref po) (natss others) := by walk_at "at"
      have e026 : Ext [p] H H26 := by walk_at "at"
      clear e17 e18 i18 e19 i19 e20 h20 i20 e21 i21 e22 i22 e23 i23 e24 i24 e25 i25 e26 h26 i26 s16 s17 ib16 iD16 io16 e016
      walk_at "rd"
      refine rd_mcat (M := [p]) (g := nats) (L := blk t d) (L2 := others) s26.als ib26 io26 (by omega) fun p27 H27 hp27 e27 _ i27 => ?_
      walk_at "rd"
      refine ⟨[p], p27, _, t + 1, rfl, i27, by rw [List.length_append]; omega, fun s hs => ?_, by walk_at "at", fun v28 H28 e28 i28 => ?_⟩
      · rcases List.mem_append.mp hs with hs | hs
        · rw [hb64 s hs]; decide
        · rw [ho64 s hs]; decide
      rw [rbD, rb_next ht hd] at i28
      cases i28
      walk_at "rd"
      refine rd_newL (M := [p]) (by walk_at "at") (by walk_at "all") (by simp) fun p29 H29 hp29 e29 h29 i29 => ?_
      walk_at "rd"
      refine ⟨[p], p29, [], t, rfl, i29, by decide, (by intro s hs; cases hs), by walk_at "at", fun v30 H30 e30 i30 => ?_⟩
      rw [rbD, rb_nil] at i30
      cases i30
      have s30 : StAt H30 p l := by walk_at "at"
      have ib30 : Is [p] H30 (.ref pb) (natss (blk t d)) := by walk_at "at"
      have e030 : Ext [p] H H30 := by walk_at "at"
      clear e27 i27 e28 e29 h29 i29 e30 s26 ib26 iD26 io26 e026
      walk_at "rd"
      rw [List.length_map, hbl]
      refine rd_next s30 (by omega) (lim_small (by omega) (by omega)) fun k H31 hk31 s31 e31 => ?_
      walk_at "rd"
      refine rd_next s31 (by decide) (by decide) fun a H32 ha32 s32 e32 => ?_
      have hk : k < cnt d := by omega
      have ha : a < 6 := by omega
      have hgk : (blk t d)[k]? = some ((blk t d).getD k []) := get_D (by omega)
      have hbk : (blk t d).getD k [] ∈ blk t d := List.mem_of_getElem? hgk
      have hk64 := hb64 _ hbk
      walk_at "rd"
      refine rd_mix (M := [p]) (L := blk t d) (g := nats) (j := k) (by walk_at "at") rfl hgk fun vb1 ivb1 => ?_
      obtain ⟨pbk, _, rfl, _⟩ := ivb1.listV
      walk_at "rd"
      refine rd_mix (M := [p]) (L := blk t d) (g := nats) (j := k) (by walk_at "at") rfl hgk fun vb2 ivb2 => ?_
      obtain ⟨pbk2, _, rfl, _⟩ := ivb2.listV
      walk_at "rd"
      refine rd_nix (xs := (blk t d).getD k []) (M := [p]) (j := a) ivb2 rfl (by omega) ?_
      walk_at "rd"
      refine rd_next s32 (by decide) (by decide) fun rr H33 hrr s33 e33 => ?_
      walk_at "rd"
      have ev2 : (((((blk t d).getD k []).getD a 0 : Nat) : Int) + 1 + (rr : Int)) % 256 = (((((blk t d).getD k []).getD a 0 + 1 + rr) % 256 : Nat) : Int) := by omega
      rw [ev2]
      have hbyte : ((blk t d).getD k []).getD a 0 < 256 := by
        have e6 := (blk_6 hbk).1
        rw [← getD_take ha, e6]
        exact getD_lt (wf_lt _ _) (by rw [wf_len]; exact ha)
      generalize hV : (((blk t d).getD k []).getD a 0 + 1 + rr) % 256 = vv
      have hv256 : vv < 256 := by omega
      have hvne : vv ≠ ((blk t d).getD k []).getD a 0 := by omega
      refine rd_newL (M := [p]) s33.als (by walk_at "all") (by simp) fun p34 H34 hp34 e34 h34 i34 => ?_
      walk_at "rd"
      refine rd_put (M := [p]) (s := (blk t d).getD k []) (d := [vv]) a (by walk_at "at") rfl (by walk_at "at") i34 (by omega) (by simp) fun pw H35 e35 i35 => ?_
      walk_at "rd"
      have s35 : StAt H35 p l := by walk_at "at"
      have ib35 : Is [p] H35 (.ref pb) (natss (blk t d)) := by walk_at "at"
      have e035 : Ext [p] H H35 := by walk_at "at"
      clear e31 e32 ivb1 ivb2 e33 e34 h34 i34 e35 s30 s31 s32 s33 ib30 e030
      refine rd_mcut0 (M := [p]) (L := blk t d) (g := nats) (h := k) s35.als ib35 rfl fun p36 H36 hp36 e36 i36 => ?_
      walk_at "rd"
      refine rd_newL (M := [p]) (by walk_at "at") (by walk_at "all") (by simp) fun p37 H37 hp37 e37 h37 i37 => ?_
      walk_at "rd"
      refine rd_mcat (M := [p]) (g := nats) (L := (blk t d).take k) (L2 := [put ((blk t d).getD k []) a [vv]]) (by walk_at "at") (at_is0 e37 i36) i37 (by rw [List.length_take, List.length_singleton]; omega) fun p38 H38 hp38 e38 _ i38 => ?_
      walk_at "rd"
      refine rd_mcutN (M := [p]) (L := blk t d) (g := nats) (l := k + 1) (by walk_at "at") (by walk_at "at") rfl fun p39 H39 hp39 e39 i39 => ?_
      walk_at "rd"
      refine rd_mcat (M := [p]) (g := nats) (L := (blk t d).take k ++ [put ((blk t d).getD k []) a [vv]]) (L2 := (blk t d).drop (k + 1)) (by walk_at "at") (at_is0 e39 i38) i39 (by rw [List.length_append, List.length_take, List.length_singleton, List.length_drop]; omega) fun p40 H40 hp40 e40 _ i40 => ?_
      walk_at "rd"
      refine rd_dlen (M := [p]) (ds := (blk t d).map nats) (by walk_at "at") fun _ => ?_
      walk_at "rd"
      refine rd_mcut0 (M := [p]) (L := blk t d) (g := nats) (h := cnt d - 1) (by walk_at "at") (by walk_at "at") (by rw [List.length_map, hbl]; omega) fun p41 H41 hp41 e41 i41 => ?_
      walk_at "rd"
      refine rd_newL (M := [p]) (by walk_at "at") (by walk_at "all") (by simp) fun p42 H42 hp42 e42 h42 i42 => ?_
      walk_at "rd"
      have s42 : StAt H42 p l := by walk_at "at"
      have ib42 : Is [p] H42 (.ref pb) (natss (blk t d)) := by walk_at "at"
      have e042 : Ext [p] H H42 := by walk_at "at"
      clear e36 i36 e37 h37 i37 e38 i38 e39 i39 e40 i40 e41 i41 e42 h42 s35 ib35 e035
      refine rd_dlen (M := [p]) (ds := (blk t d).map nats) ib42 fun _ => ?_
      rw [List.length_map, hbl]
      walk_at "rd"
      refine rd_next s42 (by decide) (by decide) fun mo H43 hmo s43 e43 => ?_
      walk_at "rd"
      refine rd_fixed (M := [p]) (54 * cnt d - 3 + mo) 4 s43.als (by omega) rfl (by decide) fun pm H44 e44 i44 => ?_
      walk_at "rd"
      refine rd_mix (M := [p]) (L := blk t d) (g := nats) (j := 0) (by walk_at "at") rfl hg0 fun vb3 ivb3 => ?_
      obtain ⟨pb3, _, rfl, _⟩ := ivb3.listV
      walk_at "rd"
      refine rd_put (M := [p]) (s := (blk t d).getD 0 []) (d := wf (54 * cnt d - 3 + mo) 4) 10 (by walk_at "at") rfl (by walk_at "at") i44 (by omega) (by rw [wf_len]; decide) fun p45 H45 e45 i45 => ?_
      walk_at "rd"
      refine rd_newL (M := [p]) (by walk_at "at") (by walk_at "all") (by simp) fun p46 H46 hp46 e46 h46 i46 => ?_
      walk_at "rd"
      refine rd_mcutN (M := [p]) (L := blk t d) (g := nats) (l := 1) (by walk_at "at") (by walk_at "at") rfl fun p47 H47 hp47 e47 i47 => ?_
      walk_at "rd"
      refine rd_mcat (M := [p]) (g := nats) (L := [put ((blk t d).getD 0 []) 10 (wf (54 * cnt d - 3 + mo) 4)]) (L2 := (blk t d).drop 1) (by walk_at "at") (at_is0 e47 i46) i47 (by rw [List.length_singleton]; omega) fun p48 H48 hp48 e48 _ i48 => ?_
      walk_at "rd"
      refine rd_mix (M := [p]) (L := blk t d) (g := nats) (j := 0) (by walk_at "at") rfl hg0 fun vb4 ivb4 => ?_
      obtain ⟨pb4, _, rfl, _⟩ := ivb4.listV
      walk_at "rd"
      refine rd_newL (M := [p]) (by walk_at "at") (by walk_at "all") (by simp) fun p49 H49 hp49 e49 h49 i49 => ?_
      walk_at "rd"
      refine rd_put (M := [p]) (s := (blk t d).getD 0 []) (d := wf 0 4) 6 (by walk_at "at") rfl (by walk_at "at") i49 (by omega) (by rw [wf_len]; decide) fun p50 H50 e50 i50 => ?_
      walk_at "rd"
      refine rd_newL (M := [p]) (by walk_at "at") (by walk_at "all") (by simp) fun p51 H51 hp51 e51 h51 i51 => ?_
      walk_at "rd"
      refine rd_mcutN (M := [p]) (L := blk t d) (g := nats) (l := 1) (by walk_at "at") (by walk_at "at") rfl fun p52 H52 hp52 e52 i52 => ?_
      walk_at "rd"
      refine rd_mcat (M := [p]) (g := nats) (L := [put ((blk t d).getD 0 []) 6 (wf 0 4)]) (L2 := (blk t d).drop 1) (by walk_at "at") (at_is0 e52 i51) i52 (by rw [List.length_singleton]; omega) fun p53 H53 hp53 e53 _ i53 => ?_
      walk_at "rd"
      refine rd_newL (M := [p]) (by walk_at "at") (by walk_at "all") (by simp) fun p54 H54 hp54 e54 h54 i54 => ?_
      walk_at "rd"
      have s54 : StAt H54 p l := by walk_at "at"
      have ib54 : Is [p] H54 (.ref pb) (natss (blk t d)) := by walk_at "at"
      have i4254 : Is [p] H54 (.ref p42) (.list [natss (((blk t d).take k ++ [put ((blk t d).getD k []) a [vv]]) ++ (blk t d).drop (k + 1)), natss ((blk t d).take (cnt d - 1))]) := by walk_at "at"
      have e054 : Ext [p] H H54 := by walk_at "at"
      clear e43 e44 i44 ivb3 e45 i45 e46 h46 i46 e47 i47 e48 i48 ivb4 e49 h49 i49 e50 i50 e51 h51 i51 e52 i52 e53 i53 e54 h54 s42 s43 ib42 e042 i42
      refine rd_mcat (M := [p]) (g := natss) (L := [((blk t d).take k ++ [put ((blk t d).getD k []) a [vv]]) ++ (blk t d).drop (k + 1), (blk t d).take (cnt d - 1)]) (L2 := [[put ((blk t d).getD 0 []) 10 (wf (54 * cnt d - 3 + mo) 4)] ++ (blk t d).drop 1, [put ((blk t d).getD 0 []) 6 (wf 0 4)] ++ (blk t d).drop 1]) s54.als i4254 i54 (by simp) fun pX H55 hpX e55 hrawX i55 => ?_
      obtain ⟨xsX, hxX, rX⟩ := hrawX
      have mX : MadeN [p] [p] H54 pX _ H55 := ⟨fun b h => h, hpX, e55.any, s54.als.fresh hpX, xsX, hxX, rX⟩
      have s55 := s54.ext0 e55
      have ibX := mX.ofs ib54
      have hMX := mX.al s54.als
      walk_at "rd"
      refine rd_app hxX ?_
      walk_at "rd"
      refine rd_mix (M := [pX, p]) (L := blk t d) (g := nats) (j := 0) ibX rfl hg0 fun vb5 ivb5 => ?_
      obtain ⟨pb5, _, rfl, _⟩ := ivb5.listV
      walk_at "rd"
      refine rd_next s55 (by decide) (by decide) fun mp H56 hmp s56 e56 => ?_
      walk_at "rd"
      refine rd_dlen (M := [pX, p]) (ds := (blk t d).map nats) (at_is1 e56 ibX) fun _ => ?_
      rw [List.length_map, hbl]
      walk_at "rd"
      refine rd_fixed (M := [pX, p]) (256 * (1 + mp) + cnt d) 4 (at_al e56 hMX) (by omega) rfl (by decide) fun pf H57 e57 i57 => ?_
      walk_at "rd"
      refine rd_put (M := [pX, p]) (s := (blk t d).getD 0 []) (d := wf (256 * (1 + mp) + cnt d) 4) 6 (by walk_at "at") rfl (by walk_at "at") i57 (by omega) (by rw [wf_len]; decide) fun p58 H58 e58 i58 => ?_
      walk_at "rd"
      refine rd_newL (M := [pX, p]) (by walk_at "at") (by walk_at "all") (by simp) fun p59 H59 hp59 e59 h59 i59 => ?_
      walk_at "rd"
      refine rd_mcutN (M := [pX, p]) (L := blk t d) (g := nats) (l := 1) (by walk_at "at") (by walk_at "at") rfl fun p60 H60 hp60 e60 i60 => ?_
      walk_at "rd"
      refine rd_mcat (M := [pX, p]) (g := nats) (L := [put ((blk t d).getD 0 []) 6 (wf (256 * (1 + mp) + cnt d) 4)]) (L2 := (blk t d).drop 1) (by walk_at "at") (at_is0 e60 i59) i60 (by rw [List.length_singleton]; omega) fun p61 H61 hp61 e61 _ i61 => ?_
      have e5561 : Ext [p] H55 H61 := by walk_at "at"
      have s61 : StAt H61 p l := by walk_at "at"
      have hpXp : p ∉ [pX] := by
        rw [List.mem_singleton]
        exact (s54.ne_new hpX).symm
      have hpXl : l ∉ [pX] := by
        rw [List.mem_singleton]
        exact fun e => s54.al2 (by rw [e]; exact hpX)
      refine rd_appE mX e5561 i61 (by simp) fun acc m' => ?_
      have r1 := rb_wrong (t := t) (a := a) (v := vv) (k := k) ht hd hk ha hv256 hvne
      have r2 := rb_fewer (t := t) hd
      have r3 := rb_more (t := t) (r := mo) ht hd (by omega)
      have r4 := rb_count (t := t) (n := 0) (s := (blk t d).getD 0 []) (L := (blk t d).drop 1) h064 (by decide) (.inl rfl)
      have r5 := rb_count (t := t) (n := 256 * (1 + mp) + cnt d) (s := (blk t d).getD 0 []) (L := (blk t d).drop 1) h064 (by omega) (.inr (by omega))
      have c1 : ∀ s ∈ ((blk t d).take k ++ [put ((blk t d).getD k []) a [vv]]) ++ (blk t d).drop (k + 1), s.length ≤ 100 := fun s hs => by
        rcases List.mem_append.mp hs with hs | hs
        · rcases List.mem_append.mp hs with hs | hs
          · rw [hb64 s (List.mem_of_mem_take hs)]; decide
          · rw [List.mem_singleton.mp hs, put_len (by rw [List.length_singleton]; omega), hk64]; decide
        · rw [hb64 s (List.mem_of_mem_drop hs)]; decide
      have c2 : ∀ s ∈ (blk t d).take (cnt d - 1), s.length ≤ 100 := fun s hs => by rw [hb64 s (List.mem_of_mem_take hs)]; decide
      have c3 : ∀ (x : List Nat) (k : Nat), k + x.length ≤ 64 → ∀ s ∈ [put ((blk t d).getD 0 []) k x] ++ (blk t d).drop 1, s.length ≤ 100 := fun x k h s hs => by
        rcases List.mem_append.mp hs with hs | hs
        · rw [List.mem_singleton.mp hs, hp64 _ _ h]; decide
        · rw [hb64 s (List.mem_of_mem_drop hs)]; decide
      have c4 := c3 (wf (54 * cnt d - 3 + mo) 4) 10 (by rw [wf_len]; decide)
      have c5 := c3 (wf 0 4) 6 (by rw [wf_len]; decide)
      have c6 := c3 (wf (256 * (1 + mp) + cnt d) 4) 6 (by rw [wf_len]; decide)
      have d1 : (((blk t d).take k ++ [put ((blk t d).getD k []) a [vv]]) ++ (blk t d).drop (k + 1)).length ≤ 100 := by rw [List.length_append, List.length_append, List.length_take, List.length_drop, List.length_singleton]; omega
      have d2' : ((blk t d).take (cnt d - 1)).length ≤ 100 := by rw [List.length_take]; omega
      have d3 : ∀ x : List Nat, ([x] ++ (blk t d).drop 1).length ≤ 100 := fun x => by rw [List.length_append, List.length_singleton]; omega
      have d4 := d3 (put ((blk t d).getD 0 []) 10 (wf (54 * cnt d - 3 + mo) 4))
      have d5 := d3 (put ((blk t d).getD 0 []) 6 (wf 0 4))
      have d6 := d3 (put ((blk t d).getD 0 []) 6 (wf (256 * (1 + mp) + cnt d) 4))
      have im := m'.is
      have e0F := e054.trans m'.ext
      have sF : StAt (upd H61 pX (.lst (acc ++ [.ref p61]))) p l := s61.ext (M := [pX]) (.set (by simp)) hpXp hpXl
      clear m' e5561 e61 i61 e60 i60 e59 h59 i59 e58 i58 e57 i57 e56 ivb5 mX ibX hMX s54 s55 s56 s61 ib54 i4254 e054 i55 e55 hxX rX c3 d3
      generalize upd H61 pX (.lst (acc ++ [.ref p61])) = HF at im e0F sF ⊢
      generalize ((blk t d).take k ++ [put ((blk t d).getD k []) a [vv]]) ++ (blk t d).drop (k + 1) = A1 at im r1 c1 d1 ⊢
      generalize (blk t d).take (cnt d - 1) = A2 at im r2 c2 d2' ⊢
      generalize [put ((blk t d).getD 0 []) 10 (wf (54 * cnt d - 3 + mo) 4)] ++ (blk t d).drop 1 = A3 at im r3 c4 d4 ⊢
      generalize [put ((blk t d).getD 0 []) 6 (wf 0 4)] ++ (blk t d).drop 1 = A4 at im r4 c5 d5 ⊢
      generalize [put ((blk t d).getD 0 []) 6 (wf (256 * (1 + mp) + cnt d) 4)] ++ (blk t d).drop 1 = A5 at im r5 c6 d6 ⊢
      have im' : Is [p] HF (.ref pX) (.list ([A1, A2, A3, A4, A5].map natss)) := im
      clear im
      walk_at "rd"
      intro D2 hD2
      refine q_lcM (M := [p]) (g := natss) (L := [A1, A2, A3, A4, A5]) (fun S => rbD S t) sF.als hD2 im' (by simp) (fun _ => rfl) (fun x S H' hS sD e ix R k => ?_) fun HG eG iG => ?_
      · obtain ⟨px, xs, rfl, _⟩ := ix.listV
        have hSS : S.length ≤ 100 ∧ ∀ s ∈ S, s.length ≤ 100 := by
          simp only [List.mem_cons, List.not_mem_nil, or_false] at hS
          rcases hS with rfl | rfl | rfl | rfl | rfl
          · exact ⟨d1, c1⟩
          · exact ⟨d2', c2⟩
          · exact ⟨d4, c4⟩
          · exact ⟨d5, c5⟩
          · exact ⟨d6, c6⟩
        walk_at "rd"
        exact ⟨_, px, S, t, rfl, ix, hSS.1, hSS.2, sD, fun v H2 e2 i2 => k v H2 e2 i2⟩
      · have ed : [A1, A2, A3, A4, A5].map (fun S => rbD S t) = [.none, .none, .none, .none, .none] := by
          simp only [List.map_cons, List.map_nil, rbD_none r1, rbD_none r2, rbD_none r3, rbD_none r4, rbD_none r5]
        rw [ed] at iG
        walk_at "rd"
        refine rd_newL (M := [p]) (by walk_at "at") (by walk_at "all") (by simp) fun pz Hz hpz ez hz iz => ?_
        walk_at "rd"
        have hsh : Sh 1 (.list [.none, .none, .none, .none, .none]) := Sh.list fun d hd => by
          simp only [List.mem_cons, List.not_mem_nil, or_false] at hd
          rcases hd with rfl | rfl | rfl | rfl | rfl <;> exact .non
        refine rd_eqD (at_is0 ez iG) iz hsh.ok hsh.ok ?_
        rw [hsh.refl]
        exact q _ (by walk_at "at") (e0F.trans (eG.any.trans ez.any))
end
def sp_law (K : PySem.W.Frag) : Sp := fun vs H Q _ => ∃ (a : Addr) (ns : List Int), vs = [.ref a] ∧ SqL K H a (ns.map V.int) ∧ ns.length ≤ 63 ∧ Only H ∧ ∀ H', Q (.bl true) H'
section
variable {P : Program} {w : World} {K : PySem.W.Frag} {mg : Str → Option Value} {base : Heap}
theorem law_end {fa : Addr} (T : Txt K mg) (hmg : mg "law" = some (.ref fa)) :
    ∃ fd : FuncData, (∀ (s : Shared) (v : Value), BindsTo s fd ⟨[v], []⟩ [("script", v)]) ∧ ∀ base : Heap, FnOk P w K mg base CX0 5 fa fd ["script"] (sp_law K) := by
  refine T.f_law.law hmg sc_law bd_law (fun vs H Q E h => ?_) fun base f cdv A outer s H vs Q E hr h => ?_
  · obtain ⟨a, ns, rfl, _⟩ := h; rfl
  obtain ⟨a, ns, rfl, hS, hl63, hO, k⟩ := h
  refine ⟨_, (pss_cons (ps_set (i := 1) sc_law.nd rfl (Or.inl rfl) (pe_lst (pa_cons (pe_callTy (call_listK K) (by rfl) T.z_list (by decide +kernel) (pa_cons (pv 0) pa_nil)) (pa_cons pe_int (pa_cons pe_int (pa_cons pe_int pa_nil))))))
      (pss_cons (ps_for PassesOwn.never rfl (pi_range1 rfl T.z_range (pa_cons pe_int pa_nil)) (pg_name (i := 2) sc_law.nd rfl (Or.inl rfl))
      (pss_one (ps_if (PW.pt (pw_or (pt_not (pt_val (pe_c (ok_law_asks_block T) hr (by decide) rfl (pa_cons (pv 1) pa_nil)))) (pw_or (pt_not (pt_val (pe_c (ok_law_asks_head T) hr (by decide) rfl (pa_cons (pv 1) pa_nil)))) (pw_or1 (pt_not (pt_val (pe_c (ok_law_asks_places T) hr (by decide) rfl (pa_cons (pe_op op_add pe_int (pe_c (ok_law_next T) hr (by decide) rfl (pa_cons (pv 1) (pa_cons pe_int pa_nil)))) pa_nil)))))))) (pss_one (ps_ret pe_bl)) pss_nil)))
      (pss_one (ps_ret pe_bl)))), ?_⟩
  walk_at "k"
  walk_at "rd"
  refine rd_listL hS fun l0 hl0 => ?_
  walk_at "rd"
  refine ⟨szl (by simp), fun p hp => ?_⟩
  walk_at "rd"
  have hne : p ≠ l0 := fun e => by rw [e, upd_same] at hp; cases hp
  refine q_range (fun i σ H' => ∃ x : Option V, σ = [some (.ref a), some (.ref p), x] ∧ StAt H' p l0) ⟨none, rfl, ⟨ns, 0, 0, 1, upd_same, by rw [upd_ne hne.symm, upd_same], by decide, by omega, by decide⟩, hne⟩ ?_ ?_
  · rintro i σ H' hi ⟨x, rfl, s0⟩
    walk_at "rd"
    refine ⟨p, l0, rfl, s0, fun H1 s1 e1 => ?_⟩
    walk_at "rd"
    refine ⟨p, l0, rfl, s1, fun H2 s2 e2 => ?_⟩
    walk_at "rd"
    refine rd_next s2 (by decide) (by decide) fun v H3 hv s3 e3 => ?_
    walk_at "rd"
    have ev : (60 : Int) + (v : Int) = ((60 + v : Nat) : Int) := by omega
    rw [ev]
    refine ⟨60 + v, rfl, by omega, fun H4 e4 => ?_⟩
    walk_at "rd"
    exact ⟨_, rfl, s3.ext0 e4⟩
  · rintro σ H' ⟨x, rfl, s0⟩
    walk_at "rd"
    exact k _
end
def d_fixed : He.DefD := ⟨("fixed", none), "fixed", "fixed", defArgs s_fixed, defBody s_fixed, defScope s_fixed, [], []⟩
def d_number_of : He.DefD := ⟨("number_of", none), "number_of", "number_of", defArgs s_number_of, defBody s_number_of, defScope s_number_of, [], []⟩
def d_turn_of : He.DefD := ⟨("turn_of", none), "turn_of", "turn_of", defArgs s_turn_of, defBody s_turn_of, defScope s_turn_of, [], []⟩
def d_write_block : He.DefD := ⟨("write_block", none), "write_block", "write_block", defArgs s_write_block, defBody s_write_block, defScope s_write_block, [], []⟩
def d_read_block : He.DefD := ⟨("read_block", none), "read_block", "read_block", defArgs s_read_block, defBody s_read_block, defScope s_read_block, [], []⟩
def d_area_size : He.DefD := ⟨("area_size", none), "area_size", "area_size", defArgs s_area_size, defBody s_area_size, defScope s_area_size, [], []⟩
def d_area_start : He.DefD := ⟨("area_start", none), "area_start", "area_start", defArgs s_area_start, defBody s_area_start, defScope s_area_start, [], []⟩
def d_head : He.DefD := ⟨("head", none), "head", "head", defArgs s_head, defBody s_head, defScope s_head, [], []⟩
def d_read_head : He.DefD := ⟨("read_head", none), "read_head", "read_head", defArgs s_read_head, defBody s_read_head, defScope s_read_head, [], []⟩
def d_law_next : He.DefD := ⟨("_law_next", none), "_law_next", "_law_next", defArgs s_law_next, defBody s_law_next, defScope s_law_next, [], []⟩
def d_law_same : He.DefD := ⟨("_law_same", none), "_law_same", "_law_same", defArgs s_law_same, defBody s_law_same, defScope s_law_same, [], []⟩
def d_law_fixed : He.DefD := ⟨("_law_fixed", none), "_law_fixed", "_law_fixed", defArgs s_law_fixed, defBody s_law_fixed, defScope s_law_fixed, [], []⟩
def d_law_block : He.DefD := ⟨("_law_block", none), "_law_block", "_law_block", defArgs s_law_block, defBody s_law_block, defScope s_law_block, [], []⟩
def d_law_turn : He.DefD := ⟨("_law_turn", none), "_law_turn", "_law_turn", defArgs s_law_turn, defBody s_law_turn, defScope s_law_turn, [], []⟩
def d_law_bytes : He.DefD := ⟨("_law_bytes", none), "_law_bytes", "_law_bytes", defArgs s_law_bytes, defBody s_law_bytes, defScope s_law_bytes, [], []⟩
def d_law_put : He.DefD := ⟨("_law_put", none), "_law_put", "_law_put", defArgs s_law_put, defBody s_law_put, defScope s_law_put, [], []⟩
def d_law_asks_block : He.DefD := ⟨("_law_asks_block", none), "_law_asks_block", "_law_asks_block", defArgs s_law_asks_block, defBody s_law_asks_block, defScope s_law_asks_block, [], []⟩
def d_law_asks_head : He.DefD := ⟨("_law_asks_head", none), "_law_asks_head", "_law_asks_head", defArgs s_law_asks_head, defBody s_law_asks_head, defScope s_law_asks_head, [], []⟩
def d_law_asks_places : He.DefD := ⟨("_law_asks_places", none), "_law_asks_places", "_law_asks_places", defArgs s_law_asks_places, defBody s_law_asks_places, defScope s_law_asks_places, [], []⟩
def d_law : He.DefD := ⟨("law", none), "law", "law", defArgs s_law, defBody s_law, defScope s_law, [], []⟩
def fn : List He.DefD := [d_fixed, d_number_of, d_turn_of, d_write_block, d_read_block, d_area_size, d_area_start, d_head, d_read_head, d_law_next, d_law_same, d_law_fixed, d_law_block, d_law_turn, d_law_bytes, d_law_put, d_law_asks_block, d_law_asks_head, d_law_asks_places, d_law]
def fa : List He.Fa := [.glo "fixed", .glo "number_of", .glo "turn_of", .glo "write_block", .glo "read_block", .glo "area_size", .glo "area_start", .glo "head", .glo "read_head", .glo "_law_next", .glo "_law_same", .glo "_law_fixed", .glo "_law_block", .glo "_law_turn", .glo "_law_bytes", .glo "_law_put", .glo "_law_asks_block", .glo "_law_asks_head", .glo "_law_asks_places", .glo "law", .int "PIECE" 54, .glo "MARK", .int "HEAD_ZEROS" 53, .free "bool", .free "int", .free "isinstance", .free "len", .free "list", .free "range", .free "str", .free "tuple"]
def exs : List (PySem.W.Frag → Bool) := [fun K => plB K "MARK" [.int 82, .int 85, .int 76, .int 69]]
def ex (K : PySem.W.Frag) : Bool := exs.all fun f => f K
theorem txt_of {K : PySem.W.Frag} {h : Heap} {mg : Str → Option Value} (X : K.In h) (G : h.Ns mainGlobals mg) (c : He.SaysD fa fn K) (cx : ex K = true) : Txt K mg where
  f_fixed := by obtain ⟨fd, F⟩ := c.def_ 0 (d := d_fixed) rfl; exact ⟨_, fd, F, He.glo_ok X G (c.fact 0 (f := .glo "fixed") rfl)⟩
  f_number_of := by obtain ⟨fd, F⟩ := c.def_ 1 (d := d_number_of) rfl; exact ⟨_, fd, F, He.glo_ok X G (c.fact 1 (f := .glo "number_of") rfl)⟩
  f_turn_of := by obtain ⟨fd, F⟩ := c.def_ 2 (d := d_turn_of) rfl; exact ⟨_, fd, F, He.glo_ok X G (c.fact 2 (f := .glo "turn_of") rfl)⟩
  f_write_block := by obtain ⟨fd, F⟩ := c.def_ 3 (d := d_write_block) rfl; exact ⟨_, fd, F, He.glo_ok X G (c.fact 3 (f := .glo "write_block") rfl)⟩
  f_read_block := by obtain ⟨fd, F⟩ := c.def_ 4 (d := d_read_block) rfl; exact ⟨_, fd, F, He.glo_ok X G (c.fact 4 (f := .glo "read_block") rfl)⟩
  f_area_size := by obtain ⟨fd, F⟩ := c.def_ 5 (d := d_area_size) rfl; exact ⟨_, fd, F, He.glo_ok X G (c.fact 5 (f := .glo "area_size") rfl)⟩
  f_area_start := by obtain ⟨fd, F⟩ := c.def_ 6 (d := d_area_start) rfl; exact ⟨_, fd, F, He.glo_ok X G (c.fact 6 (f := .glo "area_start") rfl)⟩
  f_head := by obtain ⟨fd, F⟩ := c.def_ 7 (d := d_head) rfl; exact ⟨_, fd, F, He.glo_ok X G (c.fact 7 (f := .glo "head") rfl)⟩
  f_read_head := by obtain ⟨fd, F⟩ := c.def_ 8 (d := d_read_head) rfl; exact ⟨_, fd, F, He.glo_ok X G (c.fact 8 (f := .glo "read_head") rfl)⟩
  f_law_next := by obtain ⟨fd, F⟩ := c.def_ 9 (d := d_law_next) rfl; exact ⟨_, fd, F, He.glo_ok X G (c.fact 9 (f := .glo "_law_next") rfl)⟩
  f_law_same := by obtain ⟨fd, F⟩ := c.def_ 10 (d := d_law_same) rfl; exact ⟨_, fd, F, He.glo_ok X G (c.fact 10 (f := .glo "_law_same") rfl)⟩
  f_law_fixed := by obtain ⟨fd, F⟩ := c.def_ 11 (d := d_law_fixed) rfl; exact ⟨_, fd, F, He.glo_ok X G (c.fact 11 (f := .glo "_law_fixed") rfl)⟩
  f_law_block := by obtain ⟨fd, F⟩ := c.def_ 12 (d := d_law_block) rfl; exact ⟨_, fd, F, He.glo_ok X G (c.fact 12 (f := .glo "_law_block") rfl)⟩
  f_law_turn := by obtain ⟨fd, F⟩ := c.def_ 13 (d := d_law_turn) rfl; exact ⟨_, fd, F, He.glo_ok X G (c.fact 13 (f := .glo "_law_turn") rfl)⟩
  f_law_bytes := by obtain ⟨fd, F⟩ := c.def_ 14 (d := d_law_bytes) rfl; exact ⟨_, fd, F, He.glo_ok X G (c.fact 14 (f := .glo "_law_bytes") rfl)⟩
  f_law_put := by obtain ⟨fd, F⟩ := c.def_ 15 (d := d_law_put) rfl; exact ⟨_, fd, F, He.glo_ok X G (c.fact 15 (f := .glo "_law_put") rfl)⟩
  f_law_asks_block := by obtain ⟨fd, F⟩ := c.def_ 16 (d := d_law_asks_block) rfl; exact ⟨_, fd, F, He.glo_ok X G (c.fact 16 (f := .glo "_law_asks_block") rfl)⟩
  f_law_asks_head := by obtain ⟨fd, F⟩ := c.def_ 17 (d := d_law_asks_head) rfl; exact ⟨_, fd, F, He.glo_ok X G (c.fact 17 (f := .glo "_law_asks_head") rfl)⟩
  f_law_asks_places := by obtain ⟨fd, F⟩ := c.def_ 18 (d := d_law_asks_places) rfl; exact ⟨_, fd, F, He.glo_ok X G (c.fact 18 (f := .glo "_law_asks_places") rfl)⟩
  f_law := by obtain ⟨fd, F⟩ := c.def_ 19 (d := d_law) rfl; exact ⟨_, fd, F, He.glo_ok X G (c.fact 19 (f := .glo "law") rfl)⟩
  g_PIECE := by obtain ⟨t, e⟩ := He.int_ok X G (c.fact 20 (f := .int "PIECE" 54) rfl); exact ⟨_, e, t, rfl⟩
  t_MARK := ⟨He.glo_ok X G (c.fact 21 (f := .glo "MARK") rfl), fun H => (plB_ok (ex_at (exs := exs) cx 0)).sq H⟩
  p_MARK := plB_ok (ex_at (exs := exs) cx 0)
  g_HEAD_ZEROS := by obtain ⟨t, e⟩ := He.int_ok X G (c.fact 22 (f := .int "HEAD_ZEROS" 53) rfl); exact ⟨_, e, t, rfl⟩
  z_bool := He.free_ok X G (c.fact 23 (f := .free "bool") rfl)
  z_int := He.free_ok X G (c.fact 24 (f := .free "int") rfl)
  z_isinstance := He.free_ok X G (c.fact 25 (f := .free "isinstance") rfl)
  z_len := He.free_ok X G (c.fact 26 (f := .free "len") rfl)
  z_list := He.free_ok X G (c.fact 27 (f := .free "list") rfl)
  z_range := He.free_ok X G (c.fact 28 (f := .free "range") rfl)
  z_str := He.free_ok X G (c.fact 29 (f := .free "str") rfl)
  z_tuple := He.free_ok X G (c.fact 30 (f := .free "tuple") rfl)
def loose : List Str := (["PIECE", "MARK", "HEAD_ZEROS", "fixed", "number_of", "turn_of", "write_block", "read_block", "area_size", "area_start", "head", "read_head", "_law_next", "_law_same", "_law_fixed", "_law_block", "_law_turn", "_law_bytes", "_law_put", "_law_asks_block", "_law_asks_head", "_law_asks_places"] : List Str)
abbrev R : PySem.W.OpenRow := PySem.W.OpenLaw.row PySem.Challenge.rw_steadwhole_k49_blocks_and_heads
abbrev hk : PySem.W.Hook := hookX 5 fa fn ex
def ob (s : PySem.W.SharedT) : He.AlD × Bool := obsX 5 fa fn ex (HandSHeadRun.getT s)
theorem ob_eq (s : PySem.W.SharedT) : ob s = hk.obs s.abs := obsX_eq (HandSHeadRun.getT_eq s)
theorem run (w : World) : HandSHeadRun.RunEq R (PySem.W.view R.prog [24]) hk ob 2000 loose w := by
  intro os
  kernel_rfl
end Z
open PySem PySem.W PySem.Calls PyProof.Rows
theorem PySem.Challenge.cw_steadwhole_k49_blocks_and_heads_holds : PySem.Challenge.rw_steadwhole_k49_blocks_and_heads.Holds := by
  w_on; o_law
  refine HandSHeadRun.head_any (r := OpenLaw.row PySem.Challenge.rw_steadwhole_k49_blocks_and_heads) (q := view (OpenLaw.row PySem.Challenge.rw_steadwhole_k49_blocks_and_heads).prog [24]) (H := Z.hk) (ob := Z.ob) (M := 2000) (loose := Z.loose) (d := HandSHeadRun.topDef (OpenLaw.row PySem.Challenge.rw_steadwhole_k49_blocks_and_heads).prog 24) (kwd := []) Z.ob_eq
    (by kernel_rfl) (fun s => by kernel_rfl) Z.run (by kernel_rfl) (by kernel_rfl) (by kernel_rfl) (by rfl) (by first | assumption | decide +kernel) (by decide +kernel) ⟨rfl, rfl, rfl, rfl, rfl, by decide +kernel⟩ ?hw ?hc
  case hw => w_witness2
  case hc =>
    refine L2.walk_ofE (l := PySem.Challenge.rw_steadwhole_k49_blocks_and_heads) (n := 63) (k := 5) (x := "script") (CX := L2.CX0) rfl (by decide) (by kernel_rfl) ⟨rfl, by decide, by decide⟩ ?F (fun _ _ _ _ z => z)
    intro w mg fa h Y G hmg0
    obtain ⟨K, KX, c, cx⟩ := Y
    have hmg : mg ("law" : PySem.Str) = some (.ref fa) := by
      have e : (HandSHeadRun.topDef (OpenLaw.row PySem.Challenge.rw_steadwhole_k49_blocks_and_heads).prog 24).name = ("law" : PySem.Str) := by kernel_rfl
      rw [← e]
      exact hmg0
    have T : Z.Txt K mg := Z.txt_of KX G c cx
    obtain ⟨fd, hb, hF⟩ := Z.law_end (P := (PySem.Challenge.rw_steadwhole_k49_blocks_and_heads).prog) (w := w) T hmg
    exact ⟨K, fd, Z.sp_law K, KX, hb, fun H a ns hl hO hS => ⟨a, ns, rfl, hS, hl, hO, fun _ => rfl⟩, fun base _ _ => hF base⟩

