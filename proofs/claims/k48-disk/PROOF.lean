import PyProof.Rows.All
import Wide.All
import OpenK.AllK
import Wide.FinOn
import HandS.ForMost
import HandS.Text
import HandS.Codes
import HandS.Defaults
import HandS.IsInst
import HandS.Style
import HandS.Head0
import HandS.Head1
import HandS.Head2
import HandS.HeadEnd
import HandS.HeadHook1
import HandS.HeadHook2
import HandS.Wide
import HandS.ExcOwn
import HandS.TryOnly
import HandS.ExcIs
import HandS.WordsExc
import HandS.Dict
import HandS.TupLe
import HandS.Zip
import HandS.TupAny
import HandS.TupMul
import HandS.Iter
import PyProof.StrBlock2
import PyProof.P3In
import PyProof.DictUpdate
import KE.KxText
import PySem.Challenge.RW_steadwhole_k48_disk_keeps_what_was_synce
set_option Elab.async false
set_option linter.all false
set_option maxRecDepth 100000
set_option maxHeartbeats 4000000
namespace Z
/-! ### the layer of this claim: defs by names, short rules of reading -/
open PySem PySem.Spec PyProof.Rows L2
set_option autoImplicit false
abbrev BindAll (x qual : Str) (st : Stmt) (ps : List Str) : Prop := ∀ (kV doc pm : Value) (an : Option Addr) (cdv ct : Value) (us : List Value), us.length = ps.length →
  bindArgs (PySem.W.fnOf x qual (defArgs st) (defBody st) (defScope st) .none kV doc pm an cdv ct) ⟨us, []⟩ = pure (ps.zip us)
structure GFun (K : PySem.W.Frag) (mg : Str → Option Value) (x : Str) (st : Stmt) : Prop where
  ex : ∃ (f : Addr) (fd : FuncData), FunD K x x (defArgs st) (defBody st) (defScope st) [] [] f fd ∧ mg x = some (.ref f)
structure GMet (K : PySem.W.Frag) (C : Addr) (m qual : Str) (st : Stmt) : Prop where
  ex : ∃ (f : Addr) (fd : FuncData), FunD K m qual (defArgs st) (defBody st) (defScope st) [] [] f fd ∧ Cls K C ∧ Meth K C m f
/-- a def that may be called by its name (CX: what it may let out) -/
structure CalX (CX : CXT) (P : Program) (w : World) (K : PySem.W.Frag) (mg : Str → Option Value) (base : Heap) (k : Nat) (x : Str) (sp : Sp) (dvs : List V) : Prop where
  ex : ∃ (f : Addr) (fd : FuncData) (ps : List Str) (ds : List Value), FnOk P w K mg base CX k f fd ps sp ∧ mg x = some (.ref f) ∧ PySem.W.keepIn K (.ref f) = true ∧ Binds K fd ps ds ∧ Vals dvs ds
structure MetX (CX : CXT) (P : Program) (w : World) (K : PySem.W.Frag) (mg : Str → Option Value) (base : Heap) (k : Nat) (C : Addr) (m : Str) (sp : Sp) (dvs : List V) : Prop where
  ex : ∃ (f : Addr) (fd : FuncData) (ps : List Str) (ds : List Value), Cls K C ∧ Meth K C m f ∧ FnOk P w K mg base CX k f fd ps sp ∧ Binds K fd ps ds ∧ Vals dvs ds
structure MakX (CX : CXT) (P : Program) (w : World) (K : PySem.W.Frag) (mg : Str → Option Value) (base : Heap) (k : Nat) (x : Str) (C : Addr) (sp : Sp) (dvs : List V) : Prop where
  ex : ∃ (f : Addr) (fd : FuncData) (ps : List Str) (ds : List Value), Mk K C f ∧ FnOk P w K mg base CX k f fd ps sp ∧ mg x = some (.ref C) ∧ Binds K fd ps ds ∧ Vals dvs ds
abbrev Cal := CalX CX0
abbrev Met := MetX CX0
abbrev Mak := MakX CX0
section
variable {P : Program} {w : World} {K : PySem.W.Frag} {mg : Str → Option Value} {base : Heap} {x qual m : Str} {st : Stmt} {N ps : List Str} {k : Nat} {sp : Sp} {C : Addr}
theorem fnd_ok {f : Addr} {fd : FuncData} (F : FunD K x qual (defArgs st) (defBody st) (defScope st) [] [] f fd) (S : FnScope N ps (defScope st)) (len : ∀ vs H Q E, sp vs H Q E → vs.length = ps.length)
    (hbody : ∀ (cdv : Value) (A : Around) (outer : List Env) (s : Shared) (H : Hp) (vs : List V) (Q : VK) (E : XK), Room k (A.deeper (envOfC qual (defScope st) s.heap.objs.size f cdv)) → sp vs H Q E →
      ∃ t, PSs (cxOf CX0 P w K mg base N qual (defScope st) f cdv A outer s H E).nox (defBody st) t ∧ t { nx := fun _ H' => Q .non H', rt := Q } (start N vs) H) : FnOk P w K mg base CX0 (k + 1) f fd ps sp :=
  F.ok S len fun cdv A outer s H vs Q E hr h => by
    obtain ⟨t, h1, h2⟩ := hbody cdv A outer s H vs Q E hr h
    exact ⟨t, h1.nox, h2⟩
theorem GFun.cal (g : GFun K mg x st) (S : FnScope N ps (defScope st)) (b : BindAll x x st ps) (len : ∀ vs H Q E, sp vs H Q E → vs.length = ps.length)
    (hbody : ∀ (f : Addr) (cdv : Value) (A : Around) (outer : List Env) (s : Shared) (H : Hp) (vs : List V) (Q : VK) (E : XK), Room k (A.deeper (envOfC x (defScope st) s.heap.objs.size f cdv)) → sp vs H Q E →
      ∃ t, PSs (cxOf CX0 P w K mg base N x (defScope st) f cdv A outer s H E).nox (defBody st) t ∧ t { nx := fun _ H' => Q .non H', rt := Q } (start N vs) H) : Cal P w K mg base (k + 1) x sp [] := by
  obtain ⟨f, fd, F, hm⟩ := g.ex
  exact ⟨f, fd, ps, [], fnd_ok F S len (hbody f), hm, F.kp, F.bindsN b, .nil⟩
theorem GMet.met (g : GMet K C m qual st) (S : FnScope N ps (defScope st)) (b : BindAll m qual st ps) (len : ∀ vs H Q E, sp vs H Q E → vs.length = ps.length)
    (hbody : ∀ (f : Addr) (cdv : Value) (A : Around) (outer : List Env) (s : Shared) (H : Hp) (vs : List V) (Q : VK) (E : XK), Room k (A.deeper (envOfC qual (defScope st) s.heap.objs.size f cdv)) → sp vs H Q E →
      ∃ t, PSs (cxOf CX0 P w K mg base N qual (defScope st) f cdv A outer s H E).nox (defBody st) t ∧ t { nx := fun _ H' => Q .non H', rt := Q } (start N vs) H) : Met P w K mg base (k + 1) C m sp [] := by
  obtain ⟨f, fd, F, c, hm⟩ := g.ex
  exact ⟨f, fd, ps, [], c, hm, fnd_ok F S len (hbody f), F.bindsN b, .nil⟩
theorem GFun.law {fa : Addr} (g : GFun K mg "law" st) (hmg : mg "law" = some (.ref fa)) (S : FnScope N ["script"] (defScope st)) (b : BindAll "law" "law" st ["script"]) (len : ∀ vs H Q E, sp vs H Q E → vs.length = 1)
    (hbody : ∀ (base : Heap) (f : Addr) (cdv : Value) (A : Around) (outer : List Env) (s : Shared) (H : Hp) (vs : List V) (Q : VK) (E : XK), Room k (A.deeper (envOfC "law" (defScope st) s.heap.objs.size f cdv)) → sp vs H Q E →
      ∃ t, PSs (cxOf CX0 P w K mg base N "law" (defScope st) f cdv A outer s H E).nox (defBody st) t ∧ t { nx := fun _ H' => Q .non H', rt := Q } (start N vs) H) :
    ∃ fd : FuncData, (∀ (s : Shared) (v : Value), BindsTo s fd ⟨[v], []⟩ [("script", v)]) ∧ ∀ base : Heap, FnOk P w K mg base CX0 (k + 1) fa fd ["script"] sp := by
  obtain ⟨f, fd, F, hm⟩ := g.ex
  have e := hmg.symm.trans hm
  cases e
  exact ⟨fd, fun s v => F.bindsA (ps := ["script"]) b s [v] rfl, fun base => fnd_ok F S len (hbody base fa)⟩
end
section
variable {X : Cx} {k j : Nat} {C : Addr} {x m : Str} {sp : Sp} {dvs : List V} {p pos apos : Pos}
theorem pe_cX {CX : CXT} {E : XK} {e : Expr} {es : List Expr} {t : TA} (c : CalX CX X.prog X.w X.K X.mg X.base k x sp dvs) (hr : Room j X.A) (hk : k ≤ j) (hx : Passes CX X E) (hg : Gl X x) (ha : PA X (e :: es) t)
    (hdb : (x == ("__debug__" : Str)) = false := by decide) (he : starEach (e :: es) X.env = (false, eval e X.env) :: starEach es X.env := by rfl) (hpl : (backTo pos (starEach es X.env)).any (·.1) = false := by rfl) :
    PE X (.Call (.Name x p) (e :: es) [] pos) (tCall sp dvs E t) := by
  obtain ⟨f, fd, ps, ds, F, hm, kp, b, d⟩ := c.ex
  exact pe_call F (hr.mono hk) hg hm kp b d hx ha hdb he hpl
theorem pe_cX0 {CX : CXT} {E : XK} (c : CalX CX X.prog X.w X.K X.mg X.base k x sp dvs) (hr : Room j X.A) (hk : k ≤ j) (hx : Passes CX X E) (hg : Gl X x) (hdb : (x == ("__debug__" : Str)) = false := by decide) :
    PE X (.Call (.Name x p) [] [] pos) (tCall sp dvs E tNil) := by
  obtain ⟨f, fd, ps, ds, F, hm, kp, b, d⟩ := c.ex
  exact pe_call0 F (hr.mono hk) hg hm kp b d hx hdb
theorem pe_c {e : Expr} {es : List Expr} {t : TA} (c : Cal X.prog X.w X.K X.mg X.base k x sp dvs) (hr : Room j X.A) (hk : k ≤ j) (hg : Gl X x) (ha : PA X (e :: es) t)
    (hdb : (x == ("__debug__" : Str)) = false := by decide) (he : starEach (e :: es) X.env = (false, eval e X.env) :: starEach es X.env := by rfl) (hpl : (backTo pos (starEach es X.env)).any (·.1) = false := by rfl) :
    PE X (.Call (.Name x p) (e :: es) [] pos) (tCall sp dvs E0 t) := pe_cX c hr hk pass0 hg ha hdb he hpl
theorem pe_c0 (c : Cal X.prog X.w X.K X.mg X.base k x sp dvs) (hr : Room j X.A) (hk : k ≤ j) (hg : Gl X x) (hdb : (x == ("__debug__" : Str)) = false := by decide) :
    PE X (.Call (.Name x p) [] [] pos) (tCall sp dvs E0 tNil) := pe_cX0 c hr hk pass0 hg hdb
theorem pe_mkX {CX : CXT} {E : XK} {e : Expr} {es : List Expr} {t : TA} (c : MakX CX X.prog X.w X.K X.mg X.base k x C sp dvs) (hr : Room j X.A) (hk : k + 1 ≤ j) (hx : Passes CX X E) (hg : Gl X x) (ha : PA X (e :: es) t)
    (hdb : (x == ("__debug__" : Str)) = false := by decide) (he : starEach (e :: es) X.env = (false, eval e X.env) :: starEach es X.env := by rfl) (hpl : (backTo pos (starEach es X.env)).any (·.1) = false := by rfl) :
    PE X (.Call (.Name x p) (e :: es) [] pos) (tMake C sp dvs E t) := by
  obtain ⟨f, fd, ps, ds, M, F, hm, b, d⟩ := c.ex
  exact pe_make M F (hr.mono hk) hg hm b d hx ha hdb he hpl
theorem pe_mkX0 {CX : CXT} {E : XK} (c : MakX CX X.prog X.w X.K X.mg X.base k x C sp dvs) (hr : Room j X.A) (hk : k + 1 ≤ j) (hx : Passes CX X E) (hg : Gl X x) (hdb : (x == ("__debug__" : Str)) = false := by decide) :
    PE X (.Call (.Name x p) [] [] pos) (tMake C sp dvs E tNil) := by
  obtain ⟨f, fd, ps, ds, M, F, hm, b, d⟩ := c.ex
  exact pe_make0 M F (hr.mono hk) hg hm b d hx hdb
theorem pe_mk {e : Expr} {es : List Expr} {t : TA} (c : Mak X.prog X.w X.K X.mg X.base k x C sp dvs) (hr : Room j X.A) (hk : k + 1 ≤ j) (hg : Gl X x) (ha : PA X (e :: es) t)
    (hdb : (x == ("__debug__" : Str)) = false := by decide) (he : starEach (e :: es) X.env = (false, eval e X.env) :: starEach es X.env := by rfl) (hpl : (backTo pos (starEach es X.env)).any (·.1) = false := by rfl) :
    PE X (.Call (.Name x p) (e :: es) [] pos) (tMake C sp dvs E0 t) := pe_mkX c hr hk pass0 hg ha hdb he hpl
theorem pe_mk0 (c : Mak X.prog X.w X.K X.mg X.base k x C sp dvs) (hr : Room j X.A) (hk : k + 1 ≤ j) (hg : Gl X x) (hdb : (x == ("__debug__" : Str)) = false := by decide) :
    PE X (.Call (.Name x p) [] [] pos) (tMake C sp dvs E0 tNil) := pe_mkX0 c hr hk pass0 hg hdb
section
variable {e o : Expr} {es : List Expr} {ta : TE} {t : TA}
theorem pe_mtX {CX : CXT} {E : XK} {pl : Sem Bool} (c : MetX CX X.prog X.w X.K X.mg X.base k C m sp dvs) (hr : Room j X.A) (hk : k ≤ j) (hx : Passes CX X E) (he : PE X o ta) (ha : PA X (e :: es) t)
    (hst : starEach (e :: es) X.env = (false, eval e X.env) :: starEach es X.env := by rfl) (hpl : (backTo pos (starEach es X.env)).any (·.1) = false := by rfl)
    (ht : eval (.Call (.Attribute o m apos) (e :: es) [] pos) X.env = (do
      let ov ← eval o X.env
      standAt apos.atName
      let (f, first) ← holding [ov] (getMethod ov m pl)
      callWith pos f first (backTo pos (starEach (e :: es) X.env)) (backToKw pos (keywordEach [] X.env))) := by rfl) :
    PE X (.Call (.Attribute o m apos) (e :: es) [] pos) (tMeth C m sp dvs E ta t) := by
  obtain ⟨f, fd, ps, ds, hc, hm, F, b, d⟩ := c.ex
  exact pe_meth (pl := pl) he hc hm F (hr.mono hk) b d hx ha hst hpl ht
theorem pe_mtX0 {CX : CXT} {E : XK} {pl : Sem Bool} (c : MetX CX X.prog X.w X.K X.mg X.base k C m sp dvs) (hr : Room j X.A) (hk : k ≤ j) (hx : Passes CX X E) (he : PE X o ta)
    (ht : eval (.Call (.Attribute o m apos) [] [] pos) X.env = (do
      let ov ← eval o X.env
      standAt apos.atName
      let (f, first) ← holding [ov] (getMethod ov m pl)
      callWith pos f first (backTo pos (starEach [] X.env)) (backToKw pos (keywordEach [] X.env))) := by rfl) :
    PE X (.Call (.Attribute o m apos) [] [] pos) (tMeth C m sp dvs E ta tNil) := by
  obtain ⟨f, fd, ps, ds, hc, hm, F, b, d⟩ := c.ex
  exact pe_meth0 (pl := pl) he hc hm F (hr.mono hk) b d hx ht
theorem pe_mt {pl : Sem Bool} (c : Met X.prog X.w X.K X.mg X.base k C m sp dvs) (hr : Room j X.A) (hk : k ≤ j) (he : PE X o ta) (ha : PA X (e :: es) t)
    (hst : starEach (e :: es) X.env = (false, eval e X.env) :: starEach es X.env := by rfl) (hpl : (backTo pos (starEach es X.env)).any (·.1) = false := by rfl)
    (ht : eval (.Call (.Attribute o m apos) (e :: es) [] pos) X.env = (do
      let ov ← eval o X.env
      standAt apos.atName
      let (f, first) ← holding [ov] (getMethod ov m pl)
      callWith pos f first (backTo pos (starEach (e :: es) X.env)) (backToKw pos (keywordEach [] X.env))) := by rfl) :
    PE X (.Call (.Attribute o m apos) (e :: es) [] pos) (tMeth C m sp dvs E0 ta t) := pe_mtX (pl := pl) c hr hk pass0 he ha hst hpl ht
theorem pe_mt0 {pl : Sem Bool} (c : Met X.prog X.w X.K X.mg X.base k C m sp dvs) (hr : Room j X.A) (hk : k ≤ j) (he : PE X o ta)
    (ht : eval (.Call (.Attribute o m apos) [] [] pos) X.env = (do
      let ov ← eval o X.env
      standAt apos.atName
      let (f, first) ← holding [ov] (getMethod ov m pl)
      callWith pos f first (backTo pos (starEach [] X.env)) (backToKw pos (keywordEach [] X.env))) := by rfl) :
    PE X (.Call (.Attribute o m apos) [] [] pos) (tMeth C m sp dvs E0 ta tNil) := pe_mtX0 (pl := pl) c hr hk pass0 he ht
end
theorem pe_gc (hg : Gl X x) {v : V} (h : ∃ u, X.mg x = some u ∧ RelV v u) (hd : (x == ("__debug__" : Str)) = false := by decide) : PE X (.Name x p) (tC v) := by
  obtain ⟨u, e, r⟩ := h
  exact pe_glob hg e r hd
/-- xs[i], read ahead of xs[i] op= e -/
theorem get_list : PGet X (rIxL X.K) := by
  intro pins s σ H x y v u Q I rx ry h
  obtain ⟨p, xs, i, z, rfl, rfl, hq, he, q⟩ := h
  cases rx
  obtain ⟨t, rfl⟩ := ry
  obtain ⟨its, r, pl, hz⟩ := I.list hq
  obtain ⟨j, h1, h2, h3, h4, h5⟩ := atI_get he
  obtain ⟨w, ew, rw'⟩ := r.get h2
  have hl := r.length
  have hn := line63
  have fin : EP X pins σ Q w s := ⟨z, H, I, rw', q⟩
  by_cases h0 : 0 ≤ i
  · have hj : i.toNat = j := by
      rw [seqIndex_of h0 h5] at h1
      exact Option.some.inj h1
    exact wpAny_getItem_list pl.isList h0 (by omega) (by rw [hj]; simpa using ew) fin
  · have hj : (i + (its.toArray.size : Int)).toNat = j := by
      rw [seqIndex_neg (by omega) h4] at h1
      rw [List.size_toArray, ← hl]
      exact Option.some.inj h1
    exact wpAny_getItem_list_neg pl.isList (by omega) (by rw [List.size_toArray] <;> omega) (by omega) (by rw [hj]; simpa using ew) fin
end
abbrev qNewL (xs : List V) (H : Hp) (Q : VK) : Prop := xs.length ≤ sizeLine ∧ ∀ p, H p = none → Q (.ref p) (upd H p (.lst xs))
abbrev qNewT (xs : List V) (H : Hp) (Q : VK) : Prop := xs.length ≤ sizeLine ∧ ∀ p, H p = none → Q (.ref p) (upd H p (.tup xs))
section
variable {K : PySem.W.Frag} {σ : L2.St} {H : Hp} {Q : VK} {QB : Bool → Hp → Prop} {v x y : V} {ta tb te : TE} {t u : TT} {r : R2} {D : Ends} {QL : List V → Hp → Prop}
/-! ### readings, one step each -/
theorem rd_var {i : Nat} (h : σ[i]? = some (some v)) (q : Q v H) : tVar i σ H Q := ⟨v, h, q⟩
theorem rd_c (q : Q v H) : tC v σ H Q := q
theorem rd_op (q : ta σ H fun x H1 => tb σ H1 fun y H2 => r x y H2 Q) : tOp r ta tb σ H Q := q
theorem rd_i0 {g : Int → Int → V} {i j : Int} (q : Q (g i j) H) : rI0 g (.int i) (.int j) H Q := ⟨i, j, rfl, rfl, q⟩
theorem rd_i {C : Int → Int → Prop} {g : Int → Int → V} {i j : Int} (c : C i j) (q : Q (g i j) H) : rI C g (.int i) (.int j) H Q := ⟨i, j, rfl, rfl, c, q⟩
theorem rd_eq (h : scal x y = true) (q : Q (.bl (decide (x = y))) H) : rEq x y H Q := ⟨h, q⟩
theorem rd_ne (h : scal x y = true) (q : Q (.bl (!decide (x = y))) H) : rNe x y H Q := ⟨h, q⟩
theorem rd_eqi {i j : Int} (q : Q (.bl (decide (i = j))) H) : rEq (.int i) (.int j) H Q := ⟨rfl, by rw [show decide (V.int i = V.int j) = decide (i = j) from decide_eq_decide.mpr (by simp)]; exact q⟩
theorem rd_nei {i j : Int} (q : Q (.bl (!decide (i = j))) H) : rNe (.int i) (.int j) H Q := ⟨rfl, by rw [show decide (V.int i = V.int j) = decide (i = j) from decide_eq_decide.mpr (by simp)]; exact q⟩
theorem rd_tb {b : Bool} {R : Bool → Prop} (q : R b) : ∃ k, V.bl b = .bl k ∧ R k := ⟨b, rfl, q⟩
theorem rd_tTest (q : te σ H fun x H' => ∃ k, x = .bl k ∧ QB k H') : tTest te σ H QB := q
theorem rd_tB (q : te σ H fun x H' => ∃ k, x = .bl k ∧ QB k H') : tB te σ H QB := q
theorem rd_and (q : t σ H fun c H1 => if c = true then u σ H1 QB else QB false H1) : tAnd t u σ H QB := q
theorem rd_or (q : t σ H fun c H1 => if c = true then QB true H1 else u σ H1 QB) : tOr t u σ H QB := q
theorem rd_not (q : t σ H fun c H1 => QB (!c) H1) : tNot t σ H QB := q
theorem rd_ite {b : Bool} {A B : Prop} (h1 : b = true → A) (h2 : b = false → B) : if b = true then A else B := by
  cases b with
  | true => exact iteT (h1 rfl)
  | false => exact iteF (h2 rfl)
theorem rd_nil (q : QL [] H) : tNil σ H QL := q
theorem rd_cons {tr : TA} (q : ta σ H fun x H1 => tr σ H1 fun xs H2 => QL (x :: xs) H2) : tCons ta tr σ H QL := q
theorem rd_call {sp : Sp} {dvs : List V} {E : XK} {ts : TA} (q : ts σ H fun vs H1 => sp (vs ++ dvs) H1 Q E) : tCall sp dvs E ts σ H Q := q
theorem rd_cb {rc : List V → Hp → VK → Prop} {ts : TA} (q : ts σ H fun vs H1 => rc vs H1 Q) : tCB rc ts σ H Q := q
theorem rd_un {ru : V → Hp → VK → Prop} (q : ta σ H fun x H1 => ru x H1 Q) : tUn ru ta σ H Q := q
theorem rd_ixL {p : Addr} {xs : List V} {i : Int} (h : SqL K H p xs) (ha : atI xs i = some v) (q : Q v H) : rIxL K (.ref p) (.int i) H Q := ⟨p, xs, i, v, rfl, rfl, h, ha, q⟩
theorem rd_ixT {p : Addr} {xs : List V} {i : Int} (h : SqT K H p xs) (ha : atI xs i = some v) (q : Q v H) : rIxT K (.ref p) (.int i) H Q := ⟨p, xs, i, v, rfl, rfl, h, ha, q⟩
theorem rd_seq {a b : TS} (q : a { D with nx := b D } σ H) : tSeq a b D σ H := q
theorem rd_nx (q : D.nx σ H) : tNext D σ H := q
theorem rd_asg {g : TG} (q : te σ H fun x H1 => g x σ H1 D.nx) : tAsg te g D σ H := q
theorem rd_gName {i : Nat} {R : L2.St → Hp → Prop} (q : R (σ.set i (some v)) H) : gName i v σ H R := q
theorem rd_gSub {to ti : TE} {s : TSet} {R : L2.St → Hp → Prop} (q : to σ H fun o H1 => ti σ H1 fun i H2 => s o i v H2 fun H3 => R σ H3) : gSub to ti s v σ H R := q
theorem rd_setL {p : Addr} {xs : List V} {k : Int} {j : Nat} {R : Hp → Prop} (h : H p = some (.lst xs)) (hj : ixN xs.length k = some j) (q : R (upd H p (.lst (xs.set j v)))) : rSetL (.ref p) (.int k) v H R := ⟨p, xs, k, j, rfl, rfl, h, hj, q⟩
theorem rd_ret (q : te σ H D.rt) : tRet te D σ H := q
theorem rd_retN (q : D.rt .non H) : tRetN D σ H := q
theorem rd_if {c : TT} {a b : TS} (q : c σ H fun z H1 => if z = true then a D σ H1 else b D σ H1) : tIfS c a b D σ H := q
theorem rd_drop (q : te σ H fun _ H1 => D.nx σ H1) : tDrop te D σ H := q
theorem rd_aug {i : Nat} {ti : TIp} (h : σ[i]? = some (some x)) (q : te σ H fun y H1 => ti x y H1 fun z H2 => D.nx (σ.set i (some z)) H2) : tAug i te ti D σ H := ⟨x, h, q⟩
theorem rd_ipI {f : Int → Int → Int} {i j : Int} (q : Q (.int (f i j)) H) : ipI f (.int i) (.int j) H Q := ⟨i, j, rfl, rfl, q⟩
theorem rd_augS {to ti te : TE} {tg : V → V → Hp → VK → Prop} {tp : TIp} {ts : TSet} (q : to σ H fun o H1 => ti σ H1 fun i H2 => tg o i H2 fun x H3 => te σ H3 fun y H4 => tp x y H4 fun z H5 => ts o i z H5 fun H6 => D.nx σ H6) : tAugS to ti te tg tp ts D σ H := q
theorem rd_tup {ts : TA} (q : ts σ H fun xs H1 => qNewT xs H1 Q) : tTup ts σ H Q := q
theorem rd_lst {ts : TA} (q : ts σ H fun xs H1 => qNewL xs H1 Q) : tLst ts σ H Q := q
theorem rd_bm0 {T : String} {m : V → List V → Hp → VK → Prop} {to : TE} (q : to σ H fun x H1 => tyV K T x H1 ∧ m x [] H1 Q) : tBM0 K T m to σ H Q := q
theorem rd_bm {T : String} {m : V → List V → Hp → VK → Prop} {to : TE} {ts : TA} (q : to σ H fun x H1 => tyV K T x H1 ∧ ts σ H1 fun xs H2 => m x xs H2 Q) : tBM K T m to ts σ H Q := q
theorem rd_chain {r r' : R2} {tc : TE} (q : ta σ H fun x H1 => tb σ H1 fun y H2 => r x y H2 fun z H3 => ∃ k, z = .bl k ∧ (if k = true then tc σ H3 fun w' H4 => r' y w' H4 Q else Q (.bl false) H3)) : tChain r r' ta tb tc σ H Q := q
theorem rd_andV (q : ta σ H fun x H1 => ∃ c, x = .bl c ∧ if c = true then tb σ H1 Q else Q (.bl false) H1) : tAndV ta tb σ H Q := q
theorem rd_orV (q : ta σ H fun x H1 => ∃ c, x = .bl c ∧ if c = true then Q (.bl true) H1 else tb σ H1 Q) : tOrV ta tb σ H Q := q
theorem rd_notV (q : ta σ H fun x H1 => ∃ c, x = .bl c ∧ Q (.bl (!c)) H1) : tNotV ta σ H Q := q
end
section
variable {K : PySem.W.Frag} {H : Hp} {Q : VK}
theorem rd_isi {x c : V} {t u : Value} {b : Bool} (k : ClsV c u) (ty : TyX K H x t) (e : PySem.W.kitOne K t u = some b) (q : Q (.bl b) H) : rIsi K [x, c] H Q := ⟨x, c, t, u, b, rfl, k, ty, e, q⟩
theorem isi_int_int {i : Int} (q : Q (.bl true) H) : rIsi K [(.int i), .ty "int"] H Q := rd_isi (.ty _) (.base (.int _)) (kit_ty (by decide +kernel)) q
theorem isi_int_bool {i : Int} (q : Q (.bl false) H) : rIsi K [(.int i), .ty "bool"] H Q := rd_isi (.ty _) (.base (.int _)) (kit_ty (by decide +kernel)) q
theorem isi_int_str {i : Int} (q : Q (.bl false) H) : rIsi K [(.int i), .ty "str"] H Q := rd_isi (.ty _) (.base (.int _)) (kit_ty (by decide +kernel)) q
theorem isi_int_list {i : Int} (q : Q (.bl false) H) : rIsi K [(.int i), .ty "list"] H Q := rd_isi (.ty _) (.base (.int _)) (kit_ty (by decide +kernel)) q
theorem isi_int_tuple {i : Int} (q : Q (.bl false) H) : rIsi K [(.int i), .ty "tuple"] H Q := rd_isi (.ty _) (.base (.int _)) (kit_ty (by decide +kernel)) q
theorem isi_int_dict {i : Int} (q : Q (.bl false) H) : rIsi K [(.int i), .ty "dict"] H Q := rd_isi (.ty _) (.base (.int _)) (kit_ty (by decide +kernel)) q
theorem isi_int_bytes {i : Int} (q : Q (.bl false) H) : rIsi K [(.int i), .ty "bytes"] H Q := rd_isi (.ty _) (.base (.int _)) (kit_ty (by decide +kernel)) q
theorem isi_bool_int {i : Bool} (q : Q (.bl true) H) : rIsi K [(.bl i), .ty "int"] H Q := rd_isi (.ty _) (.base (.bl _)) (kit_ty (by decide +kernel)) q
theorem isi_bool_bool {i : Bool} (q : Q (.bl true) H) : rIsi K [(.bl i), .ty "bool"] H Q := rd_isi (.ty _) (.base (.bl _)) (kit_ty (by decide +kernel)) q
theorem isi_bool_str {i : Bool} (q : Q (.bl false) H) : rIsi K [(.bl i), .ty "str"] H Q := rd_isi (.ty _) (.base (.bl _)) (kit_ty (by decide +kernel)) q
theorem isi_bool_list {i : Bool} (q : Q (.bl false) H) : rIsi K [(.bl i), .ty "list"] H Q := rd_isi (.ty _) (.base (.bl _)) (kit_ty (by decide +kernel)) q
theorem isi_bool_tuple {i : Bool} (q : Q (.bl false) H) : rIsi K [(.bl i), .ty "tuple"] H Q := rd_isi (.ty _) (.base (.bl _)) (kit_ty (by decide +kernel)) q
theorem isi_bool_dict {i : Bool} (q : Q (.bl false) H) : rIsi K [(.bl i), .ty "dict"] H Q := rd_isi (.ty _) (.base (.bl _)) (kit_ty (by decide +kernel)) q
theorem isi_bool_bytes {i : Bool} (q : Q (.bl false) H) : rIsi K [(.bl i), .ty "bytes"] H Q := rd_isi (.ty _) (.base (.bl _)) (kit_ty (by decide +kernel)) q
theorem isi_str_int {i : Str} (q : Q (.bl false) H) : rIsi K [(.str i), .ty "int"] H Q := rd_isi (.ty _) (.base (.str _)) (kit_ty (by decide +kernel)) q
theorem isi_str_bool {i : Str} (q : Q (.bl false) H) : rIsi K [(.str i), .ty "bool"] H Q := rd_isi (.ty _) (.base (.str _)) (kit_ty (by decide +kernel)) q
theorem isi_str_str {i : Str} (q : Q (.bl true) H) : rIsi K [(.str i), .ty "str"] H Q := rd_isi (.ty _) (.base (.str _)) (kit_ty (by decide +kernel)) q
theorem isi_str_list {i : Str} (q : Q (.bl false) H) : rIsi K [(.str i), .ty "list"] H Q := rd_isi (.ty _) (.base (.str _)) (kit_ty (by decide +kernel)) q
theorem isi_str_tuple {i : Str} (q : Q (.bl false) H) : rIsi K [(.str i), .ty "tuple"] H Q := rd_isi (.ty _) (.base (.str _)) (kit_ty (by decide +kernel)) q
theorem isi_str_dict {i : Str} (q : Q (.bl false) H) : rIsi K [(.str i), .ty "dict"] H Q := rd_isi (.ty _) (.base (.str _)) (kit_ty (by decide +kernel)) q
theorem isi_str_bytes {i : Str} (q : Q (.bl false) H) : rIsi K [(.str i), .ty "bytes"] H Q := rd_isi (.ty _) (.base (.str _)) (kit_ty (by decide +kernel)) q
theorem isi_NoneType_int  (q : Q (.bl false) H) : rIsi K [.non, .ty "int"] H Q := rd_isi (.ty _) (.base (.non)) (kit_ty (by decide +kernel)) q
theorem isi_NoneType_bool  (q : Q (.bl false) H) : rIsi K [.non, .ty "bool"] H Q := rd_isi (.ty _) (.base (.non)) (kit_ty (by decide +kernel)) q
theorem isi_NoneType_str  (q : Q (.bl false) H) : rIsi K [.non, .ty "str"] H Q := rd_isi (.ty _) (.base (.non)) (kit_ty (by decide +kernel)) q
theorem isi_NoneType_list  (q : Q (.bl false) H) : rIsi K [.non, .ty "list"] H Q := rd_isi (.ty _) (.base (.non)) (kit_ty (by decide +kernel)) q
theorem isi_NoneType_tuple  (q : Q (.bl false) H) : rIsi K [.non, .ty "tuple"] H Q := rd_isi (.ty _) (.base (.non)) (kit_ty (by decide +kernel)) q
theorem isi_NoneType_dict  (q : Q (.bl false) H) : rIsi K [.non, .ty "dict"] H Q := rd_isi (.ty _) (.base (.non)) (kit_ty (by decide +kernel)) q
theorem isi_NoneType_bytes  (q : Q (.bl false) H) : rIsi K [.non, .ty "bytes"] H Q := rd_isi (.ty _) (.base (.non)) (kit_ty (by decide +kernel)) q
theorem isi_list_int {p : Addr} {xs : List V} (h : H p = some (.lst xs)) (q : Q (.bl false) H) : rIsi K [(.ref p), .ty "int"] H Q := rd_isi (.ty _) (.base (.lst h)) (kit_ty (by decide +kernel)) q
theorem isi_list_bool {p : Addr} {xs : List V} (h : H p = some (.lst xs)) (q : Q (.bl false) H) : rIsi K [(.ref p), .ty "bool"] H Q := rd_isi (.ty _) (.base (.lst h)) (kit_ty (by decide +kernel)) q
theorem isi_list_str {p : Addr} {xs : List V} (h : H p = some (.lst xs)) (q : Q (.bl false) H) : rIsi K [(.ref p), .ty "str"] H Q := rd_isi (.ty _) (.base (.lst h)) (kit_ty (by decide +kernel)) q
theorem isi_list_list {p : Addr} {xs : List V} (h : H p = some (.lst xs)) (q : Q (.bl true) H) : rIsi K [(.ref p), .ty "list"] H Q := rd_isi (.ty _) (.base (.lst h)) (kit_ty (by decide +kernel)) q
theorem isi_list_tuple {p : Addr} {xs : List V} (h : H p = some (.lst xs)) (q : Q (.bl false) H) : rIsi K [(.ref p), .ty "tuple"] H Q := rd_isi (.ty _) (.base (.lst h)) (kit_ty (by decide +kernel)) q
theorem isi_list_dict {p : Addr} {xs : List V} (h : H p = some (.lst xs)) (q : Q (.bl false) H) : rIsi K [(.ref p), .ty "dict"] H Q := rd_isi (.ty _) (.base (.lst h)) (kit_ty (by decide +kernel)) q
theorem isi_list_bytes {p : Addr} {xs : List V} (h : H p = some (.lst xs)) (q : Q (.bl false) H) : rIsi K [(.ref p), .ty "bytes"] H Q := rd_isi (.ty _) (.base (.lst h)) (kit_ty (by decide +kernel)) q
theorem isi_tuple_int {p : Addr} {xs : List V} (h : H p = some (.tup xs)) (q : Q (.bl false) H) : rIsi K [(.ref p), .ty "int"] H Q := rd_isi (.ty _) (.base (.tup h)) (kit_ty (by decide +kernel)) q
theorem isi_tuple_bool {p : Addr} {xs : List V} (h : H p = some (.tup xs)) (q : Q (.bl false) H) : rIsi K [(.ref p), .ty "bool"] H Q := rd_isi (.ty _) (.base (.tup h)) (kit_ty (by decide +kernel)) q
theorem isi_tuple_str {p : Addr} {xs : List V} (h : H p = some (.tup xs)) (q : Q (.bl false) H) : rIsi K [(.ref p), .ty "str"] H Q := rd_isi (.ty _) (.base (.tup h)) (kit_ty (by decide +kernel)) q
theorem isi_tuple_list {p : Addr} {xs : List V} (h : H p = some (.tup xs)) (q : Q (.bl false) H) : rIsi K [(.ref p), .ty "list"] H Q := rd_isi (.ty _) (.base (.tup h)) (kit_ty (by decide +kernel)) q
theorem isi_tuple_tuple {p : Addr} {xs : List V} (h : H p = some (.tup xs)) (q : Q (.bl true) H) : rIsi K [(.ref p), .ty "tuple"] H Q := rd_isi (.ty _) (.base (.tup h)) (kit_ty (by decide +kernel)) q
theorem isi_tuple_dict {p : Addr} {xs : List V} (h : H p = some (.tup xs)) (q : Q (.bl false) H) : rIsi K [(.ref p), .ty "dict"] H Q := rd_isi (.ty _) (.base (.tup h)) (kit_ty (by decide +kernel)) q
theorem isi_tuple_bytes {p : Addr} {xs : List V} (h : H p = some (.tup xs)) (q : Q (.bl false) H) : rIsi K [(.ref p), .ty "bytes"] H Q := rd_isi (.ty _) (.base (.tup h)) (kit_ty (by decide +kernel)) q
theorem isi_dict_int {p : Addr} {xs : List (Key × V)} (h : H p = some (.dK xs)) (q : Q (.bl false) H) : rIsi K [(.ref p), .ty "int"] H Q := rd_isi (.ty _) (.base (.dK h)) (kit_ty (by decide +kernel)) q
theorem isi_dict_bool {p : Addr} {xs : List (Key × V)} (h : H p = some (.dK xs)) (q : Q (.bl false) H) : rIsi K [(.ref p), .ty "bool"] H Q := rd_isi (.ty _) (.base (.dK h)) (kit_ty (by decide +kernel)) q
theorem isi_dict_str {p : Addr} {xs : List (Key × V)} (h : H p = some (.dK xs)) (q : Q (.bl false) H) : rIsi K [(.ref p), .ty "str"] H Q := rd_isi (.ty _) (.base (.dK h)) (kit_ty (by decide +kernel)) q
theorem isi_dict_list {p : Addr} {xs : List (Key × V)} (h : H p = some (.dK xs)) (q : Q (.bl false) H) : rIsi K [(.ref p), .ty "list"] H Q := rd_isi (.ty _) (.base (.dK h)) (kit_ty (by decide +kernel)) q
theorem isi_dict_tuple {p : Addr} {xs : List (Key × V)} (h : H p = some (.dK xs)) (q : Q (.bl false) H) : rIsi K [(.ref p), .ty "tuple"] H Q := rd_isi (.ty _) (.base (.dK h)) (kit_ty (by decide +kernel)) q
theorem isi_dict_dict {p : Addr} {xs : List (Key × V)} (h : H p = some (.dK xs)) (q : Q (.bl true) H) : rIsi K [(.ref p), .ty "dict"] H Q := rd_isi (.ty _) (.base (.dK h)) (kit_ty (by decide +kernel)) q
theorem isi_dict_bytes {p : Addr} {xs : List (Key × V)} (h : H p = some (.dK xs)) (q : Q (.bl false) H) : rIsi K [(.ref p), .ty "bytes"] H Q := rd_isi (.ty _) (.base (.dK h)) (kit_ty (by decide +kernel)) q
end
/-! ### the head's facts and some more of K -/
def obsX (n : Nat) (fa : List He.Fa) (fn : List He.DefD) (ex : PySem.W.Frag → Bool) (g : Addr → Option Obj) : He.AlD × Bool := (He.obsD fa fn (He.frG g (He.asD g n)), ex (He.frG g (He.asD g n)))
def hookX (n : Nat) (fa : List He.Fa) (fn : List He.DefD) (ex : PySem.W.Frag → Bool) : PySem.W.Hook where
  α := He.AlD × Bool
  obs := fun s => obsX n fa fn ex s.heap.get?
  val := fun _ => (He.valD fn, true)
  says := fun _ h => ∃ K : PySem.W.Frag, K.In h ∧ He.SaysD fa fn K ∧ ex K = true
  of := fun _ _ e => ⟨_, He.frG_in, congrArg Prod.fst e, congrArg Prod.snd e⟩
  keeps := fun _ _ _ ⟨K, hK, c⟩ k => ⟨K, PySem.W.Frag.In.keeps hK k, c⟩
theorem obsX_eq {n : Nat} {fa : List He.Fa} {fn : List He.DefD} {ex : PySem.W.Frag → Bool} {g : Addr → Option Obj} {s : Shared} (h : ∀ a, g a = s.heap.get? a) : obsX n fa fn ex g = (hookX n fa fn ex).obs s := by
  have e : g = s.heap.get? := funext h
  rw [e] <;> rfl
theorem ex_at {exs : List (PySem.W.Frag → Bool)} {K : PySem.W.Frag} (h : (exs.all fun f => f K) = true) (i : Nat) {f : PySem.W.Frag → Bool} (e : exs[i]? = some f := by rfl) : f K = true := List.all_eq_true.mp h f (List.mem_of_getElem? e)
/-! ### rules under names -/
def qIsN : R2 := fun x y H Q => y = .non ∧ Q (.bl (decide (x = .non))) H
def qNotN : R2 := fun x y H Q => y = .non ∧ Q (.bl (!decide (x = .non))) H
def qInt1 : List V → Hp → VK → Prop := fun xs H Q => (∃ i, xs = [.int i] ∧ Q (.int i) H) ∨ ∃ k, xs = [.bl k] ∧ Q (.int (if k then 1 else 0)) H
def qBool1 : List V → Hp → VK → Prop := fun xs H Q => (∃ i, xs = [.int i] ∧ Q (.bl (i != 0)) H) ∨ ∃ k, xs = [.bl k] ∧ Q (.bl k) H
def qLen (K : PySem.W.Frag) : List V → Hp → VK → Prop := fun xs H Q => ∃ p ys, xs = [.ref p] ∧ (SqL K H p ys ∨ SqT K H p ys) ∧ (ys.length ≤ 1152921504606846976 → Q (.int ys.length) H)
def qLenS : List V → Hp → VK → Prop := fun xs H Q => ∃ z, xs = [.str z] ∧ z.length ≤ sizeLine ∧ Q (.int z.length) H
def qListOf (K : PySem.W.Frag) : List V → Hp → VK → Prop := fun xs H Q => ∃ p ys, xs = [.ref p] ∧ (SqL K H p ys ∨ SqT K H p ys) ∧ ∀ l, H l = none → Q (.ref l) (upd H l (.lst ys))
def qMax2 : List V → Hp → VK → Prop := fun xs H Q => ∃ i j, xs = [.int i, .int j] ∧ Q (.int (if j > i then j else i)) H
def qMin2 : List V → Hp → VK → Prop := fun xs H Q => ∃ i j, xs = [.int i, .int j] ∧ Q (.int (if j < i then j else i)) H
section
variable {X : Cx} {K : PySem.W.Frag} {H : Hp} {Q : VK} {x : V}
theorem op_isNq : OpR X (compareOp .Is) qIsN := op_isN
theorem op_notNq : OpR X (compareOp .IsNot) qNotN := op_notN
theorem call_int1q : CallR X (.type "int") qInt1 := call_int1
theorem call_bool1q : CallR X (.type "bool") qBool1 := call_bool1
theorem call_lenq : CallR X (.builtin "len") (qLen X.K) := by
  intro pins s σ H xs us Q I r h
  obtain ⟨p, ys, rfl, hs, q⟩ := h
  have hz : ys.length ≤ sizeLine := by
    rcases hs with hs | hs
    · obtain ⟨_, _, _, z⟩ := I.list hs
      exact z
    · obtain ⟨_, _, _, z⟩ := I.tuple hs
      exact z
  exact call_len_seq pins s σ H _ us Q I r ⟨p, ys, rfl, hs, q (Nat.le_trans hz (by decide))⟩
theorem call_lenSq : CallR X (.builtin "len") qLenS := call_len_str
theorem call_listq : CallR X (.type "list") (qListOf X.K) := call_list_of
theorem call_max2q (hc : X.calm = true) : CallR X (.builtin "max") qMax2 := call_max2 hc
theorem call_min2q (hc : X.calm = true) : CallR X (.builtin "min") qMin2 := call_min2 hc
theorem rd_isNn (q : Q (.bl true) H) : qIsN .non .non H Q := ⟨rfl, q⟩
theorem rd_isNi {i : Int} (q : Q (.bl false) H) : qIsN (.int i) .non H Q := ⟨rfl, q⟩
theorem rd_isNb {i : Bool} (q : Q (.bl false) H) : qIsN (.bl i) .non H Q := ⟨rfl, q⟩
theorem rd_isNs {i : Str} (q : Q (.bl false) H) : qIsN (.str i) .non H Q := ⟨rfl, q⟩
theorem rd_isNr {i : Addr} (q : Q (.bl false) H) : qIsN (.ref i) .non H Q := ⟨rfl, q⟩
theorem rd_notNn (q : Q (.bl false) H) : qNotN .non .non H Q := ⟨rfl, q⟩
theorem rd_notNi {i : Int} (q : Q (.bl true) H) : qNotN (.int i) .non H Q := ⟨rfl, q⟩
theorem rd_notNb {i : Bool} (q : Q (.bl true) H) : qNotN (.bl i) .non H Q := ⟨rfl, q⟩
theorem rd_notNs {i : Str} (q : Q (.bl true) H) : qNotN (.str i) .non H Q := ⟨rfl, q⟩
theorem rd_notNr {i : Addr} (q : Q (.bl true) H) : qNotN (.ref i) .non H Q := ⟨rfl, q⟩
theorem rd_int1 {i : Int} (q : Q (.int i) H) : qInt1 [.int i] H Q := .inl ⟨i, rfl, q⟩
theorem rd_int1b {k : Bool} (q : Q (.int (if k then 1 else 0)) H) : qInt1 [.bl k] H Q := .inr ⟨k, rfl, q⟩
theorem rd_lenL {p : Addr} {xs : List V} (h : SqL K H p xs) (q : xs.length ≤ 1152921504606846976 → Q (.int xs.length) H) : qLen K [.ref p] H Q := ⟨p, xs, rfl, .inl h, q⟩
theorem rd_lenT {p : Addr} {xs : List V} (h : SqT K H p xs) (q : xs.length ≤ 1152921504606846976 → Q (.int xs.length) H) : qLen K [.ref p] H Q := ⟨p, xs, rfl, .inr h, q⟩
theorem rd_listL {p : Addr} {xs : List V} (h : SqL K H p xs) (q : ∀ l, H l = none → Q (.ref l) (upd H l (.lst xs))) : qListOf K [.ref p] H Q := ⟨p, xs, rfl, .inl h, q⟩
end
section
variable {K : PySem.W.Frag} {H : Hp} {Q : VK}
theorem rd_xor {a b : Nat} (q : Q (.int ((a ^^^ b : Nat) : Int)) H) : rI0 (fun i j => .int (Builtin.bitXor i j)) (.int (a : Int)) (.int (b : Int)) H Q :=
  rd_i0 (by rw [Bits.bitXor_pp (x := (a : Int)) (y := (b : Int)) (by omega) (by omega)]; exact q)
theorem iteNF {A B : Prop} (h : A) : if (!false) = true then A else B := by
  rw [if_pos (show (!false) = true from rfl)]
  exact h
theorem iteNT {A B : Prop} (h : B) : if (!true) = true then A else B := by
  rw [if_neg (by decide)]
  exact h
theorem iteNS' {c A B : Prop} [Decidable c] (hc : ¬ c) (h : A) : if (!decide c) = true then A else B := by
  rw [decide_eq_false hc]
  exact iteNF h
theorem not_t {c : Prop} [Decidable c] (h : (!decide c) = true) : ¬ c := by
  cases q : decide c with
  | true => rw [q] at h; cases h
  | false => exact of_decide_eq_false q
theorem not_f {c : Prop} [Decidable c] (h : (!decide c) = false) : c := by
  cases q : decide c with
  | true => exact of_decide_eq_true q
  | false => rw [q] at h; cases h
theorem iteD {c A B : Prop} [Decidable c] (hc : c) (h : A) : if decide c = true then A else B := by
  rw [decide_eq_true hc]
  exact iteT h
theorem iteDn {c A B : Prop} [Decidable c] (hc : ¬ c) (h : B) : if decide c = true then A else B := by
  rw [decide_eq_false hc]
  exact iteF h
theorem atI_int {ns : List Int} {i : Int} (h0 : 0 ≤ i) (h1 : i < ns.length) : ∃ z : Int, atI (ns.map V.int) i = some (.int z) ∧ ns[i.toNat]? = some z := by
  have hk : i.toNat < ns.length := by omega
  have e : ((i.toNat : Nat) : Int) = i := by omega
  refine ⟨ns[i.toNat], ?_, List.getElem?_eq_getElem hk⟩
  have q : atI (ns.map V.int) ((i.toNat : Nat) : Int) = some (.int ns[i.toNat]) := atI_nat (by rw [List.getElem?_map, List.getElem?_eq_getElem hk] <;> rfl)
  rw [e] at q
  exact q
theorem same_new {H : Hp} {p : Addr} (h : H p = none) (o : HO) : Same H (upd H p o) := fun b u q => by rw [upd_ne (ne_of_none q h)]; exact q
end
/-- a statement, then the rest, with a word between them: what follows is shown once -/
def qJoin (t u : TS) : TS := fun D σ H => ∃ Mid : L2.St → Hp → Prop, t { D with nx := Mid } σ H ∧ ∀ σ' H', Mid σ' H' → u D σ' H'
theorem pss_join {X : Cx} {st : Stmt} {rest : List Stmt} {t u : TS} (h1 : PS X st t) (h2 : PSs X rest u) : PSs X (st :: rest) (qJoin t u) := by
  refine ⟨fun pins s σ H D I h => ?_⟩
  obtain ⟨Mid, h, k⟩ := h
  refine wpAny_execs_cons (thn (h1.run pins s σ H { D with nx := Mid } I h) fun f s1 q => ?_)
  cases f with
  | next =>
    obtain ⟨σ', H', I', q⟩ := q
    exact h2.run pins s1 σ' H' D I' (k σ' H' q)
  | ret v => exact q
  | brk => exact q
  | cont => exact q
theorem cx_K {CX : CXT} {P : Program} {w : World} {K : PySem.W.Frag} {mg : Str → Option Value} {base : Heap} {N : List Str} {qual : Str} {sc : Scope} {f : Addr} {cd : Value} {A : Around} {outer : List Env} {s : Shared} {H : Hp} {E : XK} : (cxOf CX P w K mg base N qual sc f cd A outer s H E).nox.K = K := rfl
theorem cx_K2 {CX : CXT} {P : Program} {w : World} {K : PySem.W.Frag} {mg : Str → Option Value} {base : Heap} {N : List Str} {qual : Str} {sc : Scope} {f : Addr} {cd : Value} {A : Around} {outer : List Env} {s : Shared} {H : Hp} {E : XK} : (cxOf CX P w K mg base N qual sc f cd A outer s H E).K = K := rfl
theorem cx_w {CX : CXT} {P : Program} {w : World} {K : PySem.W.Frag} {mg : Str → Option Value} {base : Heap} {N : List Str} {qual : Str} {sc : Scope} {f : Addr} {cd : Value} {A : Around} {outer : List Env} {s : Shared} {H : Hp} {E : XK} : (cxOf CX P w K mg base N qual sc f cd A outer s H E).nox.w = w := rfl
/-! ### data: what a value stands for, off the objects M that change -/
/-- all that is not in M stays; nothing goes -/
structure Ext (M : List Addr) (H H' : Hp) : Prop where
  keep : ∀ b o, b ∉ M → H b = some o → H' b = some o
  there : ∀ b, H b ≠ none → H' b ≠ none
/-- the objects M stand -/
def Al (M : List Addr) (H : Hp) : Prop := ∀ b ∈ M, H b ≠ none
mutual
inductive Is (M : List Addr) (H : Hp) : V → PyData → Prop
  | non : Is M H .non .none
  | bl (b : Bool) : Is M H (.bl b) (.bool b)
  | int (i : Int) : Is M H (.int i) (.int i)
  | str (x : Str) : Is M H (.str x) (.str x)
  | lst {a : Addr} {xs : List V} {ds : List PyData} : a ∉ M → H a = some (.lst xs) → IsAll M H xs ds → Is M H (.ref a) (.list ds)
  | tup {a : Addr} {xs : List V} {ds : List PyData} : a ∉ M → H a = some (.tup xs) → IsAll M H xs ds → Is M H (.ref a) (.tuple ds)
inductive IsAll (M : List Addr) (H : Hp) : List V → List PyData → Prop
  | nil : IsAll M H [] []
  | cons {v : V} {vs : List V} {d : PyData} {ds : List PyData} : Is M H v d → IsAll M H vs ds → IsAll M H (v :: vs) (d :: ds)
end
section
variable {M M' : List Addr} {H H' H'' : Hp} {v x : V} {vs xs : List V} {d : PyData} {ds : List PyData} {a p : Addr} {o : HO} {K : PySem.W.Frag}
theorem Ext.refl : Ext M H H := ⟨fun _ _ _ h => h, fun _ h => h⟩
theorem Ext.trans (e : Ext M H H') (f : Ext M H' H'') : Ext M H H'' := ⟨fun b o hb h => f.keep b o hb (e.keep b o hb h), fun b h => f.there b (e.there b h)⟩
theorem Ext.more (e : Ext M H H') (h : ∀ b ∈ M, b ∈ M') : Ext M' H H' := ⟨fun b o hb k => e.keep b o (fun q => hb (h b q)) k, e.there⟩
theorem Ext.any (e : Ext [] H H') : Ext M H H' := e.more fun b h => nomatch h
theorem there_upd : ∀ b, H b ≠ none → (upd H p o) b ≠ none := fun b h => by
  unfold upd
  split
  · exact fun z => nomatch z
  · exact h
theorem Ext.new (h : H p = none) : Ext M H (upd H p o) := ⟨fun b u _ k => by rw [upd_ne (ne_of_none k h)]; exact k, there_upd⟩
theorem Ext.set (h : p ∈ M) : Ext M H (upd H p o) := ⟨fun b u hb k => by rw [upd_ne (fun e => hb (by rw [e]; exact h))]; exact k, there_upd⟩
/-- a change of what was not there at first -/
theorem Ext.mut (e : Ext M H H') (h : H p = none) : Ext M H (upd H' p o) := ⟨fun b u hb k => by rw [upd_ne (ne_of_none k h)]; exact e.keep b u hb k, fun b k => there_upd b (e.there b k)⟩
theorem Ext.same (e : Ext [] H H') : Same H H' := fun b o h => e.keep b o (fun q => nomatch q) h
theorem Ext.free (e : Ext M H H') (h : H' p = none) : H p = none := by
  cases q : H p with
  | none => rfl
  | some o => exact absurd h (e.there p (by rw [q]; exact fun z => nomatch z))
theorem Ext.drop (e : Ext (p :: M) H H') (h : H p = none) : Ext M H H' := ⟨fun b o hb k => e.keep b o (fun q => by
  rcases List.mem_cons.mp q with rfl | q
  · rw [h] at k; cases k
  · exact hb q) k, e.there⟩
theorem Al.ext (s : Al M H) (e : Ext M' H H') : Al M H' := fun b hb => e.there b (s b hb)
theorem Al.nil : Al [] H := fun b h => nomatch h
theorem Al.cons (h : H p ≠ none) (s : Al M H) : Al (p :: M) H := fun b hb => by
  rcases List.mem_cons.mp hb with rfl | hb
  · exact h
  · exact s b hb
theorem Al.fresh (s : Al M H) (h : H p = none) : p ∉ M := fun q => s p q h
theorem some_ne {b : Addr} {o : HO} (h : H b = some o) : H b ≠ none := by rw [h]; exact fun z => nomatch z
theorem upd_there : upd H p o p ≠ none := by rw [upd_same]; exact fun z => nomatch z
mutual
theorem Is.mono (e : Ext M H H') : ∀ {v : V} {d : PyData}, Is M H v d → Is M H' v d
  | _, _, .non => .non
  | _, _, .bl b => .bl b
  | _, _, .int i => .int i
  | _, _, .str x => .str x
  | _, _, .lst n h r => .lst n (e.keep _ _ n h) (IsAll.mono e r)
  | _, _, .tup n h r => .tup n (e.keep _ _ n h) (IsAll.mono e r)
theorem IsAll.mono (e : Ext M H H') : ∀ {vs : List V} {ds : List PyData}, IsAll M H vs ds → IsAll M H' vs ds
  | _, _, .nil => .nil
  | _, _, .cons h r => .cons (Is.mono e h) (IsAll.mono e r)
end
mutual
/-- other objects are looked away from -/
theorem Is.swap (h : ∀ b ∈ M', b ∈ M ∨ H b = none) : ∀ {v : V} {d : PyData}, Is M H v d → Is M' H v d
  | _, _, .non => .non
  | _, _, .bl b => .bl b
  | _, _, .int i => .int i
  | _, _, .str x => .str x
  | _, _, .lst n k r => .lst (fun q => by
      rcases h _ q with z | z
      · exact n z
      · rw [z] at k; cases k) k (IsAll.swap h r)
  | _, _, .tup n k r => .tup (fun q => by
      rcases h _ q with z | z
      · exact n z
      · rw [z] at k; cases k) k (IsAll.swap h r)
theorem IsAll.swap (h : ∀ b ∈ M', b ∈ M ∨ H b = none) : ∀ {vs : List V} {ds : List PyData}, IsAll M H vs ds → IsAll M' H vs ds
  | _, _, .nil => .nil
  | _, _, .cons k r => .cons (Is.swap h k) (IsAll.swap h r)
end
theorem Is.off (i : Is M H v d) (h : H p = none) : Is (p :: M) H v d := i.swap fun b hb => by
  rcases List.mem_cons.mp hb with rfl | hb
  · exact .inr h
  · exact .inl hb
theorem IsAll.off (i : IsAll M H vs ds) (h : H p = none) : IsAll (p :: M) H vs ds := i.swap fun b hb => by
  rcases List.mem_cons.mp hb with rfl | hb
  · exact .inr h
  · exact .inl hb
theorem Is.on (i : Is (p :: M) H v d) : Is M H v d := i.swap fun b hb => .inl (List.mem_cons_of_mem _ hb)
theorem IsAll.on (i : IsAll (p :: M) H vs ds) : IsAll M H vs ds := i.swap fun b hb => .inl (List.mem_cons_of_mem _ hb)
theorem Is.all (i : Is M H v d) : Is [] H v d := i.swap fun b hb => absurd hb (by simp)
/-- a new object beside -/
theorem Is.beside (i : Is M H v d) (h : H p = none) : Is (p :: M) (upd H p o) v d := (i.off h).mono (.set (List.mem_cons_self ..))
theorem IsAll.beside (i : IsAll M H vs ds) (h : H p = none) : IsAll (p :: M) (upd H p o) vs ds := (i.off h).mono (.set (List.mem_cons_self ..))
mutual
theorem Is.dp : ∀ {v : V} {d : PyData}, Is M H v d → Dp K H v d
  | _, _, .non => .non
  | _, _, .bl b => .bl b
  | _, _, .int i => .int i
  | _, _, .str x => .str x
  | _, _, .lst _ h r => .lst (SqL.of h) (IsAll.dp r)
  | _, _, .tup _ h r => .tup (SqT.of h) (IsAll.dp r)
theorem IsAll.dp : ∀ {vs : List V} {ds : List PyData}, IsAll M H vs ds → DpAll K H vs ds
  | _, _, .nil => .nil
  | _, _, .cons h r => .cons (Is.dp h) (IsAll.dp r)
end
theorem IsAll.length : ∀ {vs : List V} {ds : List PyData}, IsAll M H vs ds → vs.length = ds.length
  | _, _, .nil => rfl
  | _, _, .cons _ r => congrArg Nat.succ r.length
theorem IsAll.get : ∀ {vs : List V} {ds : List PyData} {i : Nat}, IsAll M H vs ds → ds[i]? = some d → ∃ v, vs[i]? = some v ∧ Is M H v d
  | _, _, _, .nil, e => by simp at e
  | _, _, 0, .cons h _, e => by simp at e; subst e; exact ⟨_, rfl, h⟩
  | _, _, i + 1, .cons _ r, e => by
    obtain ⟨u, h1, h2⟩ := IsAll.get (i := i) r (by simpa using e)
    exact ⟨u, by simpa using h1, h2⟩
theorem IsAll.got : ∀ {vs : List V} {ds : List PyData} {i : Nat}, IsAll M H vs ds → vs[i]? = some v → ∃ d, ds[i]? = some d ∧ Is M H v d
  | _, _, _, .nil, e => by simp at e
  | _, _, 0, .cons h _, e => by simp at e; subst e; exact ⟨_, rfl, h⟩
  | _, _, i + 1, .cons _ r, e => by
    obtain ⟨u, h1, h2⟩ := IsAll.got (i := i) r (by simpa using e)
    exact ⟨u, by simpa using h1, h2⟩
theorem IsAll.append : ∀ {vs ws : List V} {ds es : List PyData}, IsAll M H vs ds → IsAll M H ws es → IsAll M H (vs ++ ws) (ds ++ es)
  | _, _, _, _, .nil, s => s
  | _, _, _, _, .cons r t, s => .cons r (IsAll.append t s)
theorem IsAll.one (h : Is M H v d) : IsAll M H [v] [d] := .cons h .nil
theorem IsAll.take : ∀ {vs : List V} {ds : List PyData} (n : Nat), IsAll M H vs ds → IsAll M H (vs.take n) (ds.take n)
  | _, _, 0, _ => by simp only [List.take_zero]; exact .nil
  | _, _, _ + 1, .nil => .nil
  | _, _, n + 1, .cons r t => .cons r (IsAll.take n t)
theorem IsAll.drop : ∀ {vs : List V} {ds : List PyData} (n : Nat), IsAll M H vs ds → IsAll M H (vs.drop n) (ds.drop n)
  | _, _, 0, r => r
  | _, _, _ + 1, .nil => .nil
  | _, _, n + 1, .cons _ t => IsAll.drop n t
theorem IsAll.rev : ∀ {vs : List V} {ds : List PyData}, IsAll M H vs ds → IsAll M H vs.reverse ds.reverse
  | _, _, .nil => .nil
  | _, _, .cons r t => by
    rw [List.reverse_cons, List.reverse_cons]
    exact (IsAll.rev t).append (.one r)
theorem IsAll.set : ∀ {vs : List V} {ds : List PyData} (i : Nat), IsAll M H vs ds → Is M H v d → IsAll M H (vs.set i v) (ds.set i d)
  | _, _, _, .nil, _ => .nil
  | _, _, 0, .cons _ t, h => .cons h t
  | _, _, i + 1, .cons r t, h => .cons r (IsAll.set i t h)
theorem IsAll.ints : ∀ ns : List Int, IsAll M H (ns.map V.int) (ns.map PyData.int)
  | [] => .nil
  | n :: ns => .cons (.int n) (IsAll.ints ns)
theorem IsAll.ofInts : ∀ {vs : List V} {ns : List Int}, IsAll M H vs (ns.map PyData.int) → vs = ns.map V.int
  | _, [], h => by cases h; rfl
  | _, n :: ns, h => by
    cases h with
    | cons h r => cases h; rw [IsAll.ofInts r]; rfl
/-! readings -/
theorem Is.list (i : Is M H (.ref a) (.list ds)) : ∃ xs, a ∉ M ∧ H a = some (.lst xs) ∧ IsAll M H xs ds := by
  cases i with
  | lst n h r => exact ⟨_, n, h, r⟩
theorem Is.tuple (i : Is M H (.ref a) (.tuple ds)) : ∃ xs, a ∉ M ∧ H a = some (.tup xs) ∧ IsAll M H xs ds := by
  cases i with
  | tup n h r => exact ⟨_, n, h, r⟩
theorem Is.listV (i : Is M H v (.list ds)) : ∃ a xs, v = .ref a ∧ a ∉ M ∧ H a = some (.lst xs) ∧ IsAll M H xs ds := by
  cases i with
  | lst n h r => exact ⟨_, _, rfl, n, h, r⟩
theorem Is.tupleV (i : Is M H v (.tuple ds)) : ∃ a xs, v = .ref a ∧ a ∉ M ∧ H a = some (.tup xs) ∧ IsAll M H xs ds := by
  cases i with
  | tup n h r => exact ⟨_, _, rfl, n, h, r⟩
variable {Q : VK} {e : PyData}
theorem rd_dix {i : Int} {j : Nat} (h : Is M H (.ref a) (.list ds)) (hj : i = (j : Int)) (hd : ds[j]? = some d) (q : ∀ v, Is M H v d → Q v H) : rIxL K (.ref a) (.int i) H Q := by
  obtain ⟨xs, _, hx, r⟩ := h.list
  obtain ⟨v, hv, iv⟩ := r.get hd
  exact ⟨a, xs, i, v, rfl, rfl, SqL.of hx, by rw [hj]; exact atI_nat hv, q v iv⟩
theorem rd_dixT {i : Int} {j : Nat} (h : Is M H (.ref a) (.tuple ds)) (hj : i = (j : Int)) (hd : ds[j]? = some d) (q : ∀ v, Is M H v d → Q v H) : rIxT K (.ref a) (.int i) H Q := by
  obtain ⟨xs, _, hx, r⟩ := h.tuple
  obtain ⟨v, hv, iv⟩ := r.get hd
  exact ⟨a, xs, i, v, rfl, rfl, SqT.of hx, by rw [hj]; exact atI_nat hv, q v iv⟩
theorem rd_dlen (h : Is M H (.ref a) (.list ds)) (q : ds.length ≤ 1152921504606846976 → Q (.int ds.length) H) : qLen K [.ref a] H Q := by
  obtain ⟨xs, _, hx, r⟩ := h.list
  exact rd_lenL (SqL.of hx) (by rw [r.length]; exact q)
theorem rd_dlenT (h : Is M H (.ref a) (.tuple ds)) (q : ds.length ≤ 1152921504606846976 → Q (.int ds.length) H) : qLen K [.ref a] H Q := by
  obtain ⟨xs, _, hx, r⟩ := h.tuple
  exact rd_lenT (SqT.of hx) (by rw [r.length]; exact q)
theorem rd_eqD (h : Is M H x d) (k : Is M' H v e) (s1 : SeqAt.shaped d = true) (s2 : SeqAt.shaped e = true) (q : Q (.bl (PyData.eqv d e)) H) : rEqD K x v H Q := ⟨d, e, h.dp, k.dp, s1, s2, q⟩
theorem rd_neD (h : Is M H x d) (k : Is M' H v e) (s1 : SeqAt.shaped d = true) (s2 : SeqAt.shaped e = true) (q : Q (.bl (!PyData.eqv d e)) H) : rNeD K x v H Q := ⟨d, e, h.dp, k.dp, s1, s2, q⟩
/-- a new list, a new tuple -/
theorem new_lst (s : Al M H) (h : IsAll M H xs ds) (hp : H p = none) : Is M (upd H p (.lst xs)) (.ref p) (.list ds) := .lst (s.fresh hp) upd_same (h.mono (.new hp))
theorem new_tup (s : Al M H) (h : IsAll M H xs ds) (hp : H p = none) : Is M (upd H p (.tup xs)) (.ref p) (.tuple ds) := .tup (s.fresh hp) upd_same (h.mono (.new hp))
theorem szl {n : Nat} (h : n ≤ 1000) : n ≤ sizeLine := Nat.le_of_lt (small1000 h)
theorem szL {n : Nat} (h : n ≤ 100000) : n ≤ sizeLine := Nat.le_trans h (by decide)
theorem szl' {n : Nat} (h : n ≤ 100000) : n < sizeLine := Nat.lt_of_le_of_lt h (by decide)
theorem rd_dtup {K : PySem.W.Frag} {σ : L2.St} {ts : TA} (q : ts σ H fun xs H1 => xs.length ≤ sizeLine ∧ ∀ p, H1 p = none → Q (.ref p) (upd H1 p (.tup xs))) : tTup ts σ H Q := q
/-- slices by places that are not negative -/
theorem cut_nn (xs : List V) (lo hi : Nat) : cutV xs (some (lo : Int)) (some (hi : Int)) = (xs.take hi).drop lo := by
  unfold cutV
  rw [HT.sIx_nat, HT.sIx_nat, List.drop_take]
  apply List.ext_getElem?
  intro i
  simp only [List.getElem?_take, List.getElem?_drop]
  by_cases h1 : lo ≤ xs.length
  · rw [Nat.min_eq_left h1]
    by_cases h2 : hi ≤ xs.length
    · rw [Nat.min_eq_left h2]
    · rw [Nat.min_eq_right (by omega)]
      by_cases h3 : i < hi - lo
      · rw [if_pos h3]
        by_cases h4 : i < xs.length - lo
        · rw [if_pos h4]
        · rw [if_neg h4, List.getElem?_eq_none (by omega)]
      · rw [if_neg h3, if_neg (by omega)]
  · rw [Nat.min_eq_right (by omega : xs.length ≤ lo), if_neg (by omega)]
    split
    · rw [List.getElem?_eq_none (by omega)]
    · rfl
theorem cut_0n (xs : List V) (hi : Nat) : cutV xs none (some (hi : Int)) = xs.take hi := by
  have e := cut_nn xs 0 hi
  rw [List.drop_zero] at e
  rw [← e]
  unfold cutV
  rw [HT.sIx_nat, HT.sIx_nat, HT.sIx_none, Nat.zero_min]
theorem cut_n0 (xs : List V) (lo : Nat) : cutV xs (some (lo : Int)) none = xs.drop lo := by
  have e := cut_nn xs lo xs.length
  rw [List.take_length] at e
  rw [← e]
  unfold cutV
  rw [HT.sIx_nat, HT.sIx_nat, HT.sIx_none, Nat.min_self]
theorem cut_00 (xs : List V) : cutV xs none none = xs := by
  unfold cutV
  rw [HT.sIx_none, HT.sIx_none, List.drop_zero, Nat.sub_zero, List.take_length]
theorem IsAll.cut {lo hi : Nat} (h : IsAll M H xs ds) : IsAll M H (cutV xs (some (lo : Int)) (some (hi : Int))) ((ds.take hi).drop lo) := by
  rw [cut_nn]
  exact (h.take hi).drop lo
theorem IsAll.cut0 {hi : Nat} (h : IsAll M H xs ds) : IsAll M H (cutV xs none (some (hi : Int))) (ds.take hi) := by
  rw [cut_0n]
  exact h.take hi
theorem IsAll.cutN {lo : Nat} (h : IsAll M H xs ds) : IsAll M H (cutV xs (some (lo : Int)) none) (ds.drop lo) := by
  rw [cut_n0]
  exact h.drop lo
end
section
variable {M : List Addr} {H0 H H1 : Hp} {a D : Addr} {ds : List PyData} {K : PySem.W.Frag} {j : Nat} {vs : List Nat} {te : TE} {tt : TT} {σ : L2.St} {Qd : Hp → Prop} {g : TG} {tb : TS} {E : Ends}
/-- a walk over data, the list stands still -/
theorem for_data (h : Is M H0 (.ref a) (.list ds)) (Pv : Nat → L2.St → Hp → Prop) (h0 : Pv 0 σ H) (hE : ∀ i σ H, Pv i σ H → Ext M H0 H)
    (hs : ∀ i d x σ H, ds[i]? = some d → Is M H x d → Pv i σ H → g x σ H fun σ2 H2 => tb { E with nx := Pv (i + 1), ct := Pv (i + 1), bk := E.nx } σ2 H2) (hd : ∀ σ H, Pv ds.length σ H → E.nx σ H) :
    ∃ W : Nat → Nat → L2.St → Hp → Prop, (∃ m, W 0 m σ H) ∧ ∀ i m σ H, W i m σ H →
      ((Itl K a).stop i H ∧ E.nx σ H) ∨ ((Itl K a).go i H ∧ ∃ N : L2.St → Hp → Prop, (∀ σ' H', N σ' H' → ∃ m', m' < m ∧ W (i + 1) m' σ' H') ∧ ∀ x H', (Itl K a).yld i H x H' → g x σ H' fun σ2 H2 => tb { E with nx := N, ct := N, bk := E.nx } σ2 H2) := by
  obtain ⟨xs, na, hx, r⟩ := h.list
  refine for_list (xs := xs) Pv h0 (fun i σ H _ p => SqL.of ((hE i σ H p).keep _ _ na hx)) (fun i x σ H hi p => ?_) (fun σ H p => hd σ H (by rw [← r.length]; exact p))
  obtain ⟨d, hd', iv⟩ := r.got hi
  exact hs i d x σ H hd' (iv.mono (hE i σ H p)) p
theorem for_dataT (h : Is M H0 (.ref a) (.tuple ds)) (Pv : Nat → L2.St → Hp → Prop) (h0 : Pv 0 σ H) (hE : ∀ i σ H, Pv i σ H → Ext M H0 H)
    (hs : ∀ i d x σ H, ds[i]? = some d → Is M H x d → Pv i σ H → g x σ H fun σ2 H2 => tb { E with nx := Pv (i + 1), ct := Pv (i + 1), bk := E.nx } σ2 H2) (hd : ∀ σ H, Pv ds.length σ H → E.nx σ H) :
    ∃ W : Nat → Nat → L2.St → Hp → Prop, (∃ m, W 0 m σ H) ∧ ∀ i m σ H, W i m σ H →
      ((Itt K a).stop i H ∧ E.nx σ H) ∨ ((Itt K a).go i H ∧ ∃ N : L2.St → Hp → Prop, (∀ σ' H', N σ' H' → ∃ m', m' < m ∧ W (i + 1) m' σ' H') ∧ ∀ x H', (Itt K a).yld i H x H' → g x σ H' fun σ2 H2 => tb { E with nx := N, ct := N, bk := E.nx } σ2 H2) := by
  obtain ⟨xs, na, hx, r⟩ := h.tuple
  refine for_tup (xs := xs) Pv h0 (fun i σ H _ p => SqT.of ((hE i σ H p).keep _ _ na hx)) (fun i x σ H hi p => ?_) (fun σ H p => hd σ H (by rw [← r.length]; exact p))
  obtain ⟨d, hd', iv⟩ := r.got hi
  exact hs i d x σ H hd' (iv.mono (hE i σ H p)) p
/-- what a comprehension has made so far -/
structure Made (M : List Addr) (H0 : Hp) (D : Addr) (es : List PyData) (H : Hp) : Prop where
  free : H0 D = none
  ext : Ext [] H0 H
  off : D ∉ M
  ls : ∃ ys, H D = some (.lst ys) ∧ IsAll (D :: M) H ys es
theorem Made.start (s : Al M H0) (hD : H0 D = none) : Made M H0 D [] (upd H0 D (.lst [])) := ⟨hD, .new hD, s.fresh hD, [], upd_same, .nil⟩
theorem Made.al {es : List PyData} (m : Made M H0 D es H) (s : Al M H0) : Al (D :: M) H := by
  obtain ⟨ys, h1, h2⟩ := m.ls
  exact .cons (some_ne h1) (s.ext m.ext)
theorem Made.is {es : List PyData} (m : Made M H0 D es H) : Is M H (.ref D) (.list es) := by
  obtain ⟨ys, h1, h2⟩ := m.ls
  exact .lst m.off h1 h2.on
theorem Made.step {es : List PyData} {d : PyData} {y : V} {H' : Hp} (m : Made M H0 D es H) (e : Ext [] H H') (h : Is (D :: M) H' y d) (hl : es.length < 100000) :
    ∃ acc, H' D = some (.lst acc) ∧ acc.length < sizeLine ∧ Made M H0 D (es ++ [d]) (upd H' D (.lst (acc ++ [y]))) := by
  obtain ⟨ys, h1, h2⟩ := m.ls
  refine ⟨ys, e.keep _ _ (fun q => nomatch q) h1, szl' (by rw [h2.length]; omega), m.free, (m.ext.trans e).mut m.free, m.off, _, upd_same, ?_⟩
  exact ((h2.mono e.any).append (.one h)).mono (.set (List.mem_cons_self ..))
theorem Made.ext' {es : List PyData} {H' : Hp} (m : Made M H0 D es H) (e : Ext [] H H') : Made M H0 D es H' := by
  obtain ⟨ys, h1, h2⟩ := m.ls
  exact ⟨m.free, m.ext.trans e, m.off, ys, e.keep _ _ (fun q => nomatch q) h1, h2.mono e.any⟩
theorem rd_yes {H : Hp} {Q : Bool → Hp → Prop} (q : Q true H) : tYes σ H Q := q
/-- [e for x in range(..)] -/
theorem lc_rng {lo : Int} {n : Nat} (f : Nat → PyData) (s : Al M H0) (hD : H0 D = none) (hn : n ≤ 100000) (hw : ∀ x, wipe ((wipe σ vs).set j (some x)) vs = wipe σ vs)
    (he : ∀ (i : Nat) H', i < n → Al (D :: M) H' → Ext [] H0 H' → ∀ R : VK, (∀ y H'', Ext [] H' H'' → Is (D :: M) H'' y (f i) → R y H'') → te ((wipe σ vs).set j (some (.int (lo + i)))) H' R)
    (hd : ∀ H', Ext [] H0 H' → Is M H' (.ref D) (.list ((List.range n).map f)) → Qd H') :
    ∃ W : Nat → Nat → Hp → Prop, (∃ m, W 0 m (upd H0 D (.lst []))) ∧ ∀ i m H, W i m H →
      ((Itr lo n).stop i H ∧ Qd H) ∨ ((Itr lo n).go i H ∧ ∃ Nx : Hp → Prop, (∀ H', Nx H' → ∃ m', m' < m ∧ W (i + 1) m' H') ∧ ∀ x H', (Itr lo n).yld i H x H' → gName j x (wipe σ vs) H' fun σ2 H2 => wipe σ2 vs = wipe σ vs ∧ tYes σ2 H2 fun b H3 =>
        if b = true then te σ2 H3 fun y H4 => ∃ acc, H4 D = some (.lst acc) ∧ acc.length < sizeLine ∧ Nx (upd H4 D (.lst (acc ++ [y]))) else Nx H3) := by
  refine lc_range (fun i H' => Made M H0 D ((List.range i).map f) H') (Made.start s hD) (fun i H' hi m => ?_) fun H' m => hd H' m.ext m.is
  refine ⟨hw _, rd_yes ?_⟩
  refine iteT ?_
  refine he i H' hi (m.al s) m.ext _ fun y H'' e r => ?_
  rw [List.range_succ, List.map_append]
  exact m.step e r (by rw [List.length_map, List.length_range]; omega)
/-- [e for x in a list] -/
theorem lc_map (f : PyData → PyData) (s : Al M H0) (hD : H0 D = none) (h : Is M H0 (.ref a) (.list ds)) (hn : ds.length ≤ 100000) (hw : ∀ x, wipe ((wipe σ vs).set j (some x)) vs = wipe σ vs)
    (he : ∀ (x : V) (d : PyData) H', d ∈ ds → Al (D :: M) H' → Ext [] H0 H' → Is (D :: M) H' x d → ∀ R : VK, (∀ y H'', Ext [] H' H'' → Is (D :: M) H'' y (f d) → R y H'') → te ((wipe σ vs).set j (some x)) H' R)
    (hd : ∀ H', Ext [] H0 H' → Is M H' (.ref D) (.list (ds.map f)) → Qd H') :
    ∃ W : Nat → Nat → Hp → Prop, (∃ m, W 0 m (upd H0 D (.lst []))) ∧ ∀ i m H, W i m H →
      ((Itl K a).stop i H ∧ Qd H) ∨ ((Itl K a).go i H ∧ ∃ Nx : Hp → Prop, (∀ H', Nx H' → ∃ m', m' < m ∧ W (i + 1) m' H') ∧ ∀ x H', (Itl K a).yld i H x H' → gName j x (wipe σ vs) H' fun σ2 H2 => wipe σ2 vs = wipe σ vs ∧ tYes σ2 H2 fun b H3 =>
        if b = true then te σ2 H3 fun y H4 => ∃ acc, H4 D = some (.lst acc) ∧ acc.length < sizeLine ∧ Nx (upd H4 D (.lst (acc ++ [y]))) else Nx H3) := by
  obtain ⟨xs, na, hx, r⟩ := h.list
  refine lc_list (xs := xs) (fun i H' => Made M H0 D ((ds.take i).map f) H') (Made.start s hD) (fun i H' _ m => SqL.of (m.ext.keep _ _ (fun q => nomatch q) hx)) (fun i x H' hi m => ?_) fun H' m => hd H' m.ext (by have z := m.is; rw [r.length, List.take_length] at z; exact z)
  obtain ⟨d, hd', iv⟩ := r.got hi
  have hlt : i < ds.length := (List.getElem?_eq_some_iff.mp hd').1
  refine ⟨hw _, rd_yes ?_⟩
  refine iteT ?_
  refine he x d H' (List.mem_of_getElem? hd') (m.al s) m.ext ((iv.off hD).mono m.ext.any) _ fun y H'' e r => ?_
  have et : ds.take (i + 1) = ds.take i ++ [d] := by rw [List.take_add_one, hd']; rfl
  rw [et, List.map_append]
  exact m.step e r (by rw [List.length_map, List.length_take]; omega)
/-- [e for x in a list if test] -/
theorem lc_filter (f : PyData → PyData) (p : PyData → Bool) (s : Al M H0) (hD : H0 D = none) (h : Is M H0 (.ref a) (.list ds)) (hn : ds.length ≤ 100000) (hw : ∀ x, wipe ((wipe σ vs).set j (some x)) vs = wipe σ vs)
    (ht : ∀ (x : V) (d : PyData) H', d ∈ ds → Al (D :: M) H' → Ext [] H0 H' → Is (D :: M) H' x d → ∀ R : Bool → Hp → Prop, (∀ H'', Ext [] H' H'' → R (p d) H'') → tt ((wipe σ vs).set j (some x)) H' R)
    (he : ∀ (x : V) (d : PyData) H', d ∈ ds → p d = true → Al (D :: M) H' → Ext [] H0 H' → Is (D :: M) H' x d → ∀ R : VK, (∀ y H'', Ext [] H' H'' → Is (D :: M) H'' y (f d) → R y H'') → te ((wipe σ vs).set j (some x)) H' R)
    (hd : ∀ H', Ext [] H0 H' → Is M H' (.ref D) (.list ((ds.filter p).map f)) → Qd H') :
    ∃ W : Nat → Nat → Hp → Prop, (∃ m, W 0 m (upd H0 D (.lst []))) ∧ ∀ i m H, W i m H →
      ((Itl K a).stop i H ∧ Qd H) ∨ ((Itl K a).go i H ∧ ∃ Nx : Hp → Prop, (∀ H', Nx H' → ∃ m', m' < m ∧ W (i + 1) m' H') ∧ ∀ x H', (Itl K a).yld i H x H' → gName j x (wipe σ vs) H' fun σ2 H2 => wipe σ2 vs = wipe σ vs ∧ tt σ2 H2 fun b H3 =>
        if b = true then te σ2 H3 fun y H4 => ∃ acc, H4 D = some (.lst acc) ∧ acc.length < sizeLine ∧ Nx (upd H4 D (.lst (acc ++ [y]))) else Nx H3) := by
  obtain ⟨xs, na, hx, r⟩ := h.list
  refine lc_list (xs := xs) (fun i H' => Made M H0 D (((ds.take i).filter p).map f) H') (Made.start s hD) (fun i H' _ m => SqL.of (m.ext.keep _ _ (fun q => nomatch q) hx)) (fun i x H' hi m => ?_) fun H' m => hd H' m.ext (by have z := m.is; rw [r.length, List.take_length] at z; exact z)
  obtain ⟨d, hd', iv⟩ := r.got hi
  have hlt : i < ds.length := (List.getElem?_eq_some_iff.mp hd').1
  have et : ds.take (i + 1) = ds.take i ++ [d] := by rw [List.take_add_one, hd']; rfl
  refine ⟨hw _, ?_⟩
  refine ht x d H' (List.mem_of_getElem? hd') (m.al s) m.ext ((iv.off hD).mono m.ext.any) _ fun H2 e2 => ?_
  rw [et, List.filter_append, List.map_append]
  cases hp : p d with
  | true =>
    refine iteT (he x d H2 (List.mem_of_getElem? hd') hp ((m.al s).ext e2) (m.ext.trans e2) ((iv.off hD).mono (m.ext.trans e2).any) _ fun y H'' e r => ?_)
    rw [List.filter_cons, if_pos hp]
    refine m.step (e2.trans e) r ?_
    rw [List.length_map]
    have z := List.length_filter_le p (ds.take i)
    rw [List.length_take] at z
    omega
  | false =>
    refine iteF ?_
    rw [List.filter_cons, if_neg (by rw [hp]; exact Bool.false_ne_true)]
    show Made M H0 D (_ ++ []) H2
    rw [List.append_nil]
    exact m.ext' e2
end
section
variable {K : PySem.W.Frag} {σ : L2.St} {H : Hp} {Q : VK} {te : TE} {l : Addr} {xs : List V}
/-- l.append(e) -/
theorem rd_app (h : H l = some (.lst xs)) (q : te σ H fun y H2 => ∃ ys, H2 l = some (.lst ys) ∧ ys.length < sizeLine ∧ Q .non (upd H2 l (.lst (ys ++ [y])))) :
    tyV K "list" (.ref l) H ∧ tCons te tNil σ H fun vs H2 => rAppend (.ref l) vs H2 Q := by
  refine ⟨.inl ⟨rfl, _, SqL.of h⟩, ?_⟩
  refine rd_cons ?_
  have : (fun y H2 => ∃ ys, H2 l = some (.lst ys) ∧ ys.length < sizeLine ∧ Q .non (upd H2 l (.lst (ys ++ [y])))) = fun y H2 => tNil σ H2 fun vs H3 => rAppend (.ref l) (y :: vs) H3 Q := by
    funext y H2
    refine propext ⟨?_, ?_⟩
    · rintro ⟨ys, a, b, c⟩
      exact ⟨l, ys, y, rfl, rfl, a, b, c⟩
    · rintro ⟨l', ys, y', e1, e2, a, b, c⟩
      cases e1; cases e2
      exact ⟨ys, a, b, c⟩
  rw [← this]
  exact q
end
/-! shapes -/
theorem clAll_mem : ∀ {ds : List PyData}, (∀ d ∈ ds, PyData.canLay0 d = true) → PyData.canLayAll0 ds = true
  | [], _ => by simp [PyData.canLayAll0]
  | d :: ds, h => by
    simp only [PyData.canLayAll0, Bool.and_eq_true]
    exact ⟨h d (List.mem_cons_self ..), clAll_mem fun e he => h e (List.mem_cons_of_mem _ he)⟩
theorem depthAll_mem {n : Nat} : ∀ {ds : List PyData}, (∀ d ∈ ds, PyData.depth d ≤ n) → PyData.depthAll ds ≤ n
  | [], _ => by simp [PyData.depthAll]
  | d :: ds, h => by
    simp only [PyData.depthAll]
    exact Nat.max_le.mpr ⟨h d (List.mem_cons_self ..), depthAll_mem fun e he => h e (List.mem_cons_of_mem _ he)⟩
/-- shaped, at most n deep -/
def Sh (n : Nat) (d : PyData) : Prop := PyData.canLay0 d = true ∧ PyData.depth d ≤ n
theorem Sh.ok {n : Nat} {d : PyData} (h : Sh n d) (hn : n ≤ 64 := by decide) : SeqAt.shaped d = true := by
  unfold SeqAt.shaped
  rw [h.1, Bool.true_and]
  exact decide_eq_true (Nat.le_trans h.2 hn)
theorem Sh.int {n : Nat} (i : Int) : Sh n (.int i) := ⟨by simp [PyData.canLay0], by simp [PyData.depth]⟩
theorem Sh.non {n : Nat} : Sh n .none := ⟨by simp [PyData.canLay0], by simp [PyData.depth]⟩
theorem Sh.bl {n : Nat} (b : Bool) : Sh n (.bool b) := ⟨by simp [PyData.canLay0], by simp [PyData.depth]⟩
theorem Sh.list {n : Nat} {ds : List PyData} (h : ∀ d ∈ ds, Sh n d) : Sh (n + 1) (.list ds) :=
  ⟨by simp only [PyData.canLay0]; exact clAll_mem fun d hd => (h d hd).1, by simp only [PyData.depth]; exact Nat.succ_le_succ (depthAll_mem fun d hd => (h d hd).2)⟩
theorem Sh.tuple {n : Nat} {ds : List PyData} (h : ∀ d ∈ ds, Sh n d) : Sh (n + 1) (.tuple ds) :=
  ⟨by simp only [PyData.canLay0]; exact clAll_mem fun d hd => (h d hd).1, by simp only [PyData.depth]; exact Nat.succ_le_succ (depthAll_mem fun d hd => (h d hd).2)⟩
theorem Sh.refl {n : Nat} {d : PyData} (h : Sh n d) : PyData.eqv d d = true := SeqAt.eqv_refl d h.1
/-- lists of numbers -/
abbrev nats (ns : List Nat) : PyData := .list (ns.map fun n : Nat => .int n)
theorem sh_nats {n : Nat} (ns : List Nat) : Sh (n + 1) (nats ns) := Sh.list fun d hd => by
  obtain ⟨k, _, rfl⟩ := List.mem_map.mp hd
  exact .int _
theorem eqvAll_ints : ∀ xs ys : List Nat, PyData.eqvAll (xs.map fun n : Nat => .int n) (ys.map fun n : Nat => .int n) = decide (xs = ys)
  | [], [] => by simp [PyData.eqvAll]
  | [], _ :: _ => by simp [PyData.eqvAll]
  | _ :: _, [] => by simp [PyData.eqvAll]
  | x :: xs, y :: ys => by
    have ih := eqvAll_ints xs ys
    simp only [List.map_cons, PyData.eqvAll, PyData.eqv, ih]
    by_cases h : x = y
    · subst h; simp
    · have : ¬ (x : Int) = (y : Int) := by omega
      simp [h, this]
theorem eqv_nats (xs ys : List Nat) : PyData.eqv (nats xs) (nats ys) = decide (xs = ys) := by
  simp only [PyData.eqv]
  exact eqvAll_ints xs ys
theorem nats_V {M : List Addr} {H : Hp} (ns : List Nat) : IsAll M H (ns.map fun n : Nat => V.int n) (ns.map fun n : Nat => PyData.int n) := by
  induction ns with
  | nil => exact .nil
  | cons n ns ih => exact .cons (.int _) ih
/-! ### loops, comprehensions, slices: the rest of their readings under names -/
def qFor (J : It) (g : TG) (tb : TS) (D : Ends) (σ : L2.St) (H1 : Hp) : Prop := ∃ W : Nat → Nat → L2.St → Hp → Prop, (∃ m, W 0 m σ H1) ∧ ∀ i m σ H, W i m σ H → (J.stop i H ∧ D.nx σ H) ∨
  (J.go i H ∧ ∃ N : L2.St → Hp → Prop, (∀ σ' H', N σ' H' → ∃ m', m' < m ∧ W (i + 1) m' σ' H') ∧ ∀ x H', J.yld i H x H' → g x σ H' fun σ2 H2 => tb { D with nx := N, ct := N, bk := D.nx } σ2 H2)
def qLc (J : It) (g : TG) (tt : TT) (te : TE) (vs : List Nat) (σ : L2.St) (D : Addr) (H1 : Hp) (Q : VK) : Prop := ∃ W : Nat → Nat → Hp → Prop, (∃ m, W 0 m (upd H1 D (.lst []))) ∧ ∀ i m H, W i m H → (J.stop i H ∧ Q (.ref D) H) ∨
  (J.go i H ∧ ∃ Nx : Hp → Prop, (∀ H', Nx H' → ∃ m', m' < m ∧ W (i + 1) m' H') ∧ ∀ x H', J.yld i H x H' → g x (wipe σ vs) H' fun σ2 H2 => wipe σ2 vs = wipe σ vs ∧ tt σ2 H2 fun b H3 => if b = true then te σ2 H3 fun y H4 => ∃ acc, H4 D = some (.lst acc) ∧ acc.length < sizeLine ∧ Nx (upd H4 D (.lst (acc ++ [y]))) else Nx H3)
section
variable {K : PySem.W.Frag} {σ : L2.St} {H : Hp} {Q : VK} {wi : TI} {g : TG} {tb : TS} {D : Ends} {tt : TT} {te : TE} {vs : List Nat} {ta : TA} {R : It → Hp → Prop} {r : V → Option Int → Option Int → Hp → VK → Prop} {tl th : TO}
theorem rd_for (q : wi σ H fun J H1 => qFor J g tb D σ H1) : tFor wi g tb D σ H := q
theorem rd_lc (q : wi σ H fun J H1 => ∀ D, H1 D = none → qLc J g tt te vs σ D H1 Q) : tLc wi g tt te vs σ H Q := q
theorem rd_rng1 (q : ta σ H fun vs H1 => ∃ j : Int, vs = [.int j] ∧ -(2 ^ 62) ≤ j ∧ j < 2 ^ 62 ∧ R (Itr 0 j.toNat) H1) : iRng1 ta σ H R := q
theorem rd_rng2 (q : ta σ H fun vs H1 => ∃ i j : Int, vs = [.int i, .int j] ∧ (-(2 ^ 62) ≤ i ∧ i < 2 ^ 62 ∧ -(2 ^ 62) ≤ j ∧ j < 2 ^ 62) ∧ R (Itr i (j - i).toNat) H1) : iRng2 ta σ H R := q
theorem rd_rng {j : Int} {P : Int → Prop} (h0 : -(2 ^ 62) ≤ j) (h1 : j < 2 ^ 62) (q : P j) : ∃ i : Int, [V.int j] = [.int i] ∧ -(2 ^ 62) ≤ i ∧ i < 2 ^ 62 ∧ P i := ⟨j, rfl, h0, h1, q⟩
theorem rd_rngB {i j : Int} (h : -(2 ^ 62) ≤ i ∧ i < 2 ^ 62 ∧ -(2 ^ 62) ≤ j ∧ j < 2 ^ 62) {P : Int → Int → Prop} (q : P i j) : ∃ i' j' : Int, [V.int i, V.int j] = [.int i', .int j'] ∧ (-(2 ^ 62) ≤ i' ∧ i' < 2 ^ 62 ∧ -(2 ^ 62) ≤ j' ∧ j' < 2 ^ 62) ∧ P i' j' := ⟨i, j, rfl, h, q⟩
theorem rd_il (q : te σ H fun x H1 => ∃ a, x = .ref a ∧ (∃ xs, SqL K H1 a xs) ∧ R (Itl K a) H1) : iList K te σ H R := q
theorem rd_it (q : te σ H fun x H1 => ∃ a, x = .ref a ∧ (∃ xs, SqT K H1 a xs) ∧ R (Itt K a) H1) : iTup K te σ H R := q
theorem rd_itl {a : Addr} {P : Addr → Prop} (h : ∃ xs, SqL K H a xs) (q : P a) : ∃ a', V.ref a = .ref a' ∧ (∃ xs, SqL K H a' xs) ∧ P a' := ⟨a, rfl, h, q⟩
theorem rd_itt {a : Addr} {P : Addr → Prop} (h : ∃ xs, SqT K H a xs) (q : P a) : ∃ a', V.ref a = .ref a' ∧ (∃ xs, SqT K H a' xs) ∧ P a' := ⟨a, rfl, h, q⟩
theorem Is.sql {M : List Addr} {a : Addr} {ds : List PyData} (i : Is M H (.ref a) (.list ds)) : ∃ xs, SqL K H a xs := by
  obtain ⟨xs, _, h, _⟩ := i.list
  exact ⟨xs, SqL.of h⟩
theorem Is.sqt {M : List Addr} {a : Addr} {ds : List PyData} (i : Is M H (.ref a) (.tuple ds)) : ∃ xs, SqT K H a xs := by
  obtain ⟨xs, _, h, _⟩ := i.tuple
  exact ⟨xs, SqT.of h⟩
theorem sql_of {a : Addr} {xs : List V} (h : H a = some (.lst xs)) : ∃ xs, SqL K H a xs := ⟨xs, SqL.of h⟩
theorem rd_sl (q : te σ H fun x H1 => tl σ H1 fun l H2 => th σ H2 fun u H3 => r x l u H3 Q) : tSl r te tl th σ H Q := q
theorem rd_part {QO : Option Int → Hp → Prop} (q : te σ H fun x H1 => ∃ i, x = .int i ∧ QO (some i) H1) : tPart te σ H QO := q
theorem rd_pi {i : Int} {P : Int → Prop} (q : P i) : ∃ i', V.int i = .int i' ∧ P i' := ⟨i, rfl, q⟩
theorem rd_pn {QO : Option Int → Hp → Prop} (q : QO none H) : tNoPart σ H QO := q
theorem rd_slL {M : List Addr} {a : Addr} {lo hi : Option Int} {ds : List PyData} (h : Is M H (.ref a) (.list ds)) (q : ∀ xs, H a = some (.lst xs) → IsAll M H xs ds → ∀ p, H p = none → Q (.ref p) (upd H p (.lst (cutV xs lo hi)))) : rSlL K (.ref a) lo hi H Q := by
  obtain ⟨xs, _, hx, r⟩ := h.list
  exact ⟨a, xs, rfl, SqL.of hx, q xs hx r⟩
/-- a range, by its turns -/
theorem q_range {lo : Int} {n : Nat} (Pv : Nat → L2.St → Hp → Prop) (h0 : Pv 0 σ H) (hs : ∀ i σ H, i < n → Pv i σ H → g (.int (lo + i)) σ H fun σ2 H2 => tb { D with nx := Pv (i + 1), ct := Pv (i + 1), bk := D.nx } σ2 H2)
    (hd : ∀ σ H, Pv n σ H → D.nx σ H) : qFor (Itr lo n) g tb D σ H := for_range Pv h0 hs hd
theorem q_data {M : List Addr} {H0 : Hp} {a : Addr} {ds : List PyData} (h : Is M H0 (.ref a) (.list ds)) (Pv : Nat → L2.St → Hp → Prop) (h0 : Pv 0 σ H) (hE : ∀ i σ H, Pv i σ H → Ext M H0 H)
    (hs : ∀ i d x σ H, ds[i]? = some d → Is M H x d → Pv i σ H → g x σ H fun σ2 H2 => tb { D with nx := Pv (i + 1), ct := Pv (i + 1), bk := D.nx } σ2 H2) (hd : ∀ σ H, Pv ds.length σ H → D.nx σ H) : qFor (Itl K a) g tb D σ H := for_data h Pv h0 hE hs hd
theorem q_dataT {M : List Addr} {H0 : Hp} {a : Addr} {ds : List PyData} (h : Is M H0 (.ref a) (.tuple ds)) (Pv : Nat → L2.St → Hp → Prop) (h0 : Pv 0 σ H) (hE : ∀ i σ H, Pv i σ H → Ext M H0 H)
    (hs : ∀ i d x σ H, ds[i]? = some d → Is M H x d → Pv i σ H → g x σ H fun σ2 H2 => tb { D with nx := Pv (i + 1), ct := Pv (i + 1), bk := D.nx } σ2 H2) (hd : ∀ σ H, Pv ds.length σ H → D.nx σ H) : qFor (Itt K a) g tb D σ H := for_dataT h Pv h0 hE hs hd
end
section
variable {K : PySem.W.Frag} {σ : L2.St} {H : Hp} {Q : VK} {te : TE} {a : Addr} {xs : List V}
theorem rd_rev (q : te σ H fun x H1 => ∃ a xs, x = .ref a ∧ SqL K H1 a xs ∧ ∀ p, H1 p = none → Q (.ref p) (upd H1 p (.lst xs.reverse))) : tRevL K te σ H Q := q
theorem rd_revd (h : SqL K H a xs) (q : ∀ p, H p = none → Q (.ref p) (upd H p (.lst xs.reverse))) : ∃ a' xs', V.ref a = .ref a' ∧ SqL K H a' xs' ∧ ∀ p, H p = none → Q (.ref p) (upd H p (.lst xs'.reverse)) := ⟨a, xs, rfl, h, q⟩
theorem rd_listT {p : Addr} (h : SqT K H p xs) (q : ∀ l, H l = none → Q (.ref l) (upd H l (.lst xs))) : qListOf K [.ref p] H Q := ⟨p, xs, rfl, .inr h, q⟩
theorem rd_cat {l b : Addr} {xs zs : List V} (h : H l = some (.lst xs)) (k : H b = some (.lst zs)) (hz : xs.length + zs.length ≤ sizeLine) (q : ∀ p, H p = none → Q (.ref p) (upd H p (.lst (xs ++ zs)))) : rCat (.ref l) (.ref b) H Q := ⟨l, b, xs, zs, rfl, rfl, h, k, hz, q⟩
theorem rd_dcat {M : List Addr} {l b : Addr} {ds es : List PyData} (s : Al M H) (h : Is M H (.ref l) (.list ds)) (k : Is M H (.ref b) (.list es)) (hz : ds.length + es.length ≤ 100000)
    (q : ∀ p H', H p = none → Ext [] H H' → (∃ xs, H' p = some (.lst xs) ∧ IsAll (p :: M) H' xs (ds ++ es)) → Is M H' (.ref p) (.list (ds ++ es)) → Q (.ref p) H') : rCat (.ref l) (.ref b) H Q := by
  obtain ⟨xs, _, hx, r⟩ := h.list
  obtain ⟨zs, _, hz', r'⟩ := k.list
  refine rd_cat hx hz' (szL (by rw [r.length, r'.length]; exact hz)) fun p hp => ?_
  exact q p _ hp (.new hp) ⟨_, upd_same, (r.append r').beside hp⟩ (new_lst s (r.append r') hp)
theorem rd_dlist {M : List Addr} {l : Addr} {ds : List PyData} (s : Al M H) (h : Is M H (.ref l) (.list ds))
    (q : ∀ p H', H p = none → Ext [] H H' → (∃ xs, H' p = some (.lst xs) ∧ IsAll (p :: M) H' xs ds) → Is M H' (.ref p) (.list ds) → Q (.ref p) H') : qListOf K [.ref l] H Q := by
  obtain ⟨xs, _, hx, r⟩ := h.list
  refine rd_listL (SqL.of hx) fun p hp => ?_
  exact q p _ hp (.new hp) ⟨_, upd_same, r.beside hp⟩ (new_lst s r hp)
end
/-! ### rules with the written part by its name (so that they stand within comprehensions too) -/
section
variable {X : Cx} (K : PySem.W.Frag) (hK : X.K = K := by rfl)
include hK
theorem sl_listK : SlR X (rSlL K) := hK ▸ sl_list
theorem sl_tupK : SlR X (rSlT K) := hK ▸ sl_tup
theorem ix_listK : IxR X (rIxL K) := hK ▸ ix_list
theorem ix_tupK : IxR X (rIxT K) := hK ▸ ix_tup
theorem ix_seqK : IxR X (rIx K) := hK ▸ ix_seq
theorem get_listK : PGet X (rIxL K) := hK ▸ get_list
theorem call_lenK : CallR X (.builtin "len") (qLen K) := hK ▸ call_lenq
theorem call_listK : CallR X (.type "list") (qListOf K) := hK ▸ call_listq
theorem call_isK : CallR X (.builtin "isinstance") (rIsi K) := hK ▸ call_isi
theorem op_in_seqK : OpR X (compareOp .In) (rIn K false) := hK ▸ op_in_seq
theorem op_notIn_seqK : OpR X (compareOp .NotIn) (rIn K true) := hK ▸ op_notIn_seq
theorem op_catTK : OpR X (binaryOp .Add) (rCatT K) := hK ▸ op_catT
omit hK
theorem op_eqDK (hu : X.A.units + 64 < cLine) (hK : X.K = K := by rfl) : OpR X (compareOp .Eq) (rEqD K) := hK ▸ op_eqD hu
theorem op_neDK (hu : X.A.units + 64 < cLine) (hK : X.K = K := by rfl) : OpR X (compareOp .NotEq) (rNeD K) := hK ▸ op_neD hu
end
section
variable {X : Cx} {e o : Expr} {ta to te : TE} {t : TA} {tg : Expr} {pos : Pos} {f : Str}
theorem pe_fldK (K : PySem.W.Frag) (he : PE X e ta) (hb : attributeBase e f X.env (eval e X.env) = eval e X.env) (hK : X.K = K := by rfl) : PE X (.Attribute e f pos) (tFld K ta f) := hK ▸ pe_fld he hb
def qTru (K : PySem.W.Frag) (ta : TE) : TT := fun σ H Q => ta σ H fun x H' => ∃ k, TruV K x H' k ∧ Q k H'
theorem pt_truthK (K : PySem.W.Frag) (ha : PE X e ta) (he : ∀ whole, isTrue e X.env whole = (do let v ← whole; standAt e.pos; holding [v] (truthy v))) (hK : X.K = K := by rfl) : PT X e (qTru K ta) := by
  subst hK
  exact pt_truth ha he
theorem pi_listK (K : PySem.W.Frag) (hl : PE X e te) (hK : X.K = K := by rfl) : PI X tg e (iList K te) := hK ▸ pi_list hl
theorem pi_tupK (K : PySem.W.Frag) (hl : PE X e te) (hK : X.K = K := by rfl) : PI X tg e (iTup K te) := hK ▸ pi_tup hl
theorem pg_tupK (K : PySem.W.Frag) {es : List Expr} {k : Nat} {t : TGs} {n : Nat} (hc : X.calm = true) (h : PGs X es t) (hn : (assignEach es X.env).length = n := by rfl) (hst : (assignEach es X.env).findIdx? (·.1) = none := by rfl) (hK : X.K = K := by rfl) : PG X (.Tuple es k pos) (gTup K n t) := hK ▸ pg_tup hc h hn hst
theorem pe_revLK (K : PySem.W.Frag) {k : Nat} {p1 p2 p3 : Pos} (he : PE X e te) (hK : X.K = K := by rfl) : PE X (.Subscript e (.Slice none none (some (.UnaryOp .USub (.Constant (.int 1) k p1) p2)) p3) pos) (tRevL K te) := hK ▸ pe_revL he
theorem rd_tru {K : PySem.W.Frag} {σ : L2.St} {H : Hp} {Q : Bool → Hp → Prop} (q : ta σ H fun x H' => ∃ k, TruV K x H' k ∧ Q k H') : qTru K ta σ H Q := q
end
section
variable {M : List Addr} {H0 H H1 : Hp} {a D : Addr} {ds : List PyData} {K : PySem.W.Frag} {j : Nat} {vs : List Nat} {te : TE} {tt : TT} {σ : L2.St} {Q : VK} {ta : TA} {R : It → Hp → Prop}
theorem rd_u {g : Int → V} {i : Int} (q : Q (g i) H) : rU g (.int i) H Q := ⟨i, rfl, q⟩
theorem rd_rng3 (q : ta σ H fun vs H1 => ∃ (i j c : Int) (n : Nat), vs = [.int i, .int j, .int c] ∧ RgC i j c n ∧ R (Itc i c n) H1) : iRng3 ta σ H R := q
theorem rgC_up {i j c : Int} (hc : 0 < c) (hc' : c < 1073741824) (ha : 0 ≤ i) (ha' : i < 2 ^ 62) (hb : 0 ≤ j) (hb' : j < 2 ^ 62) : RgC i j c (if i < j then (j - i - 1) / c + 1 else 0).toNat := by
  refine ⟨by omega, by omega, ?_, ?_⟩
  · have h1 : 0 ≤ (j - i - 1) / c ∨ ¬ i < j := by
      by_cases h : i < j
      · exact .inl (Int.ediv_nonneg (by omega) (by omega))
      · exact .inr h
    have h2 : i < j → (j - i - 1) / c ≤ j - i - 1 := fun h => Int.ediv_le_self _ (by omega)
    unfold Builtin.Range.small Builtin.Range.rangeSize
    simp only [Builtin.Range.rangeFitsLong, Bool.and_eq_true, Bool.or_eq_true, decide_eq_true_eq, beq_iff_eq, hc, gt_iff_lt, if_true]
    by_cases h : i < j
    · have := h2 h
      have := h1.resolve_right (fun q => q h)
      simp only [h, if_true]
      omega
    · simp only [h, if_false]
      omega
  · unfold Builtin.Range.rangeSize
    simp only [hc, gt_iff_lt, if_true]
    by_cases h : i < j
    · simp only [h, if_true]
      have := Int.ediv_nonneg (a := j - i - 1) (b := c) (by omega) (by omega)
      omega
    · simp only [h, if_false]
      rfl
/-- [e for x in range(i, j, c)] -/
theorem q_lcC {lo c : Int} {n : Nat} (f : Nat → PyData) (s : Al M H0) (hD : H0 D = none) (hn : n ≤ 100000) (hw : ∀ x, wipe ((wipe σ vs).set j (some x)) vs = wipe σ vs)
    (he : ∀ (i : Nat) H', i < n → Al (D :: M) H' → Ext [] H0 H' → ∀ R : VK, (∀ y H'', Ext [] H' H'' → Is (D :: M) H'' y (f i) → R y H'') → te ((wipe σ vs).set j (some (.int (lo + (i : Nat) * c)))) H' R)
    (hd : ∀ H', Ext [] H0 H' → Is M H' (.ref D) (.list ((List.range n).map f)) → Q (.ref D) H') : qLc (Itc lo c n) (gName j) tYes te vs σ D H0 Q := by
  refine ⟨fun i m H => m = n - i ∧ i ≤ n ∧ Made M H0 D ((List.range i).map f) H, ⟨n, by simp, Nat.zero_le _, Made.start s hD⟩, ?_⟩
  rintro i m H ⟨rfl, hi, p⟩
  by_cases hlt : i < n
  · refine .inr ⟨hlt, fun H' => Made M H0 D ((List.range (i + 1)).map f) H', fun H' p' => ⟨n - (i + 1), by omega, rfl, hlt, p'⟩, fun x H' y => ?_⟩
    obtain ⟨e, y⟩ := y
    subst e y
    refine ⟨hw _, rd_yes ?_⟩
    refine iteT ?_
    refine he i _ hlt (p.al s) p.ext _ fun y H'' e r => ?_
    rw [List.range_succ, List.map_append]
    exact p.step e r (by rw [List.length_map, List.length_range]; omega)
  · have e : i = n := by omega
    subst e
    exact .inl ⟨Nat.le_refl _, hd H p.ext p.is⟩
theorem q_lcR {lo : Int} {n : Nat} (f : Nat → PyData) (s : Al M H0) (hD : H0 D = none) (hn : n ≤ 100000) (hw : ∀ x, wipe ((wipe σ vs).set j (some x)) vs = wipe σ vs)
    (he : ∀ (i : Nat) H', i < n → Al (D :: M) H' → Ext [] H0 H' → ∀ R : VK, (∀ y H'', Ext [] H' H'' → Is (D :: M) H'' y (f i) → R y H'') → te ((wipe σ vs).set j (some (.int (lo + i)))) H' R)
    (hd : ∀ H', Ext [] H0 H' → Is M H' (.ref D) (.list ((List.range n).map f)) → Q (.ref D) H') : qLc (Itr lo n) (gName j) tYes te vs σ D H0 Q := lc_rng f s hD hn hw he hd
theorem q_lcL (f : PyData → PyData) (s : Al M H0) (hD : H0 D = none) (h : Is M H0 (.ref a) (.list ds)) (hn : ds.length ≤ 100000) (hw : ∀ x, wipe ((wipe σ vs).set j (some x)) vs = wipe σ vs)
    (he : ∀ (x : V) (d : PyData) H', d ∈ ds → Al (D :: M) H' → Ext [] H0 H' → Is (D :: M) H' x d → ∀ R : VK, (∀ y H'', Ext [] H' H'' → Is (D :: M) H'' y (f d) → R y H'') → te ((wipe σ vs).set j (some x)) H' R)
    (hd : ∀ H', Ext [] H0 H' → Is M H' (.ref D) (.list (ds.map f)) → Q (.ref D) H') : qLc (Itl K a) (gName j) tYes te vs σ D H0 Q := lc_map f s hD h hn hw he hd
theorem q_lcF (f : PyData → PyData) (p : PyData → Bool) (s : Al M H0) (hD : H0 D = none) (h : Is M H0 (.ref a) (.list ds)) (hn : ds.length ≤ 100000) (hw : ∀ x, wipe ((wipe σ vs).set j (some x)) vs = wipe σ vs)
    (ht : ∀ (x : V) (d : PyData) H', d ∈ ds → Al (D :: M) H' → Ext [] H0 H' → Is (D :: M) H' x d → ∀ R : Bool → Hp → Prop, (∀ H'', Ext [] H' H'' → R (p d) H'') → tt ((wipe σ vs).set j (some x)) H' R)
    (he : ∀ (x : V) (d : PyData) H', d ∈ ds → p d = true → Al (D :: M) H' → Ext [] H0 H' → Is (D :: M) H' x d → ∀ R : VK, (∀ y H'', Ext [] H' H'' → Is (D :: M) H'' y (f d) → R y H'') → te ((wipe σ vs).set j (some x)) H' R)
    (hd : ∀ H', Ext [] H0 H' → Is M H' (.ref D) (.list ((ds.filter p).map f)) → Q (.ref D) H') : qLc (Itl K a) (gName j) tt te vs σ D H0 Q := lc_filter f p s hD h hn hw ht he hd
end
section
variable {M : List Addr} {H : Hp} {xs : List V} {ds : List PyData} {a : Addr} {K : PySem.W.Frag} {Q : VK}
theorem IsAll.cutI {lo hi : Int} {l h : Nat} (r : IsAll M H xs ds) (hl : lo = (l : Int)) (hh : hi = (h : Int)) : IsAll M H (cutV xs (some lo) (some hi)) ((ds.take h).drop l) := by
  subst hl hh
  exact r.cut
theorem IsAll.cutI0 {hi : Int} {h : Nat} (r : IsAll M H xs ds) (hh : hi = (h : Int)) : IsAll M H (cutV xs none (some hi)) (ds.take h) := by
  subst hh
  exact r.cut0
theorem IsAll.cutIN {lo : Int} {l : Nat} (r : IsAll M H xs ds) (hl : lo = (l : Int)) : IsAll M H (cutV xs (some lo) none) (ds.drop l) := by
  subst hl
  exact r.cutN
/-- slices of data -/
theorem rd_cut {lo hi : Int} {l h : Nat} (s : Al M H) (i : Is M H (.ref a) (.list ds)) (hl : lo = (l : Int)) (hh : hi = (h : Int)) (q : ∀ p H', H p = none → Ext [] H H' → (∃ xs, H' p = some (.lst xs) ∧ IsAll (p :: M) H' xs ((ds.take h).drop l)) → Is M H' (.ref p) (.list ((ds.take h).drop l)) → Q (.ref p) H') :
    rSlL K (.ref a) (some lo) (some hi) H Q := rd_slL i fun _ _ r p hp => q p _ hp (.new hp) ⟨_, upd_same, (r.cutI hl hh).beside hp⟩ (new_lst s (r.cutI hl hh) hp)
theorem rd_cut0 {hi : Int} {h : Nat} (s : Al M H) (i : Is M H (.ref a) (.list ds)) (hh : hi = (h : Int)) (q : ∀ p H', H p = none → Ext [] H H' → (∃ xs, H' p = some (.lst xs) ∧ IsAll (p :: M) H' xs (ds.take h)) → Is M H' (.ref p) (.list (ds.take h)) → Q (.ref p) H') :
    rSlL K (.ref a) none (some hi) H Q := rd_slL i fun _ _ r p hp => q p _ hp (.new hp) ⟨_, upd_same, (r.cutI0 hh).beside hp⟩ (new_lst s (r.cutI0 hh) hp)
theorem rd_cutN {lo : Int} {l : Nat} (s : Al M H) (i : Is M H (.ref a) (.list ds)) (hl : lo = (l : Int)) (q : ∀ p H', H p = none → Ext [] H H' → (∃ xs, H' p = some (.lst xs) ∧ IsAll (p :: M) H' xs (ds.drop l)) → Is M H' (.ref p) (.list (ds.drop l)) → Q (.ref p) H') :
    rSlL K (.ref a) (some lo) none H Q := rd_slL i fun _ _ r p hp => q p _ hp (.new hp) ⟨_, upd_same, (r.cutIN hl).beside hp⟩ (new_lst s (r.cutIN hl) hp)
/-- l.extend(b) -/
theorem rd_ext {l b : Addr} {xs zs : List V} (h : H l = some (.lst xs)) (k : H b = some (.lst zs)) (hz : xs.length + zs.length ≤ 100000) (q : Q .non (upd H l (.lst (xs ++ zs)))) : rExtend (.ref l) [.ref b] H Q := ⟨l, b, xs, zs, rfl, rfl, h, k, szL hz, q⟩
theorem map_cut (ns : List Nat) (l h : Nat) : ((ns.map fun n : Nat => PyData.int n).take h).drop l = ((ns.take h).drop l).map fun n : Nat => PyData.int n := by rw [List.map_drop, List.map_take]
end
/-! ### facts found by themselves: steps from heap to heap -/
section
variable {M M' : List Addr} {A B C H H' : Hp} {p : Addr} {o : HO} {v : V} {d : PyData}
theorem at_is (e : Ext M H H') (i : Is M H v d) : Is M H' v d := i.mono e
theorem at_is0 (e : Ext [] H H') (i : Is M H v d) : Is M H' v d := i.mono e.any
theorem at_is1 {N : List Addr} {D : Addr} (e : Ext N H H') (i : Is (D :: N) H v d) : Is (D :: N) H' v d := i.mono (e.more fun b hb => List.mem_cons_of_mem _ hb)
theorem at_isN (h : H p = none) (i : Is M H v d) : Is M (upd H p o) v d := i.mono (.new h)
theorem at_al (e : Ext M' H H') (s : Al M H) : Al M H' := s.ext e
theorem at_alN (s : Al M H) : Al M (upd H p o) := fun b hb => there_upd b (s b hb)
theorem at_ext (e : Ext M B C) (f : Ext M A B) : Ext M A C := f.trans e
theorem at_ext0 (e : Ext [] B C) (f : Ext M A B) : Ext M A C := f.trans e.any
theorem at_extN (h : B p = none) (f : Ext M A B) : Ext M A (upd B p o) := f.trans (.new h)
end
/-- lists of lists of numbers -/
abbrev natss (S : List (List Nat)) : PyData := .list (S.map nats)
/-- what is new in the heap H -/
def New (H H' : Hp) (v : V) (d : PyData) : Prop := ∀ M, Al M H → Is M H' v d
theorem New.of {M : List Addr} {A B H H' : Hp} {v : V} {d : PyData} (h : New H H' v d) (e : Ext M A H) : New A H' v d := fun _ s => h _ (s.ext e)
section
variable {M : List Addr} {H : Hp} {Q : VK} {K : PySem.W.Frag} {a b : Addr} {xs ys : List Nat} {ds es : List PyData} {vs : List V}
theorem rd_newL (s : Al M H) (h : IsAll M H vs ds) (hz : vs.length ≤ 1000) (q : ∀ p H', H p = none → Ext [] H H' → H' p = some (.lst vs) → Is M H' (.ref p) (.list ds) → Q (.ref p) H') : qNewL vs H Q :=
  ⟨szl hz, fun p hp => q p _ hp (.new hp) upd_same (new_lst s h hp)⟩
theorem rd_newT (s : Al M H) (h : IsAll M H vs ds) (hz : vs.length ≤ 1000) (q : ∀ p H', H p = none → Ext [] H H' → H' p = some (.tup vs) → Is M H' (.ref p) (.tuple ds) → Q (.ref p) H') : qNewT vs H Q :=
  ⟨szl hz, fun p hp => q p _ hp (.new hp) upd_same (new_tup s h hp)⟩
theorem rd_ncat (s : Al M H) (h : Is M H (.ref a) (nats xs)) (k : Is M H (.ref b) (nats ys)) (hz : xs.length + ys.length ≤ 100000) (q : ∀ p H', H p = none → Ext [] H H' → Is M H' (.ref p) (nats (xs ++ ys)) → Q (.ref p) H') : rCat (.ref a) (.ref b) H Q :=
  rd_dcat s h k (by rw [List.length_map, List.length_map]; exact hz) fun p H' hp e _ i => q p H' hp e (by rw [nats, List.map_append]; exact i)
theorem rd_ncut {lo hi : Int} {l h : Nat} (s : Al M H) (i : Is M H (.ref a) (nats xs)) (hl : lo = (l : Int)) (hh : hi = (h : Int)) (q : ∀ p H', H p = none → Ext [] H H' → Is M H' (.ref p) (nats ((xs.take h).drop l)) → Q (.ref p) H') : rSlL K (.ref a) (some lo) (some hi) H Q :=
  rd_cut s i hl hh fun p H' hp e _ j => q p H' hp e (by rw [nats, List.map_drop, List.map_take]; exact j)
theorem rd_ncut0 {hi : Int} {h : Nat} (s : Al M H) (i : Is M H (.ref a) (nats xs)) (hh : hi = (h : Int)) (q : ∀ p H', H p = none → Ext [] H H' → Is M H' (.ref p) (nats (xs.take h)) → Q (.ref p) H') : rSlL K (.ref a) none (some hi) H Q :=
  rd_cut0 s i hh fun p H' hp e _ j => q p H' hp e (by rw [nats, List.map_take]; exact j)
theorem rd_ncutN {lo : Int} {l : Nat} (s : Al M H) (i : Is M H (.ref a) (nats xs)) (hl : lo = (l : Int)) (q : ∀ p H', H p = none → Ext [] H H' → Is M H' (.ref p) (nats (xs.drop l)) → Q (.ref p) H') : rSlL K (.ref a) (some lo) none H Q :=
  rd_cutN s i hl fun p H' hp e _ j => q p H' hp e (by rw [nats, List.map_drop]; exact j)
theorem rd_ndlist (s : Al M H) (h : Is M H (.ref a) (nats xs)) (q : ∀ p H', H p = none → Ext [] H H' → Is M H' (.ref p) (nats xs) → Q (.ref p) H') : qListOf K [.ref a] H Q := rd_dlist s h fun p H' hp e _ i => q p H' hp e i
theorem rd_nix {i : Int} {j : Nat} (h : Is M H (.ref a) (nats xs)) (hj : i = (j : Int)) (hd : j < xs.length) (q : Q (.int ((xs.getD j 0 : Nat) : Int)) H) : rIxL K (.ref a) (.int i) H Q := by
  refine rd_dix h hj (by rw [List.getElem?_map, List.getElem?_eq_getElem hd]; rfl) fun v iv => ?_
  rw [List.getD_eq_getElem?_getD, List.getElem?_eq_getElem hd] at q
  cases iv
  exact q
theorem rd_nlen (h : Is M H (.ref a) (nats xs)) (q : Q (.int xs.length) H) : qLen K [.ref a] H Q := rd_dlen h fun _ => by rw [List.length_map]; exact q
theorem rd_rep {k : Int} {ws : List V} (h : H a = some (.lst ws)) (h0 : -(2 ^ 63) ≤ k) (h1 : k < 2 ^ 63) (hz : ws.length * k.toNat ≤ 100000) (q : ∀ p, H p = none → Q (.ref p) (upd H p (.lst (List.replicate k.toNat ws).flatten))) : rRep (.ref a) (.int k) H Q := ⟨a, k, ws, rfl, rfl, h, h0, h1, szL hz, q⟩
theorem IsAll.reps (h : IsAll M H vs ds) : ∀ k, IsAll M H (List.replicate k vs).flatten (List.replicate k ds).flatten
  | 0 => .nil
  | k + 1 => by
    rw [List.replicate_succ, List.replicate_succ, List.flatten_cons, List.flatten_cons]
    exact h.append (IsAll.reps h k)
theorem rd_drep {k : Int} (s : Al M H) (h : Is M H (.ref a) (.list ds)) (h0 : -(2 ^ 63) ≤ k) (h1 : k < 2 ^ 63) (hz : ds.length * k.toNat ≤ 100000) (q : ∀ p H', H p = none → Ext [] H H' → Is M H' (.ref p) (.list (List.replicate k.toNat ds).flatten) → Q (.ref p) H') : rRep (.ref a) (.int k) H Q := by
  obtain ⟨ws, _, hx, r⟩ := h.list
  exact rd_rep hx h0 h1 (by rw [r.length]; exact hz) fun p hp => q p _ hp (.new hp) (new_lst s (r.reps _) hp)
theorem rd_nrep1 {k : Int} {n j : Nat} (s : Al M H) (h : H a = some (.lst [.int n])) (hk : k.toNat = j) (h0 : -(2 ^ 62) ≤ k) (h1 : k ≤ 100000) (q : ∀ p H', H p = none → Ext [] H H' → Is M H' (.ref p) (nats (List.replicate j n)) → Q (.ref p) H') : rRep (.ref a) (.int k) H Q := by
  refine rd_rep h (by omega) (by omega) (by rw [List.length_singleton]; omega) fun p hp => q p _ hp (.new hp) (new_lst s ?_ hp)
  rw [hk]
  have e : (List.replicate j [V.int n]).flatten = (List.replicate j n).map fun n : Nat => V.int n := by rw [List.map_replicate]; induction j with
    | zero => rfl
    | succ j ih => rw [List.replicate_succ, List.replicate_succ, List.flatten_cons] ; exact congrArg (V.int n :: ·) (by clear hk; exact List.flatten_replicate_singleton)
  rw [e]
  exact nats_V _
end
section
variable {K : PySem.W.Frag} {H : Hp} {Q : VK} {p : Addr}
theorem rd_pick {P : Int → Prop} {ns : List Int} {v : Nat} (h : H p = some (.lst (ns.map V.int))) (hv : v < ns.length) (hP : ∀ n ∈ ns, P n) (q : ∀ n, P n → Q (.int n) H) : rIxL K (.ref p) (.int v) H Q :=
  rd_ixL (SqL.of h) (atI_nat (by rw [List.getElem?_map, List.getElem?_eq_getElem hv]; rfl)) (q _ (hP _ (List.getElem_mem hv)))
end
/-! ### lists of the module in sums -/
structure PlK (K : PySem.W.Frag) (a : Addr) (xs : List V) : Prop where
  ex : ∃ (its : Array Value) (n : Nat), K.lookup a = some { cls := .type "list", data := .seq its n } ∧ its.size ≤ sizeLine ∧ Vals xs its.toList
theorem PlK.sq {K : PySem.W.Frag} {a : Addr} {xs : List V} (h : PlK K a xs) (H : Hp) : SqL K H a xs := by
  obtain ⟨its, n, e, hz, r⟩ := h.ex
  exact .inr ⟨_, its, n, e, rfl, rfl, rfl, hz, r⟩
def plB (K : PySem.W.Frag) (x : Str) (vs : List He.Dv) : Bool := match K.lookup (He.ga K x) with
  | some ⟨.type c, none, .seq its _, sl⟩ => decide (c = "list") && (sl.toList.isEmpty && (decide (its.size ≤ sizeLine) && He.relAll (vs.map (He.Dv.v K)) its.toList))
  | _ => false
theorem plB_ok {K : PySem.W.Frag} {x : Str} {vs : List He.Dv} (h : plB K x vs = true) : PlK K (He.ga K x) (vs.map (He.Dv.v K)) := by
  unfold plB at h
  cases q : K.lookup (He.ga K x) with
  | none => rw [q] at h; cases h
  | some o =>
    obtain ⟨oc, od, dt, osl⟩ := o
    rw [q] at h
    cases oc with
    | type c =>
      cases od with
      | none =>
        cases dt with
        | seq its n =>
          simp only [Bool.and_eq_true, decide_eq_true_eq] at h
          obtain ⟨rfl, hs, hz, hr⟩ := h
          have e : osl = #[] := by
            obtain ⟨l⟩ := osl
            cases l with
            | nil => rfl
            | cons _ _ => cases hs
          subst e
          exact ⟨its, n, q, hz, He.relAll_ok hr⟩
        | _ => cases h
      | some _ => cases h
    | _ => cases h
def rCatK (K : PySem.W.Frag) : R2 := fun x y H Q => ∃ l b xs zs, x = .ref l ∧ y = .ref b ∧ (H l = some (.lst xs) ∨ PlK K l xs) ∧ (H b = some (.lst zs) ∨ PlK K b zs) ∧ xs.length + zs.length ≤ sizeLine ∧ ∀ p, H p = none → Q (.ref p) (upd H p (.lst (xs ++ zs)))
theorem lstK {X : Cx} {pins : List (Addr × Obj)} {σ : L2.St} {H : Hp} {s : Shared} {l : Addr} {xs : List V} (I : Inv X pins σ H s) (h : H l = some (.lst xs) ∨ PlK X.K l xs) : ∃ (its : List Value) (n : Nat), Vals xs its ∧ xs.length = its.length ∧ s.heap.get? l = some { cls := .type "list", data := .seq its.toArray n } := by
  rcases h with h | h
  · obtain ⟨z, its, n, r, hl, e⟩ := I.lstM h
    exact ⟨its, n, r, hl, e⟩
  · obtain ⟨its, n, e, hz, r⟩ := h.ex
    exact ⟨its.toList, n, r, r.length, by simpa using I.kIn l _ e⟩
theorem op_catK {X : Cx} (K : PySem.W.Frag) (hK : X.K = K := by rfl) : OpR X (binaryOp .Add) (rCatK K) := by
  subst hK
  intro pins s σ H x y v u Q I rx ry h
  obtain ⟨l, b, xs, zs, rfl, rfl, hH, hB, hz, q⟩ := h
  cases rx
  cases ry
  obtain ⟨its, n, r, hl, e⟩ := lstK I hH
  obtain ⟨its2, n2, r2, hl2, e2⟩ := lstK I hB
  refine PySem.P.add_list e e2 ?_ (by rw [List.size_toArray, List.size_toArray]; omega)
  rw [show its.toArray ++ its2.toArray = (its ++ its2).toArray by simp]
  exact ⟨.ref _, _, I.lnew (t' := s.toks) (r.append r2) (by rw [List.length_append]; omega), rfl, q _ I.fresh⟩
theorem rd_catK {K : PySem.W.Frag} {H : Hp} {Q : VK} {M : List Addr} {a b : Addr} {ms xs : List Nat} (s : Al M H) (h : PlK K a (ms.map fun n : Nat => V.int n)) (k : Is M H (.ref b) (nats xs)) (hz : ms.length + xs.length ≤ 100000)
    (q : ∀ p H', H p = none → Ext [] H H' → Is M H' (.ref p) (nats (ms ++ xs)) → Q (.ref p) H') : rCatK K (.ref a) (.ref b) H Q := by
  obtain ⟨ws, _, hx, r⟩ := k.list
  refine ⟨a, b, _, ws, rfl, rfl, .inr h, .inl hx, szL (by rw [r.length, List.length_map, List.length_map]; exact hz), fun p hp => q p _ hp (.new hp) (new_lst s ?_ hp)⟩
  rw [List.map_append]
  exact (nats_V ms).append r
/-! ### comprehensions and loops over lists of something, with a state beside -/
inductive All2 {α β : Type} (R : α → β → Prop) : List α → List β → Prop
  | nil : All2 R [] []
  | cons {a : α} {b : β} {as : List α} {bs : List β} : R a b → All2 R as bs → All2 R (a :: as) (b :: bs)
theorem All2.snoc {α β : Type} {R : α → β → Prop} {a : α} {b : β} : ∀ {as : List α} {bs : List β}, All2 R as bs → R a b → All2 R (as ++ [a]) (bs ++ [b])
  | _, _, .nil, h => .cons h .nil
  | _, _, .cons r t, h => .cons r (All2.snoc t h)
theorem All2.length {α β : Type} {R : α → β → Prop} : ∀ {as : List α} {bs : List β}, All2 R as bs → as.length = bs.length
  | _, _, .nil => rfl
  | _, _, .cons _ t => congrArg Nat.succ t.length
theorem All2.fn {α β : Type} {f : α → β} : ∀ {as : List α} {bs : List β}, All2 (fun a b => b = f a) as bs → bs = as.map f
  | _, _, .nil => rfl
  | _, _, .cons r t => by rw [r, t.fn]; rfl
theorem All2.mem {α β : Type} {R : α → β → Prop} {b : β} : ∀ {as : List α} {bs : List β}, All2 R as bs → b ∈ bs → ∃ a ∈ as, R a b
  | _, _, .nil, h => nomatch h
  | _, _, .cons r t, h => by
    rcases List.mem_cons.mp h with rfl | h
    · exact ⟨_, List.mem_cons_self .., r⟩
    · obtain ⟨a, ha, q⟩ := All2.mem t h
      exact ⟨a, List.mem_cons_of_mem _ ha, q⟩
/-- each of the second is a choice made by the first -/
theorem All2.pick {α β γ : Type} {R : α → γ → Prop} {g : γ → β} : ∀ {as : List α} {bs : List β}, All2 (fun a b => ∃ c, b = g c ∧ R a c) as bs → ∃ cs, bs = cs.map g ∧ All2 R as cs
  | _, _, .nil => ⟨[], rfl, .nil⟩
  | _, _, .cons ⟨c, e, r⟩ t => by
    obtain ⟨cs, e2, r2⟩ := All2.pick t
    exact ⟨c :: cs, by rw [e, e2]; rfl, .cons r r2⟩
structure MadeN (N M : List Addr) (H0 : Hp) (D : Addr) (es : List PyData) (H : Hp) : Prop where
  sub : ∀ b ∈ N, b ∈ M
  free : H0 D = none
  ext : Ext N H0 H
  off : D ∉ M
  ls : ∃ ys, H D = some (.lst ys) ∧ IsAll (D :: M) H ys es
section
variable {N M : List Addr} {H0 H H' : Hp} {a D : Addr} {es : List PyData} {K : PySem.W.Frag} {d : PyData} {y x v : V}
theorem MadeN.start (hN : ∀ b ∈ N, b ∈ M) (s : Al M H0) (hD : H0 D = none) : MadeN N M H0 D [] (upd H0 D (.lst [])) := ⟨hN, hD, .new hD, s.fresh hD, [], upd_same, .nil⟩
theorem MadeN.startE (hN : ∀ b ∈ N, b ∈ M) (s : Al M H0) (e : Ext N H0 H) (hD : H D = none) : MadeN N M H0 D [] (upd H D (.lst [])) := ⟨hN, e.free hD, e.trans (.new hD), (s.ext e).fresh hD, [], upd_same, .nil⟩
theorem MadeN.al (m : MadeN N M H0 D es H) (s : Al M H0) : Al (D :: M) H := by
  obtain ⟨ys, h1, h2⟩ := m.ls
  exact .cons (some_ne h1) (s.ext m.ext)
theorem MadeN.is (m : MadeN N M H0 D es H) : Is M H (.ref D) (.list es) := by
  obtain ⟨ys, h1, h2⟩ := m.ls
  exact .lst m.off h1 h2.on
theorem MadeN.ofs (m : MadeN N M H0 D es H) (i : Is M H0 v d) : Is (D :: M) H v d := (i.off m.free).mono (m.ext.more fun b hb => List.mem_cons_of_mem _ (m.sub b hb))
theorem MadeN.of0 (m : MadeN N M H0 D es H) (i : Is M H0 v d) : Is M H v d := (m.ofs i).on
theorem MadeN.nD (m : MadeN N M H0 D es H) : D ∉ N := fun q => m.off (m.sub _ q)
theorem MadeN.step (m : MadeN N M H0 D es H) (e : Ext N H H') (h : Is (D :: M) H' y d) (hl : es.length < 100000) :
    ∃ acc, H' D = some (.lst acc) ∧ acc.length < sizeLine ∧ MadeN N M H0 D (es ++ [d]) (upd H' D (.lst (acc ++ [y]))) := by
  obtain ⟨ys, h1, h2⟩ := m.ls
  refine ⟨ys, e.keep _ _ m.nD h1, szl' (by rw [h2.length]; omega), m.sub, m.free, (m.ext.trans e).mut m.free, m.off, _, upd_same, ?_⟩
  exact ((h2.mono (e.more fun b hb => List.mem_cons_of_mem _ (m.sub b hb))).append (.one h)).mono (.set (List.mem_cons_self ..))
theorem MadeN.go (m : MadeN N M H0 D es H) (e : Ext N H H') : MadeN N M H0 D es H' := by
  obtain ⟨ys, h1, h2⟩ := m.ls
  exact ⟨m.sub, m.free, m.ext.trans e, m.off, ys, e.keep _ _ m.nD h1, h2.mono (e.more fun b hb => List.mem_cons_of_mem _ (m.sub b hb))⟩
/-- D.append(e): rd_app first, then this -/
theorem MadeN.lst (m : MadeN N M H0 D es H) : ∃ ys, H D = some (.lst ys) := by
  obtain ⟨ys, h1, h2⟩ := m.ls
  exact ⟨ys, h1⟩
theorem rd_appE {G : List V → Prop} (m : MadeN N M H0 D es H) (e : Ext N H H') (i : Is (D :: M) H' y d) (hl : es.length < 100000) (k : ∀ acc, MadeN N M H0 D (es ++ [d]) (upd H' D (.lst (acc ++ [y]))) → G acc) :
    ∃ ys, H' D = some (.lst ys) ∧ ys.length < sizeLine ∧ G ys := by
  obtain ⟨acc, h3, h4, m'⟩ := m.step e i hl
  exact ⟨acc, h3, h4, k acc m'⟩
end
section
variable {N M : List Addr} {H0 H : Hp} {a D : Addr} {K : PySem.W.Frag} {j : Nat} {vs : List Nat} {te : TE} {σ : L2.St} {Q : VK} {α : Type} {L : List α} {g : α → PyData} {Rel : α → PyData → Prop} {RelI : Nat → PyData → Prop} {J : Hp → Prop}
/-- [e for x in a list], with what may change (N) and what goes along (J) -/
theorem q_lcA (J : Hp → Prop) (Rel : α → PyData → Prop) (hN : ∀ b ∈ N, b ∈ M) (s : Al M H0) (hD : H0 D = none) (h : Is M H0 (.ref a) (.list (L.map g))) (hn : L.length ≤ 100000) (hw : ∀ x, wipe ((wipe σ vs).set j (some x)) vs = wipe σ vs)
    (j0 : J H0) (hJ : ∀ A o, J A → J (upd A D o))
    (he : ∀ (i : Nat) (x : V) (y : α) H', L[i]? = some y → Al (D :: M) H' → Ext N H0 H' → J H' → Is (D :: M) H' x (g y) → ∀ R : VK, (∀ w H'' e, Ext N H' H'' → J H'' → Is (D :: M) H'' w e → Rel y e → R w H'') → te ((wipe σ vs).set j (some x)) H' R)
    (hd : ∀ H' es, Ext N H0 H' → J H' → All2 Rel L es → Is M H' (.ref D) (.list es) → Q (.ref D) H') : qLc (Itl K a) (gName j) tYes te vs σ D H0 Q := by
  obtain ⟨xs, na, hx, r⟩ := h.list
  have hlen : xs.length = L.length := by rw [r.length, List.length_map]
  refine lc_list (xs := xs) (fun i H' => J H' ∧ ∃ es, All2 Rel (L.take i) es ∧ MadeN N M H0 D es H') ⟨hJ _ _ j0, [], .nil, MadeN.start hN s hD⟩ (fun i H' _ m => ?_) (fun i x H' hi m => ?_) fun H' m => ?_
  · obtain ⟨_, es, _, m⟩ := m
    exact SqL.of (m.ext.keep _ _ (fun q => na (hN _ q)) hx)
  · obtain ⟨jh, es, r2, m⟩ := m
    obtain ⟨d, hd', iv⟩ := r.got hi
    rw [List.getElem?_map] at hd'
    cases hy : L[i]? with
    | none => rw [hy] at hd'; cases hd'
    | some y =>
      rw [hy] at hd'
      cases hd'
      refine ⟨hw _, rd_yes ?_⟩
      refine iteT ?_
      refine he i x y H' hy (m.al s) m.ext jh (m.ofs iv) _ fun w H'' e e1 j1 i1 r1 => ?_
      obtain ⟨acc, h1, h2, m'⟩ := m.step e1 i1 (by
        have z := r2.length
        rw [List.length_take] at z
        have : i < L.length := (List.getElem?_eq_some_iff.mp hy).1
        omega)
      refine ⟨acc, h1, h2, hJ _ _ j1, es ++ [e], ?_, m'⟩
      rw [List.take_add_one, hy]
      exact r2.snoc r1
  · obtain ⟨jh, es, r2, m⟩ := m
    rw [hlen, List.take_length] at r2
    exact hd H' es m.ext jh r2 m.is
/-- [e for i in range(n)] -/
theorem q_lcAR {lo : Int} {n : Nat} (J : Hp → Prop) (Rel : Nat → PyData → Prop) (hN : ∀ b ∈ N, b ∈ M) (s : Al M H0) (hD : H0 D = none) (hn : n ≤ 100000) (hw : ∀ x, wipe ((wipe σ vs).set j (some x)) vs = wipe σ vs)
    (j0 : J H0) (hJ : ∀ A o, J A → J (upd A D o))
    (he : ∀ (i : Nat) H', i < n → Al (D :: M) H' → Ext N H0 H' → J H' → (∀ v d, Is M H0 v d → Is (D :: M) H' v d) → ∀ R : VK, (∀ w H'' e, Ext N H' H'' → J H'' → Is (D :: M) H'' w e → Rel i e → R w H'') → te ((wipe σ vs).set j (some (.int (lo + i)))) H' R)
    (hd : ∀ H' es, Ext N H0 H' → J H' → All2 Rel (List.range n) es → Is M H' (.ref D) (.list es) → Q (.ref D) H') : qLc (Itr lo n) (gName j) tYes te vs σ D H0 Q := by
  refine lc_range (fun i H' => J H' ∧ ∃ es, All2 Rel (List.range i) es ∧ MadeN N M H0 D es H') ⟨hJ _ _ j0, [], .nil, MadeN.start hN s hD⟩ (fun i H' hi m => ?_) fun H' m => ?_
  · obtain ⟨jh, es, r2, m⟩ := m
    refine ⟨hw _, rd_yes ?_⟩
    refine iteT ?_
    refine he i H' hi (m.al s) m.ext jh (fun v d => m.ofs) _ fun w H'' e e1 j1 i1 r1 => ?_
    obtain ⟨acc, h1, h2, m'⟩ := m.step e1 i1 (by
      have z := r2.length
      rw [List.length_range] at z
      omega)
    refine ⟨acc, h1, h2, hJ _ _ j1, es ++ [e], ?_, m'⟩
    rw [List.range_succ]
    exact r2.snoc r1
  · obtain ⟨jh, es, r2, m⟩ := m
    exact hd H' es m.ext jh r2 m.is
/-- without a state: a function of the elements -/
theorem q_lcM (f : α → PyData) (s : Al M H0) (hD : H0 D = none) (h : Is M H0 (.ref a) (.list (L.map g))) (hn : L.length ≤ 100000) (hw : ∀ x, wipe ((wipe σ vs).set j (some x)) vs = wipe σ vs)
    (he : ∀ (x : V) (y : α) H', y ∈ L → Al (D :: M) H' → Ext [] H0 H' → Is (D :: M) H' x (g y) → ∀ R : VK, (∀ w H'', Ext [] H' H'' → Is (D :: M) H'' w (f y) → R w H'') → te ((wipe σ vs).set j (some x)) H' R)
    (hd : ∀ H', Ext [] H0 H' → Is M H' (.ref D) (.list (L.map f)) → Q (.ref D) H') : qLc (Itl K a) (gName j) tYes te vs σ D H0 Q :=
  q_lcA (N := []) (fun _ => True) (fun y e => e = f y) (fun b h => nomatch h) s hD h hn hw trivial (fun _ _ _ => trivial) (fun i x y H' hy s' e _ iv R k => he x y H' (List.mem_of_getElem? hy) s' e iv R fun w H'' e2 i2 => k w H'' _ e2 trivial i2 rfl)
    fun H' es e _ r i => hd H' e (by rw [r.fn] at i; exact i)
variable {tb : TS} {E : Ends} {gt : TG}
/-- a walk over a list of something -/
theorem q_dataM (h : Is M H0 (.ref a) (.list (L.map g))) (Pv : Nat → L2.St → Hp → Prop) (h0 : Pv 0 σ H) (hE : ∀ i σ H, Pv i σ H → Ext M H0 H)
    (hs : ∀ i y x σ H, L[i]? = some y → Is M H x (g y) → Pv i σ H → gt x σ H fun σ2 H2 => tb { E with nx := Pv (i + 1), ct := Pv (i + 1), bk := E.nx } σ2 H2) (hd : ∀ σ H, Pv L.length σ H → E.nx σ H) : qFor (Itl K a) gt tb E σ H := by
  refine q_data h Pv h0 hE (fun i d x σ H hi iv p => ?_) fun σ H p => hd σ H (by rw [List.length_map] at p; exact p)
  rw [List.getElem?_map] at hi
  cases hy : L[i]? with
  | none => rw [hy] at hi; cases hi
  | some y =>
    rw [hy] at hi
    cases hi
    exact hs i y x σ H hy iv p
end
theorem take_snoc {α : Type} {L : List α} {i : Nat} {y : α} (h : L[i]? = some y) : L.take (i + 1) = L.take i ++ [y] := by rw [List.take_add_one, h]; rfl
/-! ### lists of something: parts, sums, places -/
section
variable {M : List Addr} {H : Hp} {Q : VK} {K : PySem.W.Frag} {a b : Addr} {α : Type} {L L2 : List α} {g : α → PyData}
theorem rd_mcut {lo hi : Int} {l h : Nat} (s : Al M H) (i : Is M H (.ref a) (.list (L.map g))) (hl : lo = (l : Int)) (hh : hi = (h : Int)) (q : ∀ p H', H p = none → Ext [] H H' → Is M H' (.ref p) (.list (((L.take h).drop l).map g)) → Q (.ref p) H') : rSlL K (.ref a) (some lo) (some hi) H Q :=
  rd_cut s i hl hh fun p H' hp e _ j => q p H' hp e (by rw [List.map_drop, List.map_take]; exact j)
theorem rd_mcut0 {hi : Int} {h : Nat} (s : Al M H) (i : Is M H (.ref a) (.list (L.map g))) (hh : hi = (h : Int)) (q : ∀ p H', H p = none → Ext [] H H' → Is M H' (.ref p) (.list ((L.take h).map g)) → Q (.ref p) H') : rSlL K (.ref a) none (some hi) H Q :=
  rd_cut0 s i hh fun p H' hp e _ j => q p H' hp e (by rw [List.map_take]; exact j)
theorem rd_mcutN {lo : Int} {l : Nat} (s : Al M H) (i : Is M H (.ref a) (.list (L.map g))) (hl : lo = (l : Int)) (q : ∀ p H', H p = none → Ext [] H H' → Is M H' (.ref p) (.list ((L.drop l).map g)) → Q (.ref p) H') : rSlL K (.ref a) (some lo) none H Q :=
  rd_cutN s i hl fun p H' hp e _ j => q p H' hp e (by rw [List.map_drop]; exact j)
theorem rd_mcat (s : Al M H) (h : Is M H (.ref a) (.list (L.map g))) (k : Is M H (.ref b) (.list (L2.map g))) (hz : L.length + L2.length ≤ 100000) (q : ∀ p H', H p = none → Ext [] H H' → (∃ xs, H' p = some (.lst xs) ∧ IsAll (p :: M) H' xs ((L ++ L2).map g)) → Is M H' (.ref p) (.list ((L ++ L2).map g)) → Q (.ref p) H') : rCat (.ref a) (.ref b) H Q :=
  rd_dcat s h k (by rw [List.length_map, List.length_map]; exact hz) fun p H' hp e x i => q p H' hp e (by rw [List.map_append]; exact x) (by rw [List.map_append]; exact i)
theorem rd_mix {i : Int} {j : Nat} {y : α} (h : Is M H (.ref a) (.list (L.map g))) (hj : i = (j : Int)) (hd : L[j]? = some y) (q : ∀ v, Is M H v (g y) → Q v H) : rIxL K (.ref a) (.int i) H Q :=
  rd_dix h hj (by rw [List.getElem?_map, hd]; rfl) q
theorem rd_mrep {k : Int} {j : Nat} (s : Al M H) (h : Is M H (.ref a) (.list (L.map g))) (hk : k.toNat = j) (h0 : -(2 ^ 62) ≤ k) (h1 : k ≤ 100000) (hz : L.length * j ≤ 100000) (q : ∀ p H', H p = none → Ext [] H H' → Is M H' (.ref p) (.list ((List.replicate j L).flatten.map g)) → Q (.ref p) H') : rRep (.ref a) (.int k) H Q := by
  subst hk
  refine rd_drep s h (by omega) (by omega) (by rw [List.length_map]; exact hz) fun p H' hp e i => q p H' hp e ?_
  rw [List.map_flatten, List.map_replicate]
  exact i
theorem get_D {xs : List (List Nat)} {j : Nat} (h : j < xs.length) : xs[j]? = some (xs.getD j []) := by rw [List.getD_eq_getElem?_getD, List.getElem?_eq_getElem h]; rfl
end
/-! ### the state of the law's numbers: a list of the script's list and three numbers -/
structure StAt (H : Hp) (p l : Addr) : Prop where
  ex : ∃ (ns : List Int) (i m s : Int), H p = some (.lst [.ref l, .int i, .int m, .int s]) ∧ H l = some (.lst (ns.map V.int)) ∧ 0 ≤ i ∧ i ≤ ns.length ∧ 0 ≤ m
  ne : p ≠ l
theorem StAt.ext {M : List Addr} {H H' : Hp} {p l : Addr} (s : StAt H p l) (e : Ext M H H') (h1 : p ∉ M) (h2 : l ∉ M) : StAt H' p l := by
  obtain ⟨⟨ns, i, m, s0, a, b, c⟩, ne⟩ := s
  exact ⟨⟨ns, i, m, s0, e.keep _ _ h1 a, e.keep _ _ h2 b, c⟩, ne⟩
theorem StAt.ext0 {H H' : Hp} {p l : Addr} (s : StAt H p l) (e : Ext [] H H') : StAt H' p l := s.ext e (by simp) (by simp)
theorem at_st0 {H H' : Hp} {p l : Addr} (e : Ext [] H H') (s : StAt H p l) : StAt H' p l := s.ext0 e
theorem at_stN {H : Hp} {p l q : Addr} {o : HO} (h : H q = none) (s : StAt H p l) : StAt (upd H q o) p l := s.ext0 (.new h)
theorem StAt.al {H : Hp} {p l : Addr} (s : StAt H p l) : H p ≠ none := by
  obtain ⟨⟨ns, i, m, s0, a, b, c⟩, ne⟩ := s
  exact some_ne a
theorem StAt.ne_new {H : Hp} {p l r : Addr} (s : StAt H p l) (h : H r = none) : r ≠ p := fun e => s.al (by rw [← e]; exact h)
theorem StAt.als {H : Hp} {p l : Addr} (s : StAt H p l) : Al [p] H := .cons s.al .nil
theorem StAt.al2 {H : Hp} {p l : Addr} (s : StAt H p l) : H l ≠ none := by
  obtain ⟨⟨ns, i, m, s0, a, b, c⟩, ne⟩ := s
  exact some_ne b
/-! ### classes, own exceptions: defs that may raise -/
structure GMak (K : PySem.W.Frag) (mg : Str → Option Value) (x : Str) (C : Addr) (qual : Str) (st : Stmt) : Prop where
  ex : ∃ (f : Addr) (fd : FuncData), FunD K "__init__" qual (defArgs st) (defBody st) (defScope st) [] [] f fd ∧ Mk K C f ∧ mg x = some (.ref C)
abbrev CalE (P : Program) (w : World) := CalX (L2.CX P w) P w
abbrev MetE (P : Program) (w : World) := MetX (L2.CX P w) P w
abbrev MakE (P : Program) (w : World) := MakX (L2.CX P w) P w
section
variable {P : Program} {w : World} {K : PySem.W.Frag} {mg : Str → Option Value} {base : Heap} {x qual m : Str} {st : Stmt} {N ps : List Str} {k : Nat} {sp : Sp} {C : Addr}
theorem GMak.mak (g : GMak K mg x C qual st) (S : FnScope N ps (defScope st)) (b : BindAll "__init__" qual st ps) (len : ∀ vs H Q E, sp vs H Q E → vs.length = ps.length)
    (hbody : ∀ (f : Addr) (cdv : Value) (A : Around) (outer : List Env) (s : Shared) (H : Hp) (vs : List V) (Q : VK) (E : XK), Room k (A.deeper (envOfC qual (defScope st) s.heap.objs.size f cdv)) → sp vs H Q E →
      ∃ t, PSs (cxOf CX0 P w K mg base N qual (defScope st) f cdv A outer s H E).nox (defBody st) t ∧ t { nx := fun _ H' => Q .non H', rt := Q } (start N vs) H) : Mak P w K mg base (k + 1) x C sp [] := by
  obtain ⟨f, fd, F, M, hm⟩ := g.ex
  exact ⟨f, fd, ps, [], M, fnd_ok F S len (hbody f), hm, F.bindsN b, .nil⟩
theorem GFun.calE (g : GFun K mg x st) (S : FnScope N ps (defScope st)) (b : BindAll x x st ps) (len : ∀ vs H Q E, sp vs H Q E → vs.length = ps.length)
    (hbody : ∀ (f : Addr) (cdv : Value) (A : Around) (outer : List Env) (s : Shared) (H : Hp) (vs : List V) (Q : VK) (E : XK), Room k (A.deeper (envOfC x (defScope st) s.heap.objs.size f cdv)) → sp vs H Q E →
      ∃ t, PSs (cxOf (L2.CX P w) P w K mg base N x (defScope st) f cdv A outer s H E) (defBody st) t ∧ t { nx := fun _ H' => Q .non H', rt := Q } (start N vs) H) : CalE P w K mg base (k + 1) x sp [] := by
  obtain ⟨f, fd, F, hm⟩ := g.ex
  exact ⟨f, fd, ps, [], F.ok S len fun cdv A outer s H vs Q E hr h => hbody f cdv A outer s H vs Q E hr h, hm, F.kp, F.bindsN b, .nil⟩
theorem GMet.metE (g : GMet K C m qual st) (S : FnScope N ps (defScope st)) (b : BindAll m qual st ps) (len : ∀ vs H Q E, sp vs H Q E → vs.length = ps.length)
    (hbody : ∀ (f : Addr) (cdv : Value) (A : Around) (outer : List Env) (s : Shared) (H : Hp) (vs : List V) (Q : VK) (E : XK), Room k (A.deeper (envOfC qual (defScope st) s.heap.objs.size f cdv)) → sp vs H Q E →
      ∃ t, PSs (cxOf (L2.CX P w) P w K mg base N qual (defScope st) f cdv A outer s H E) (defBody st) t ∧ t { nx := fun _ H' => Q .non H', rt := Q } (start N vs) H) : MetE P w K mg base (k + 1) C m sp [] := by
  obtain ⟨f, fd, F, c, hm⟩ := g.ex
  exact ⟨f, fd, ps, [], c, hm, F.ok S len fun cdv A outer s H vs Q E hr h => hbody f cdv A outer s H vs Q E hr h, F.bindsN b, .nil⟩
theorem GMak.makE (g : GMak K mg x C qual st) (S : FnScope N ps (defScope st)) (b : BindAll "__init__" qual st ps) (len : ∀ vs H Q E, sp vs H Q E → vs.length = ps.length)
    (hbody : ∀ (f : Addr) (cdv : Value) (A : Around) (outer : List Env) (s : Shared) (H : Hp) (vs : List V) (Q : VK) (E : XK), Room k (A.deeper (envOfC qual (defScope st) s.heap.objs.size f cdv)) → sp vs H Q E →
      ∃ t, PSs (cxOf (L2.CX P w) P w K mg base N qual (defScope st) f cdv A outer s H E) (defBody st) t ∧ t { nx := fun _ H' => Q .non H', rt := Q } (start N vs) H) : MakE P w K mg base (k + 1) x C sp [] := by
  obtain ⟨f, fd, F, M, hm⟩ := g.ex
  exact ⟨f, fd, ps, [], M, F.ok S len fun cdv A outer s H vs Q E hr h => hbody f cdv A outer s H vs Q E hr h, hm, F.bindsN b, .nil⟩
end
section
variable {X : Cx} {k j : Nat} {C : Addr} {x m : Str} {sp : Sp} {dvs : List V} {p pos apos : Pos} {W : WX} {e o : Expr} {es : List Expr} {t : TA} {ta : TE}
/-- the own runs of a call that may raise, at the slots -/
theorem run_fnW {CX : CXT} {f : Addr} {fd : FuncData} {ps : List Str} {ds : List Value} {E : L2.St → XK} {pins : List (Addr × Obj)} {σ : L2.St} {H : Hp} {s : Shared} {Q : VK} {us : List Value} {vs : List V} (F : FnOk X.prog X.w X.K X.mg X.base CX k f fd ps sp) (hr : Room k X.A) (hb : Binds X.K fd ps ds) (hd : Vals dvs ds) (hx : PassesAt CX X σ (E σ))
    (I : Inv X pins σ H s) (r : Vals vs us) (h : sp (vs ++ dvs) H Q (E σ)) : wpAny (model X.prog X.w) X.A (call (.ref f) us) (EP X pins σ Q) X.xe s := by
  have r2 : Vals (vs ++ dvs) (us ++ ds) := r.append hd
  have hl : (us ++ ds).length = ps.length := by rw [← r2.length]; exact F.len _ _ _ _ h
  refine wpAny_call (codeAny_mono (F.run X.A X.stack s H ⟨us, []⟩ (us ++ ds) (vs ++ dvs) Q (E σ) hr I.env0 (hb s us I.kIn hl) r2 h) fun r s' hq => ?_)
  cases r with
  | error e => exact hx pins H s e s' I hq
  | ok fl =>
    cases fl with
    | ret u => exact I.after hq
    | next => exact False.elim hq
    | brk => exact False.elim hq
    | cont => exact False.elim hq
def qCallW (sp : Sp) (dvs : List V) (W : WX) (t : TA) : TE := fun σ H Q => t σ H fun vs H1 => sp (vs ++ dvs) H1 Q (WE W σ)
def qMethW (C : Addr) (m : Str) (sp : Sp) (dvs : List V) (W : WX) (ta : TE) (t : TA) : TE := fun σ H Q => ta σ H fun x H1 => ∃ a dx fs, x = .ref a ∧ H1 a = some (.ins C dx fs) ∧ fs.lookup m = none ∧ t σ H1 fun vs H2 => sp (x :: (vs ++ dvs)) H2 Q (WE W σ)
theorem pe_cW (c : CalE X.prog X.w X.K X.mg X.base k x sp dvs) (hr : Room j X.A) (hk : k ≤ j) (tk : Takes X W) (hg : Gl X x) (ha : PA X (e :: es) t)
    (hdb : (x == ("__debug__" : Str)) = false := by decide) (he : starEach (e :: es) X.env = (false, eval e X.env) :: starEach es X.env := by rfl) (hpl : (backTo pos (starEach es X.env)).any (·.1) = false := by rfl) :
    PE X (.Call (.Name x p) (e :: es) [] pos) (qCallW sp dvs W t) := by
  obtain ⟨f, fd, ps, ds, F, hm, kp, b, d⟩ := c.ex
  refine ⟨fun pins s σ H Q I h => ?_⟩
  refine wpAny_Call_Name_kw (ld_glob I hg hm ?_ hdb)
  refine PySem.W.callWith_K (h₀ := X.base) I.ok.mod.kin kp (thn (ha.run pos pins s σ H _ I h) fun us s1 ⟨vs, H1, I1, r, q⟩ => ⟨I1.kIn, ?_⟩) he hpl
  exact run_fnW F (hr.mono hk) b d (passAt tk σ) I1 r q
theorem pe_mtW {pl : Sem Bool} (c : MetE X.prog X.w X.K X.mg X.base k C m sp dvs) (hr : Room j X.A) (hk : k ≤ j) (tk : Takes X W) (he : PE X o ta) (ha : PA X (e :: es) t)
    (hst : starEach (e :: es) X.env = (false, eval e X.env) :: starEach es X.env := by rfl) (hpl : (backTo pos (starEach es X.env)).any (·.1) = false := by rfl)
    (ht : eval (.Call (.Attribute o m apos) (e :: es) [] pos) X.env = (do
      let ov ← eval o X.env
      standAt apos.atName
      let (f, first) ← holding [ov] (getMethod ov m pl)
      callWith pos f first (backTo pos (starEach (e :: es) X.env)) (backToKw pos (keywordEach [] X.env))) := by rfl) :
    PE X (.Call (.Attribute o m apos) (e :: es) [] pos) (qMethW C m sp dvs W ta t) := by
  obtain ⟨f, fd, ps, ds, hc, hm, F, b, d⟩ := c.ex
  refine ⟨fun pins s σ H Q I h => ?_⟩
  refine PySem.W.methodCall_KW (pl := pl) (thn (he.run pins s σ H _ I h) fun u s1 ⟨x, H1, I1, rx, a, dx, fs, ex, ea, l, q⟩ => ?_) ht
  subst ex
  obtain rfl : u = Value.ref a := rx
  refine getmeth_ok I1 ea hc hm l ?_
  refine PySem.W.callWith_K (first := [.ref a]) (h₀ := X.base) I.ok.mod.kin hm.kp (thn (ha.run pos pins s1 σ H1 _ I1 q) fun us s2 ⟨vs, H2, I2, r, q2⟩ => ⟨I2.kIn, ?_⟩) hst hpl
  exact run_fnW (us := .ref a :: us) (vs := .ref a :: vs) F (hr.mono hk) b d (passAt tk σ) I2 (.cons rfl r) q2
theorem pe_mtW0 {pl : Sem Bool} (c : MetE X.prog X.w X.K X.mg X.base k C m sp dvs) (hr : Room j X.A) (hk : k ≤ j) (tk : Takes X W) (he : PE X o ta)
    (ht : eval (.Call (.Attribute o m apos) [] [] pos) X.env = (do
      let ov ← eval o X.env
      standAt apos.atName
      let (f, first) ← holding [ov] (getMethod ov m pl)
      callWith pos f first (backTo pos (starEach [] X.env)) (backToKw pos (keywordEach [] X.env))) := by rfl) :
    PE X (.Call (.Attribute o m apos) [] [] pos) (qMethW C m sp dvs W ta tNil) := by
  obtain ⟨f, fd, ps, ds, hc, hm, F, b, d⟩ := c.ex
  refine ⟨fun pins s σ H Q I h => ?_⟩
  refine PySem.W.methodCall_KW (pl := pl) (thn (he.run pins s σ H _ I h) fun u s1 ⟨x, H1, I1, rx, a, dx, fs, ex, ea, l, q⟩ => ?_) ht
  subst ex
  obtain rfl : u = Value.ref a := rx
  refine getmeth_ok I1 ea hc hm l ?_
  exact PySem.W.callWith_K0 (first := [.ref a]) I1.kIn hm.kp (run_fnW (us := [.ref a]) (vs := [.ref a]) F (hr.mono hk) b d (passAt tk σ) I1 (.cons rfl .nil) q)
end
/-! ### what the written part says of own exceptions -/
def xcB (K : PySem.W.Frag) (x : Str) : Bool := He.eqO (PySem.W.findIn K (.ref (He.ga K x)) "__getattribute__") (some (some (.builtin "BaseException.__getattribute__"))) && (He.eqO (PySem.W.findIn K (.ref (He.ga K x)) "__getattr__") (some none) &&
  (decide (PySem.W.subIn K (.ref (He.ga K x)) (.type "BaseException") = some true) && (PySem.W.hasDictIn K (He.ga K x) && (He.eqO (PySem.W.findIn K (.ref (He.ga K x)) "__class__") (some (some (.builtin "object.__class__"))) &&
  (He.eqO (PySem.W.specialIn K (.builtin "object.__class__") "__get__") (some (some (.builtin "getset_descriptor.__get__"))) && (decide (PySem.W.takesIn K (.builtin "object.__class__") = some true) && decide (PySem.W.mroIn K (He.ga K x) (.type "object") = some true)))))))
theorem xcB_ok {K : PySem.W.Frag} {x : Str} (h : xcB K x = true) : ExcC K (He.ga K x) := by
  obtain ⟨h1, h⟩ := He.ba h
  obtain ⟨h2, h⟩ := He.ba h
  obtain ⟨h3, h⟩ := He.ba h
  obtain ⟨h4, h⟩ := He.ba h
  obtain ⟨h5, h⟩ := He.ba h
  obtain ⟨h6, h⟩ := He.ba h
  obtain ⟨h7, h8⟩ := He.ba h
  exact ⟨He.eqO_ok h1, He.eqO_ok h2, of_decide_eq_true h3, h4, He.eqO_ok h5, He.eqO_ok h6, of_decide_eq_true h7, of_decide_eq_true h8⟩
def kiB (K : PySem.W.Frag) (x y : Str) (b : Bool) : Bool := decide (PySem.W.kitOne K (.ref (He.ga K x)) (.ref (He.ga K y)) = some b)
theorem kiB_ok {K : PySem.W.Frag} {x y : Str} {b : Bool} (h : kiB K x y b = true) : PySem.W.kitOne K (.ref (He.ga K x)) (.ref (He.ga K y)) = some b := of_decide_eq_true h
def kiVB (K : PySem.W.Frag) (x : Str) : Bool := decide (PySem.W.kitOne K (.ref (He.ga K x)) (.type "ValueError") = some true)
theorem kiVB_ok {K : PySem.W.Frag} {x : Str} (h : kiVB K x = true) : PySem.W.kitOne K (.ref (He.ga K x)) (.type "ValueError") = some true := of_decide_eq_true h
theorem pss_given {X : Cx} {b : List Stmt} {t : TS} {p : Prop} (h : p → PSs X b t) : PSs X b (fun D σ H => p ∧ t D σ H) := ⟨fun pins s σ H D I q => (h q.1).run pins s σ H D I q.2⟩
theorem zc_of {cls : Value} {d : Option Addr} {D : Addr} {oe : Obj} (q : cls = .ref D ∧ d = none) (hz : Zc cls d oe) : Zc (.ref D) none oe := by
  obtain ⟨rfl, rfl⟩ := q
  exact hz
/-! ### fields, raises: readings under names -/
def qRaise (C : Addr) (W : WX) : TS := fun _ σ H => W (.ref C) none σ H
theorem ps_rz {X : Cx} {W : WX} {x m : Str} {j : Nat} {p p2 pos pos' : Pos} {C : Addr} (hc : X.calm = true) (tk : Takes X W) (g : X.mg x = some (.ref C))
    (h : PySem.W.excIn X.K C He.veBase "ValueError.__new__" = true ∧ PySem.W.keepIn X.K (.ref C) = true ∧ PySem.W.subIn X.K (.ref C) (.type "BaseException") = some true ∧ PySem.W.typeIn X.K (.ref C) = some (.type "type"))
    (hg : Gl X x) (hdb : (x == ("__debug__" : Str)) = false := by decide) : PS X (.Raise (some (.Call (.Name x p) [.Constant (.str m) j p2] [] pos')) none pos) (qRaise C W) :=
  ps_raise hc tk (pmk_own PySem.F.excBase_ValueError h.1 g h.2.1 (raises_own h.2.2.1 h.2.2.2) hg hdb)
def qFld (K : PySem.W.Frag) (x : V) (f : Str) (H : Hp) (Q : VK) : Prop := ∃ a C dx fs v, x = .ref a ∧ H a = some (.ins C dx fs) ∧ Cls K C ∧ NoAttr K C f ∧ fs.lookup f = some v ∧ Q v H
def qOb (C : Addr) (m : Str) (x : V) (H : Hp) (R : Prop) : Prop := ∃ a dx fs, x = .ref a ∧ H a = some (.ins C dx fs) ∧ fs.lookup m = none ∧ R
def qSet (K : PySem.W.Frag) (x y : V) (f : Str) (H : Hp) (R : Hp → Prop) : Prop := ∃ a C dx fs, x = .ref a ∧ H a = some (.ins C dx fs) ∧ Cls K C ∧ NoAttr K C f ∧ fs.length < 1000 ∧ R (upd H a (.ins C dx (putF f y fs)))
section
variable {K : PySem.W.Frag} {σ : L2.St} {H : Hp} {Q : VK} {ta tv : TE} {f : Str} {D : Ends} {a C dx : Addr} {fs : List (Str × V)} {v y : V}
theorem rd_raise {W : WX} (q : W (.ref C) none σ H) : qRaise C W D σ H := q
theorem rd_fld (q : ta σ H fun x H1 => qFld K x f H1 Q) : tFld K ta f σ H Q := q
theorem rd_fldA (h : H a = some (.ins C dx fs)) (c : Cls K C) (n : NoAttr K C f) (l : fs.lookup f = some v) (q : Q v H) : qFld K (.ref a) f H Q := ⟨a, C, dx, fs, v, rfl, h, c, n, l, q⟩
theorem rd_sfld (q : tv σ H fun y H1 => ta σ H1 fun x H2 => qSet K x y f H2 fun H3 => D.nx σ H3) : sFld K ta tv f D σ H := q
theorem rd_setA {R : Hp → Prop} (h : H a = some (.ins C dx fs)) (c : Cls K C) (n : NoAttr K C f) (l : fs.length < 1000) (q : R (upd H a (.ins C dx (putF f y fs)))) : qSet K (.ref a) y f H R := ⟨a, C, dx, fs, rfl, h, c, n, l, q⟩
theorem rd_methW {m : Str} {sp : Sp} {dvs : List V} {W : WX} {t : TA} (q : ta σ H fun x H1 => qOb C m x H1 (t σ H1 fun vs H2 => sp (x :: (vs ++ dvs)) H2 Q (WE W σ))) : qMethW C m sp dvs W ta t σ H Q := q
theorem rd_meth {m : Str} {sp : Sp} {dvs : List V} {E : XK} {t : TA} (q : ta σ H fun x H1 => qOb C m x H1 (t σ H1 fun vs H2 => sp (x :: (vs ++ dvs)) H2 Q E)) : tMeth C m sp dvs E ta t σ H Q := q
theorem rd_obA {m : Str} {R : Prop} (h : H a = some (.ins C dx fs)) (l : fs.lookup m = none) (q : R) : qOb C m (.ref a) H R := ⟨a, dx, fs, rfl, h, l, q⟩
theorem rd_callW {sp : Sp} {dvs : List V} {W : WX} {t : TA} (q : t σ H fun vs H1 => sp (vs ++ dvs) H1 Q (WE W σ)) : qCallW sp dvs W t σ H Q := q
end
def qFAug (K : PySem.W.Frag) (x : V) (tv : TE) (rd : V → V → Hp → VK → Prop) (f : Str) (σ : L2.St) (H1 : Hp) (R : Hp → Prop) : Prop := ∃ a C dx fs v, x = .ref a ∧ H1 a = some (.ins C dx fs) ∧ Cls K C ∧ NoAttr K C f ∧ fs.lookup f = some v ∧
  tv σ H1 fun y H2 => rd v y H2 fun z H3 => qSetB a z f C H3 R
where qSetB (a : Addr) (z : V) (f : Str) (C : Addr) (H3 : Hp) (R : Hp → Prop) : Prop := ∃ dx' fs', H3 a = some (.ins C dx' fs') ∧ fs'.length < 1000 ∧ R (upd H3 a (.ins C dx' (putF f z fs')))
section
variable {K : PySem.W.Frag} {σ : L2.St} {H : Hp} {ta tv : TE} {f : Str} {D : Ends} {a C dx : Addr} {fs : List (Str × V)} {v z : V} {rd : V → V → Hp → VK → Prop} {R : Hp → Prop}
theorem rd_sfaug (q : ta σ H fun x H1 => qFAug K x tv rd f σ H1 fun H2 => D.nx σ H2) : sFldAug K ta tv rd f D σ H := q
theorem rd_faugA (h : H a = some (.ins C dx fs)) (c : Cls K C) (n : NoAttr K C f) (l : fs.lookup f = some v) (q : tv σ H fun y H2 => rd v y H2 fun z H3 => qFAug.qSetB a z f C H3 R) : qFAug K (.ref a) tv rd f σ H R := ⟨a, C, dx, fs, v, rfl, h, c, n, l, q⟩
theorem rd_setB (h : H a = some (.ins C dx fs)) (l : fs.length < 1000) (q : R (upd H a (.ins C dx (putF f z fs)))) : qFAug.qSetB a z f C H R := ⟨dx, fs, h, l, q⟩
end
/-! ### a class called, whose __init__ may raise -/
def qMakeW (C : Addr) (sp : Sp) (dvs : List V) (W : WX) (t : TA) : TE := fun σ H Q => t σ H fun vs H1 => ∀ x dx, H1 x = none → H1 dx = none → dx ≠ x → sp (.ref x :: (vs ++ dvs)) (upd (upd H1 dx (.own x)) x (.ins C dx [])) (fun v H2 => v = .non ∧ Q (.ref x) H2) (WE W σ)
section
variable {X : Cx} {k j : Nat} {C : Addr} {x : Str} {sp : Sp} {dvs : List V} {p pos : Pos} {W : WX} {e : Expr} {es : List Expr} {t : TA}
theorem run_mkW {CX : CXT} {fn : Addr} {fd : FuncData} {ps : List Str} {ds : List Value} {EE : XK} {pins : List (Addr × Obj)} {σ : L2.St} {H : Hp} {s : Shared} {Q : VK} {us : List Value} {vs : List V} (mk : Mk X.K C fn) (F : FnOk X.prog X.w X.K X.mg X.base CX k fn fd ps sp)
    (room : Room (k + 1) X.A) (bi : Binds X.K fd ps ds) (dv : Vals dvs ds) (px : PassesAt CX X σ EE) (I : Inv X pins σ H s) (rel : Vals vs us)
    (h : ∀ x dx, H x = none → H dx = none → dx ≠ x → sp (.ref x :: (vs ++ dvs)) (upd (upd H dx (.own x)) x (.ins C dx [])) (fun v H2 => v = .non ∧ Q (.ref x) H2) EE) :
    wpAny (model X.prog X.w) X.A (call (.ref C) us) (EP X pins σ Q) X.xe s := by
  have made := Inv.made (C := C) I
  have q := h (s.heap.objs.size + 1) s.heap.objs.size (I.hok.fresh (Nat.le_succ _)) (I.hok.fresh (Nat.le_refl _)) (Nat.ne_of_lt (Nat.lt_succ_self _))
  have all : Vals (V.ref (s.heap.objs.size + 1) :: (vs ++ dvs)) (Value.ref (s.heap.objs.size + 1) :: (us ++ ds)) := .cons rfl (rel.append dv)
  have len : (Value.ref (s.heap.objs.size + 1) :: us ++ ds).length = ps.length := by
    have z := F.len _ _ _ _ q
    rw [all.length] at z
    exact z
  have body := F.run _ X.stack _ _ ⟨Value.ref (s.heap.objs.size + 1) :: us, []⟩ (Value.ref (s.heap.objs.size + 1) :: (us ++ ds)) _ _ EE (room.make C us []) (made.env0.make C us []) (bi _ (Value.ref (s.heap.objs.size + 1) :: us) made.kIn len) all q
  refine wpAny_call (make_map (f := fn) I.kIn mk.makes mk.init (beq_iff_eq.mp mk.fn) (codeAny_mono body fun r s' z => ?_))
  cases r with
  | ok fl =>
    cases fl with
    | ret u =>
      obtain ⟨v, H', I3, rv, rfl, q3⟩ := made.after z
      exact ⟨rv, ⟨V.ref (s.heap.objs.size + 1), H', I3, rfl, q3⟩⟩
    | next => cases z
    | brk => cases z
    | cont => cases z
  | error e => exact px pins _ _ e s' made z
theorem pe_mkW (c : MakE X.prog X.w X.K X.mg X.base k x C sp dvs) (hr : Room j X.A) (hk : k + 1 ≤ j) (tk : Takes X W) (hg : Gl X x) (ha : PA X (e :: es) t)
    (hdb : (x == ("__debug__" : Str)) = false := by decide) (he : starEach (e :: es) X.env = (false, eval e X.env) :: starEach es X.env := by rfl) (hpl : (backTo pos (starEach es X.env)).any (·.1) = false := by rfl) :
    PE X (.Call (.Name x p) (e :: es) [] pos) (qMakeW C sp dvs W t) := by
  obtain ⟨f, fd, ps, ds, mk, F, hm, b, d⟩ := c.ex
  refine ⟨fun pins s σ H Q I h => ?_⟩
  refine wpAny_Call_Name_kw (ld_glob I hg hm ?_ hdb)
  refine PySem.W.callWith_K (h₀ := X.base) I.ok.mod.kin mk.kp (thn (ha.run pos pins s σ H _ I h) fun us s1 ⟨vs, H1, I1, r, q⟩ => ⟨I1.kIn, ?_⟩) he hpl
  exact run_mkW mk F (hr.mono hk) b d (passAt tk σ) I1 r q
theorem rd_mkW {σ : L2.St} {H : Hp} {Q : VK} (q : t σ H fun vs H1 => ∀ x dx, H1 x = none → H1 dx = none → dx ≠ x → sp (.ref x :: (vs ++ dvs)) (upd (upd H1 dx (.own x)) x (.ins C dx [])) (fun v H2 => v = .non ∧ Q (.ref x) H2) (WE W σ)) : qMakeW C sp dvs W t σ H Q := q
end
/-! ### < and > of tuples of anything: the first pair that differs tells (own rule: nothing is asked of the pairs behind it) -/
inductive LexP (op : CmpOp) (A : Around) (s : Shared) (z : Bool) : List (Value × Value) → Bool → Prop
  | done : LexP op A s z [] z
  | same {x y : Value} {r : List (Value × Value)} {k : Bool} : SeqAt.EqAt A s x y true → LexP op A s z r k → LexP op A s z ((x, y) :: r) k
  | diff {x y : Value} {r : List (Value × Value)} {k : Bool} : SeqAt.EqAt A s x y false → Ob.RcOp op A s x y k → LexP op A s z ((x, y) :: r) k
section
open PySem.AutoSeq1 (wpAny_loadPart')
open PySem.SeqAt PySem.MeetsSeq PySem.MeetsSeq2 PySem.MeetsSeq3
theorem lexLt (p q : Addr) (us vs : Array Value) (n m : Nat) (d1 d2 : Option Addr) (l1 l2 : Array (Option Value)) (k : Bool) :
    Meets (Builtin.«tuple.__lt__» ⟨[.ref p, .ref q], []⟩) (fun A R s => s.heap.get? p = some ⟨.type "tuple", d1, .seq us n, l1⟩ ∧ s.heap.get? q = some ⟨.type "tuple", d2, .seq vs m, l2⟩ ∧
      LexP .Lt A.in1 s (decide (us.size < vs.size)) (us.toList.zip vs.toList) k ∧ R (.ok (.ret (.bool k))) s) :=
  .of_wp fun prog w A R s0 h => by
    obtain ⟨hh, gg, dd, tt, oo⟩ := s0
    obtain ⟨hp, hq, hx, fin⟩ := h
    have sub := AutoSeq1.sub_tuple_tuple
    wp_walk using wpAny_loadPart' hp, wpAny_loadPart' hq, wpAny_forIn_list _ (fun r b s1 => b.1 = none ∧ s1 = ⟨hh, gg, dd, tt, oo⟩ ∧ LexP .Lt A.in1 ⟨hh, gg, dd, tt, oo⟩ (decide (us.size < vs.size)) r k) _
    case turn =>
      rintro ⟨x, y⟩ r b s1 ⟨hb, rfl, c⟩
      cases c with
      | same e c =>
        refine wpAny_bind (e prog w _ _ ?_)
        wp_walk
        exact ⟨rfl, rfl, c⟩
      | diff e c =>
        refine wpAny_bind (e prog w _ _ ?_)
        have c' := c prog w
        wp_walk using c'
        exact ⟨_, rfl, fin⟩
    case fin =>
      rintro ⟨b1, b2⟩ s1 ⟨hb, rfl, c⟩
      simp only at hb
      subst hb
      cases c
      wp_walk
      exact ⟨_, rfl, fin⟩
    case h => exact ⟨rfl, rfl, hx⟩
end
section
open PySem.AutoSeq1 (wpAny_loadPart')
open PySem.SeqAt PySem.MeetsSeq PySem.MeetsSeq2 PySem.MeetsSeq3
theorem lexGt (p q : Addr) (us vs : Array Value) (n m : Nat) (d1 d2 : Option Addr) (l1 l2 : Array (Option Value)) (k : Bool) :
    Meets (Builtin.«tuple.__gt__» ⟨[.ref p, .ref q], []⟩) (fun A R s => s.heap.get? p = some ⟨.type "tuple", d1, .seq us n, l1⟩ ∧ s.heap.get? q = some ⟨.type "tuple", d2, .seq vs m, l2⟩ ∧
      LexP .Gt A.in1 s (decide (us.size > vs.size)) (us.toList.zip vs.toList) k ∧ R (.ok (.ret (.bool k))) s) :=
  .of_wp fun prog w A R s0 h => by
    obtain ⟨hh, gg, dd, tt, oo⟩ := s0
    obtain ⟨hp, hq, hx, fin⟩ := h
    have sub := AutoSeq1.sub_tuple_tuple
    wp_walk using wpAny_loadPart' hp, wpAny_loadPart' hq, wpAny_forIn_list _ (fun r b s1 => b.1 = none ∧ s1 = ⟨hh, gg, dd, tt, oo⟩ ∧ LexP .Gt A.in1 ⟨hh, gg, dd, tt, oo⟩ (decide (us.size > vs.size)) r k) _
    case turn =>
      rintro ⟨x, y⟩ r b s1 ⟨hb, rfl, c⟩
      cases c with
      | same e c =>
        refine wpAny_bind (e prog w _ _ ?_)
        wp_walk
        exact ⟨rfl, rfl, c⟩
      | diff e c =>
        refine wpAny_bind (e prog w _ _ ?_)
        have c' := c prog w
        wp_walk using c'
        exact ⟨_, rfl, fin⟩
    case fin =>
      rintro ⟨b1, b2⟩ s1 ⟨hb, rfl, c⟩
      simp only at hb
      subst hb
      cases c
      wp_walk
      exact ⟨_, rfl, fin⟩
    case h => exact ⟨rfl, rfl, hx⟩
end
theorem rc_ltT {A : Around} {s : Shared} {p q : Addr} {us vs : Array Value} {k : Bool} (hp : s.heap.IsTuple p us) (hq : s.heap.IsTuple q vs) (hu : A.units < cLine) (hx : LexP .Lt A.in1 s (decide (us.size < vs.size)) (us.toList.zip vs.toList) k) :
    Ob.RcOp .Lt A s (.ref p) (.ref q) k := fun prog w E Q h => by
  obtain ⟨⟨c1, d1, t1, l1⟩, o1, e1, n, f1⟩ := id hp
  obtain ⟨⟨c2, d2, t2, l2⟩, o2, e2, m, f2⟩ := id hq
  simp only at e1 f1 e2 f2
  subst e1 f1 e2 f2
  exact PySem.richCompare_meets_room (op := .Lt) ⟨_, o1, rfl⟩ ⟨_, o2, rfl⟩ F.slot_tuple_lt F.entry_tuple_lt (F.args_tuple_lt_2 _ _) (lexLt p q us vs n m d1 d2 l1 l2 k) ⟨o1, o2, hx, (fun z => nomatch z), h⟩ hu
theorem rc_gtT {A : Around} {s : Shared} {p q : Addr} {us vs : Array Value} {k : Bool} (hp : s.heap.IsTuple p us) (hq : s.heap.IsTuple q vs) (hu : A.units < cLine) (hx : LexP .Gt A.in1 s (decide (us.size > vs.size)) (us.toList.zip vs.toList) k) :
    Ob.RcOp .Gt A s (.ref p) (.ref q) k := fun prog w E Q h => by
  obtain ⟨⟨c1, d1, t1, l1⟩, o1, e1, n, f1⟩ := id hp
  obtain ⟨⟨c2, d2, t2, l2⟩, o2, e2, m, f2⟩ := id hq
  simp only at e1 f1 e2 f2
  subst e1 f1 e2 f2
  exact PySem.richCompare_meets_room (op := .Gt) ⟨_, o1, rfl⟩ ⟨_, o2, rfl⟩ F.slot_tuple_gt F.entry_tuple_gt (F.args_tuple_gt_2 _ _) (lexGt p q us vs n m d1 d2 l1 l2 k) ⟨o1, o2, hx, (fun z => nomatch z), h⟩ hu
/-! ### the order of data: numbers, texts, tuples of them -/
mutual
inductive Cm : PyData → PyData → Ordering → Prop
  | ilt {i j : Int} : i < j → Cm (.int i) (.int j) .lt
  | ieq {i : Int} : Cm (.int i) (.int i) .eq
  | igt {i j : Int} : j < i → Cm (.int i) (.int j) .gt
  | slt {x y : Str} : x.cps.toList < y.cps.toList → Cm (.str x) (.str y) .lt
  | seq {x : Str} : Cm (.str x) (.str x) .eq
  | sgt {x y : Str} : y.cps.toList < x.cps.toList → Cm (.str x) (.str y) .gt
  | tup {ds es : List PyData} {o : Ordering} : CmL ds es o → Cm (.tuple ds) (.tuple es) o
inductive CmL : List PyData → List PyData → Ordering → Prop
  | nn : CmL [] [] .eq
  | nc {e : PyData} {es : List PyData} : CmL [] (e :: es) .lt
  | cn {d : PyData} {ds : List PyData} : CmL (d :: ds) [] .gt
  | same {d e : PyData} {ds es : List PyData} {o : Ordering} : Cm d e .eq → CmL ds es o → CmL (d :: ds) (e :: es) o
  | diff {d e : PyData} {ds es : List PyData} {o : Ordering} : Cm d e o → o ≠ .eq → CmL (d :: ds) (e :: es) o
end
theorem cps_ne {x y : Str} (h : x.cps.toList < y.cps.toList) : x ≠ y := fun e => by
  subst e
  exact List.lt_irrefl _ h
theorem lt_not {x y : Str} (h : x.cps.toList < y.cps.toList) : ¬ y.cps.toList < x.cps.toList := List.lt_asymm h
mutual
theorem Cm.eqv : ∀ {d e : PyData} {o : Ordering}, Cm d e o → PyData.eqv d e = (o == .eq)
  | _, _, _, .ilt h => by simp only [PyData.eqv]; exact decide_eq_false (by omega)
  | _, _, _, .ieq => by simp only [PyData.eqv]; exact decide_eq_true rfl
  | _, _, _, .igt h => by simp only [PyData.eqv]; exact decide_eq_false (by omega)
  | _, _, _, .slt h => by simp only [PyData.eqv]; exact decide_eq_false (cps_ne h)
  | _, _, _, .seq => by simp only [PyData.eqv]; exact decide_eq_true rfl
  | _, _, _, .sgt h => by simp only [PyData.eqv]; exact decide_eq_false (cps_ne h).symm
  | _, _, _, .tup h => by simp only [PyData.eqv]; exact CmL.eqv h
theorem CmL.eqv : ∀ {ds es : List PyData} {o : Ordering}, CmL ds es o → PyData.eqvAll ds es = (o == .eq)
  | _, _, _, .nn => by simp [PyData.eqvAll]
  | _, _, _, .nc => by simp [PyData.eqvAll]
  | _, _, _, .cn => by simp [PyData.eqvAll]
  | _, _, _, .same h t => by
    simp only [PyData.eqvAll, Cm.eqv h, CmL.eqv t]
    rfl
  | _, _, o, .diff h n => by
    simp only [PyData.eqvAll, Cm.eqv h]
    cases o with
    | eq => exact absurd rfl n
    | lt => rfl
    | gt => rfl
end
theorem Reads.tup {h : Heap} {v : Value} {ds : List PyData} {as : List Addr} (r : Reads h v (.tuple ds) as) : ∃ (a : Addr) (us : Array Value), v = .ref a ∧ h.IsTuple a us ∧ ReadsAll h us.toList ds as := by
  cases r with
  | tuple h1 h2 h3 h4 => exact ⟨_, _, rfl, ⟨_, h1, h2, _, h3⟩, h4⟩
mutual
theorem Cm.rc : ∀ {d e : PyData} {o : Ordering}, Cm d e o → ∀ {A : Around} {s : Shared} {u v : Value} {as bs : List Addr}, Reads s.heap u d as → Reads s.heap v e bs → PyData.canLay0 d = true → PyData.canLay0 e = true → A.units + PyData.depth d + 1 < cLine →
    Ob.RcOp .Lt A s u v (o == .lt) ∧ Ob.RcOp .Gt A s u v (o == .gt)
  | _, _, _, .ilt (i := i) (j := j) h, A, s, _, _, _, _, .int _ t, .int _ t', _, _, _ => by
    have a := Ob.RcOp.lt_int (A := A) (s := s) i j t t'
    have b := Ob.RcOp.gt_int (A := A) (s := s) i j t t'
    rw [decide_eq_true h] at a
    rw [decide_eq_false (by omega)] at b
    exact ⟨a, b⟩
  | _, _, _, .ieq (i := i), A, s, _, _, _, _, .int _ t, .int _ t', _, _, _ => by
    have a := Ob.RcOp.lt_int (A := A) (s := s) i i t t'
    have b := Ob.RcOp.gt_int (A := A) (s := s) i i t t'
    rw [decide_eq_false (by omega)] at a b
    exact ⟨a, b⟩
  | _, _, _, .igt (i := i) (j := j) h, A, s, _, _, _, _, .int _ t, .int _ t', _, _, _ => by
    have a := Ob.RcOp.lt_int (A := A) (s := s) i j t t'
    have b := Ob.RcOp.gt_int (A := A) (s := s) i j t t'
    rw [decide_eq_false (by omega)] at a
    rw [decide_eq_true h] at b
    exact ⟨a, b⟩
  | _, _, _, .slt h, A, s, _, _, _, _, .str _ t, .str _ t', _, _, _ =>
    ⟨fun prog w E Q q => PyProof.Rows.lt_str (by rw [decide_eq_true h]; exact q), fun prog w E Q q => PySem.P.gt_str (by rw [decide_eq_false (lt_not h)]; exact q)⟩
  | _, _, _, .seq, A, s, _, _, _, _, .str _ t, .str _ t', _, _, _ =>
    ⟨fun prog w E Q q => PyProof.Rows.lt_str (by rw [decide_eq_false (List.lt_irrefl _)]; exact q), fun prog w E Q q => PySem.P.gt_str (by rw [decide_eq_false (List.lt_irrefl _)]; exact q)⟩
  | _, _, _, .sgt h, A, s, _, _, _, _, .str _ t, .str _ t', _, _, _ =>
    ⟨fun prog w E Q q => PyProof.Rows.lt_str (by rw [decide_eq_false (lt_not h)]; exact q), fun prog w E Q q => PySem.P.gt_str (by rw [decide_eq_true h]; exact q)⟩
  | _, _, _, .tup h, A, s, _, _, _, _, ru, rv, lu, lv, hu => by
    obtain ⟨a, us, rfl, ta, ra⟩ := Reads.tup ru
    obtain ⟨b, vs, rfl, tb, rb⟩ := Reads.tup rv
    simp only [PyData.canLay0] at lu lv
    simp only [PyData.depth] at hu
    obtain ⟨c1, c2⟩ := CmL.rc h ra rb lu lv (A := A.in1) (by show A.units + 1 + _ + 1 < cLine; omega)
    exact ⟨rc_ltT ta tb (by omega) (by simpa using c1), rc_gtT ta tb (by omega) (by simpa using c2)⟩
theorem CmL.rc : ∀ {ds es : List PyData} {o : Ordering}, CmL ds es o → ∀ {A : Around} {s : Shared} {us vs : List Value} {as bs : List Addr}, ReadsAll s.heap us ds as → ReadsAll s.heap vs es bs → PyData.canLayAll0 ds = true → PyData.canLayAll0 es = true → A.units + PyData.depthAll ds + 1 < cLine →
    LexP .Lt A s (decide (us.length < vs.length)) (us.zip vs) (o == .lt) ∧ LexP .Gt A s (decide (us.length > vs.length)) (us.zip vs) (o == .gt)
  | _, _, _, .nn, _, _, _, _, _, _, .nil, .nil, _, _, _ => ⟨.done, .done⟩
  | _, _, _, .nc, _, _, _, _, _, _, .nil, .cons _ _, _, _, _ => by
    refine ⟨?_, ?_⟩
    · rw [decide_eq_true (by simp)]; exact .done
    · rw [decide_eq_false (by simp)]; exact .done
  | _, _, _, .cn, _, _, _, _, _, _, .cons _ _, .nil, _, _, _ => by
    refine ⟨?_, ?_⟩
    · rw [decide_eq_false (by simp)]; exact .done
    · rw [decide_eq_true (by simp)]; exact .done
  | _, _, _, .same h t, A, s, _, _, _, _, .cons r1 q1, .cons r2 q2, l1, l2, hu => by
    simp only [PyData.canLayAll0, Bool.and_eq_true] at l1 l2
    simp only [PyData.depthAll] at hu
    have e := SeqAt.eqAt_reads _ _ A s _ _ _ _ r1 r2 l1.1 l2.1 (by omega)
    rw [Cm.eqv h] at e
    obtain ⟨c1, c2⟩ := CmL.rc t q1 q2 l1.2 l2.2 (A := A) (by omega)
    refine ⟨?_, ?_⟩
    · rw [List.zip_cons_cons, List.length_cons, List.length_cons, show decide (_ + 1 < _ + 1) = decide (_ < _) from decide_eq_decide.mpr Nat.add_lt_add_iff_right]
      exact .same e c1
    · rw [List.zip_cons_cons, List.length_cons, List.length_cons, show decide (_ + 1 > _ + 1) = decide (_ > _) from decide_eq_decide.mpr Nat.add_lt_add_iff_right]
      exact .same e c2
  | _, _, o, .diff h n, A, s, _, _, _, _, .cons r1 q1, .cons r2 q2, l1, l2, hu => by
    simp only [PyData.canLayAll0, Bool.and_eq_true] at l1 l2
    simp only [PyData.depthAll] at hu
    have e := SeqAt.eqAt_reads _ _ A s _ _ _ _ r1 r2 l1.1 l2.1 (by omega)
    rw [Cm.eqv h, show (o == Ordering.eq) = false by cases o <;> first | rfl | exact absurd rfl n] at e
    obtain ⟨c1, c2⟩ := Cm.rc h r1 r2 l1.1 l2.1 (A := A) (by omega)
    exact ⟨.diff e c1, .diff e c2⟩
end
def rLtC (K : PySem.W.Frag) : R2 := fun x y H Q => ∃ d e o, Dp K H x d ∧ Dp K H y e ∧ Cm d e o ∧ SeqAt.shaped d = true ∧ SeqAt.shaped e = true ∧ Q (.bl (o == .lt)) H
def rGtC (K : PySem.W.Frag) : R2 := fun x y H Q => ∃ d e o, Dp K H x d ∧ Dp K H y e ∧ Cm d e o ∧ SeqAt.shaped d = true ∧ SeqAt.shaped e = true ∧ Q (.bl (o == .gt)) H
theorem op_ltC {X : Cx} (hu : X.A.units + 70 < cLine) (K : PySem.W.Frag) (hK : X.K = K := by rfl) : OpR X (compareOp .Lt) (rLtC K) := by
  subst hK
  intro pins s σ H x y v u Q I rx ry h
  obtain ⟨d, e, o, hd, he, c, sd, se, q⟩ := h
  obtain ⟨as, r1⟩ := Dp.reads I d x v hd rx
  obtain ⟨bs, r2⟩ := Dp.reads I e y u he ry
  have z := (Cm.rc c r1 r2 (SeqAt.canLay_of_shaped sd) (SeqAt.canLay_of_shaped se) (A := X.A) (by have := SeqAt.depth_of_shaped sd; omega)).1
  exact z X.prog X.w X.xe (EP X pins σ Q) ⟨.bl _, H, I, rfl, q⟩
theorem op_gtC {X : Cx} (hu : X.A.units + 70 < cLine) (K : PySem.W.Frag) (hK : X.K = K := by rfl) : OpR X (compareOp .Gt) (rGtC K) := by
  subst hK
  intro pins s σ H x y v u Q I rx ry h
  obtain ⟨d, e, o, hd, he, c, sd, se, q⟩ := h
  obtain ⟨as, r1⟩ := Dp.reads I d x v hd rx
  obtain ⟨bs, r2⟩ := Dp.reads I e y u he ry
  have z := (Cm.rc c r1 r2 (SeqAt.canLay_of_shaped sd) (SeqAt.canLay_of_shaped se) (A := X.A) (by have := SeqAt.depth_of_shaped sd; omega)).2
  exact z X.prog X.w X.xe (EP X pins σ Q) ⟨.bl _, H, I, rfl, q⟩
section
variable {M M' : List Addr} {H : Hp} {x v : V} {d e : PyData} {o : Ordering} {K : PySem.W.Frag} {Q : VK} {n m : Nat}
theorem rd_ltC (h : Is M H x d) (k : Is M' H v e) (c : Cm d e o) (s1 : Sh n d) (s2 : Sh m e) (q : Q (.bl (o == .lt)) H) (h1 : n ≤ 64 := by decide) (h2 : m ≤ 64 := by decide) : rLtC K x v H Q := ⟨d, e, o, h.dp, k.dp, c, s1.ok h1, s2.ok h2, q⟩
theorem rd_gtC (h : Is M H x d) (k : Is M' H v e) (c : Cm d e o) (s1 : Sh n d) (s2 : Sh m e) (q : Q (.bl (o == .gt)) H) (h1 : n ≤ 64 := by decide) (h2 : m ≤ 64 := by decide) : rGtC K x v H Q := ⟨d, e, o, h.dp, k.dp, c, s1.ok h1, s2.ok h2, q⟩
theorem rd_eqC (h : Is M H x d) (k : Is M' H v e) (c : Cm d e o) (s1 : Sh n d) (s2 : Sh m e) (q : Q (.bl (o == .eq)) H) (h1 : n ≤ 64 := by decide) (h2 : m ≤ 64 := by decide) : rEqD K x v H Q := rd_eqD h k (s1.ok h1) (s2.ok h2) (by rw [c.eqv]; exact q)
end
theorem Sh.str {n : Nat} {x : Str} (h : PyData.strOk x = true) : Sh n (.str x) := ⟨by simp [PyData.canLay0, h], by simp [PyData.depth]⟩
/-- two numbers, two texts -/
def rLtV : R2 := fun x y H Q => (∃ i j, x = .int i ∧ y = .int j ∧ Q (.bl (decide (i < j))) H) ∨ ∃ i j, x = .str i ∧ y = .str j ∧ Q (.bl (decide (i.cps.toList < j.cps.toList))) H
theorem op_ltV {X : Cx} : OpR X (compareOp .Lt) rLtV := by
  intro pins s σ H x y v u Q I rx ry h
  rcases h with h | h
  · exact op_lt pins s σ H x y v u Q I rx ry h
  · exact op_lt_str pins s σ H x y v u Q I rx ry h
def rMulS : R2 := fun x y H Q => ∃ z n, x = .str z ∧ y = .int n ∧ MulOk z n ∧ Q (.str (Txt.mul z n)) H
theorem op_mulS {X : Cx} : OpR X (binaryOp .Mult) rMulS := by
  intro pins s σ H x y v u Q I rx ry h
  obtain ⟨z, n, rfl, rfl, ok, q⟩ := h
  obtain ⟨t, rfl⟩ := (show ∃ t, v = Value.str z t from rx)
  obtain ⟨t', rfl⟩ := (show ∃ t, u = Value.int n t from ry)
  exact PySem.SB.mul ok fun t' k => ⟨.str _, H, I.tok _, ⟨_, rfl⟩, q⟩
def qTupleOf (K : PySem.W.Frag) : List V → Hp → VK → Prop := fun xs H Q => ∃ p ys, xs = [.ref p] ∧ ((SqL K H p ys ∧ ∀ l, H l = none → Q (.ref l) (upd H l (.tup ys))) ∨ (SqT K H p ys ∧ Q (.ref p) H))
theorem call_tupK {X : Cx} (K : PySem.W.Frag) (hK : X.K = K := by rfl) : CallR X (.type "tuple") (qTupleOf K) := hK ▸ call_tuple_of
section
variable {M : List Addr} {H : Hp} {Q : VK} {K : PySem.W.Frag} {a : Addr} {ds : List PyData} {xs : List V} {σ : L2.St} {to te : TE}
theorem rd_dtuple (s : Al M H) (h : Is M H (.ref a) (.list ds)) (q : ∀ p H', H p = none → Ext [] H H' → Is M H' (.ref p) (.tuple ds) → Q (.ref p) H') : qTupleOf K [.ref a] H Q := by
  obtain ⟨xs, _, hx, r⟩ := h.list
  exact ⟨a, xs, rfl, .inl ⟨SqL.of hx, fun l hl => q l _ hl (.new hl) (new_tup s r hl)⟩⟩
theorem rd_m1 {r : V → List V → Hp → VK → Prop} (q : to σ H fun x H1 => (∃ a, x = .str a) ∧ te σ H1 fun y H2 => r x [y] H2 Q) : tM1 r to te σ H Q := q
theorem rd_ixS {z : Str} {i : Int} {j : Nat} {c : Nat} (hz : z.length ≤ 100000) (hj : i = (j : Int)) (h : z.cps.toList[j]? = some c) (q : Q (.str ⟨#[c]⟩) H) : rIxS (.str z) (.int i) H Q := by
  subst hj
  exact ⟨z, _, c, rfl, rfl, szL hz, atI_nat h, q⟩
/-- one of a written list of anything -/
theorem rd_pickV {P : V → Prop} {i : Int} {j : Nat} (h : H a = some (.lst xs)) (hi : i = (j : Int)) (hv : j < xs.length) (hP : ∀ x ∈ xs, P x) (q : ∀ x, P x → Q x H) : rIxL K (.ref a) (.int i) H Q := by
  subst hi
  exact rd_ixL (SqL.of h) (atI_nat (List.getElem?_eq_getElem hv)) (q _ (hP _ (List.getElem_mem hv)))
end
theorem IsAll.ofStrs {M : List Addr} {H : Hp} : ∀ {vs : List V} {xs : List Str}, IsAll M H vs (xs.map PyData.str) → vs = xs.map V.str
  | _, [], h => by cases h; rfl
  | _, n :: ns, h => by
    cases h with
    | cons h r => cases h; rw [IsAll.ofStrs r]; rfl
theorem u70 {k : Nat} {A : Around} (r : Room k A) : A.units + 70 < cLine := by have := r.un; omega
section
variable {N M : List Addr} {H0 H : Hp} {a D : Addr} {K : PySem.W.Frag} {j : Nat} {vs : List Nat} {te : TE} {tt : TT} {σ : L2.St} {Q : VK} {α : Type} {L : List α} {g : α → PyData}
/-- [e for x in a tuple] -/
theorem q_lcTM (f : α → PyData) (s : Al M H0) (hD : H0 D = none) (h : Is M H0 (.ref a) (.tuple (L.map g))) (hn : L.length ≤ 100000) (hw : ∀ x, wipe ((wipe σ vs).set j (some x)) vs = wipe σ vs)
    (he : ∀ (x : V) (y : α) H', y ∈ L → Al (D :: M) H' → Ext [] H0 H' → Is (D :: M) H' x (g y) → ∀ R : VK, (∀ w H'', Ext [] H' H'' → Is (D :: M) H'' w (f y) → R w H'') → te ((wipe σ vs).set j (some x)) H' R)
    (hd : ∀ H', Ext [] H0 H' → Is M H' (.ref D) (.list (L.map f)) → Q (.ref D) H') : qLc (Itt K a) (gName j) tYes te vs σ D H0 Q := by
  obtain ⟨xs, na, hx, r⟩ := h.tuple
  have hlen : xs.length = L.length := by rw [r.length, List.length_map]
  refine lc_tup (xs := xs) (fun i H' => MadeN [] M H0 D ((L.take i).map f) H') (MadeN.start (by simp) s hD) (fun i H' _ m => ?_) (fun i x H' hi m => ?_) fun H' m => ?_
  · exact SqT.of (m.ext.keep _ _ (by simp) hx)
  · obtain ⟨d, hd', iv⟩ := r.got hi
    rw [List.getElem?_map] at hd'
    cases hy : L[i]? with
    | none => rw [hy] at hd'; cases hd'
    | some y =>
      rw [hy] at hd'
      cases hd'
      refine ⟨hw _, rd_yes ?_⟩
      refine iteT ?_
      refine he x y H' (List.mem_of_getElem? hy) (m.al s) m.ext (m.ofs iv) _ fun w H'' e1 i1 => ?_
      obtain ⟨acc, h1, h2, m'⟩ := m.step e1 i1 (by
        have : i < L.length := (List.getElem?_eq_some_iff.mp hy).1
        rw [List.length_map, List.length_take]
        omega)
      refine ⟨acc, h1, h2, ?_⟩
      rw [take_snoc hy, List.map_append]
      exact m'
  · rw [hlen, List.take_length] at m
    exact hd H' m.ext m.is
end
def tnB (K : PySem.W.Frag) (x : Str) : Bool := match K.lookup (He.ga K x) with
  | some ⟨.type c, none, _, _⟩ => decide (c = "tuple")
  | _ => false
theorem tnB_ok {K : PySem.W.Frag} {x : Str} (h : tnB K x = true) : ∃ o, K.lookup (He.ga K x) = some o ∧ o.cls = .type "tuple" ∧ o.dict = none := by
  unfold tnB at h
  cases q : K.lookup (He.ga K x) with
  | none => rw [q] at h; cases h
  | some o =>
    obtain ⟨oc, od, dt, osl⟩ := o
    rw [q] at h
    cases oc with
    | type c =>
      cases od with
      | none => exact ⟨_, rfl, congrArg Value.type (of_decide_eq_true h), rfl⟩
      | some _ => cases h
    | _ => cases od <;> cases h
section
variable {K : PySem.W.Frag} {H : Hp} {σ : L2.St} {R : L2.St → Hp → Prop} {a : Addr} {xs r : List V} {v : V} {g : TG} {gs : TGs} {n : Nat}
theorem rd_gnil (q : R σ H) : gNil [] σ H R := ⟨rfl, q⟩
theorem rd_gcons (q : g v σ H fun σ' H' => gs r σ' H' R) : gCons g gs (v :: r) σ H R := ⟨v, r, rfl, q⟩
theorem rd_gtup (h : SqT K H a xs) (hn : xs.length = n) (q : gs xs σ H R) : gTup K n gs (.ref a) σ H R := ⟨a, xs, rfl, h, hn, q⟩
end
/-- f is a text's method call, index of a text -/
theorem rd_mulS {H : Hp} {Q : VK} {z : Str} {n : Int} (h : MulOk z n) (q : Q (.str (Txt.mul z n)) H) : rMulS (.str z) (.int n) H Q := ⟨z, n, rfl, rfl, h, q⟩
section
variable {K : PySem.W.Frag} {H : Hp} {Q : VK} {p : Addr} {u v w : V} {r : List V}
theorem rd_ixT0 (h : SqT K H p (v :: r)) (q : Q v H) : rIxT K (.ref p) (.int 0) H Q := rd_ixT h (atI_nat (j := 0) rfl) q
theorem rd_ixT1 (h : SqT K H p (u :: v :: r)) (q : Q v H) : rIxT K (.ref p) (.int 1) H Q := rd_ixT h (atI_nat (j := 1) rfl) q
theorem rd_ixT2 (h : SqT K H p (u :: w :: v :: r)) (q : Q v H) : rIxT K (.ref p) (.int 2) H Q := rd_ixT h (atI_nat (j := 2) rfl) q
end
theorem iteB {b : Bool} {A B : Prop} (h : b = true) (q : A) : if b = true then A else B := by rw [if_pos h]; exact q
theorem iteBn {b : Bool} {A B : Prop} (h : b = false) (q : B) : if b = true then A else B := by rw [if_neg (by rw [h]; exact Bool.false_ne_true)]; exact q
theorem rd_tcut0 {M : List Addr} {H : Hp} {Q : VK} {K : PySem.W.Frag} {a : Addr} {ds : List PyData} {hi : Int} {h : Nat} (s : Al M H) (i : Is M H (.ref a) (.tuple ds)) (hh : hi = (h : Int)) (hlt : h < ds.length) (q : ∀ p H', H p = none → Ext [] H H' → Is M H' (.ref p) (.tuple (ds.take h)) → Q (.ref p) H') : rSlT K (.ref a) none (some hi) H Q := by
  subst hh
  obtain ⟨xs, _, hx, r⟩ := i.tuple
  have hl := r.length
  refine ⟨a, xs, rfl, SqT.of hx, fun z => ?_, fun p hp => q p _ hp (.new hp) (new_tup s r.cut0 hp)⟩
  have z2 := z.2
  rw [HT.sIx_nat] at z2
  omega
theorem StAt.updN {H A : Hp} {p l D : Addr} {o : HO} (h : StAt H p l) (hD : H D = none) (s : StAt A p l) : StAt (upd A D o) p l :=
  s.ext (M := [D]) (.set (List.mem_cons_self ..)) (fun z => h.al (by rw [List.mem_singleton.mp z]; exact hD)) (fun z => h.al2 (by rw [List.mem_singleton.mp z]; exact hD))
/-- t + u, whatever is empty -/
def rCatT0 (K : PySem.W.Frag) : R2 := fun x y H Q => ∃ a b xs ys, x = .ref a ∧ y = .ref b ∧ SqT K H a xs ∧ SqT K H b ys ∧ xs.length + ys.length ≤ sizeLine ∧ (xs = [] → Q (.ref b) H) ∧ (xs ≠ [] → ys = [] → Q (.ref a) H) ∧
  (xs ≠ [] → ys ≠ [] → ∀ p, H p = none → Q (.ref p) (upd H p (.tup (xs ++ ys))))
theorem op_catT0 {X : Cx} (K : PySem.W.Frag) (hK : X.K = K := by rfl) : OpR X (binaryOp .Add) (rCatT0 K) := by
  subst hK
  intro pins s σ H x y v u Q I rx ry h
  obtain ⟨a, b, xs, ys, rfl, rfl, ha, hb, hz, q1, q2, q3⟩ := h
  by_cases hx : xs = []
  · subst hx
    cases rx
    cases ry
    obtain ⟨its, r1, p1, _⟩ := I.tuple ha
    obtain ⟨its2, r2, p2, _⟩ := I.tuple hb
    cases r1
    obtain ⟨⟨c1, d1, t1, l1⟩, o1, f1, n, g1⟩ := id p1
    obtain ⟨⟨c2, d2, t2, l2⟩, o2, f2, m, g2⟩ := id p2
    simp only at f1 g1 f2 g2
    subst f1 g1 f2 g2
    exact concat_meets ⟨_, o1, rfl⟩ ⟨_, o2, rfl⟩ noFill_tuple_add seq_tuple_add F.slot_tuple_add F.entry_tuple_add (F.args_tuple_add_2 _ _) (tuple_addW0 a b _ _ n m d1 d2 l1 l2 (by simp)) ⟨o1, o2, ⟨.ref b, H, I, rfl, q1 rfl⟩⟩
  · exact op_catT pins s σ H _ _ v u Q I rx ry ⟨a, b, xs, ys, rfl, rfl, ha, hb, hx, hz, q2 hx, q3 hx⟩
theorem rd_dcatT0 {K : PySem.W.Frag} {H : Hp} {Q : VK} {M : List Addr} {a b : Addr} {ds es : List PyData} (s : Al M H) (h : Is M H (.ref a) (.tuple ds)) (k : Is M H (.ref b) (.tuple es)) (hz : ds.length + es.length ≤ 100000)
    (q : ∀ p H', Ext [] H H' → Is M H' (.ref p) (.tuple (ds ++ es)) → Q (.ref p) H') : rCatT0 K (.ref a) (.ref b) H Q := by
  obtain ⟨xs, _, hx, r⟩ := h.tuple
  obtain ⟨ys, _, hy, r'⟩ := k.tuple
  refine ⟨a, b, xs, ys, rfl, rfl, SqT.of hx, SqT.of hy, szL (by rw [r.length, r'.length]; exact hz), fun e => ?_, fun _ e => ?_, fun _ _ p hp => q p _ (.new hp) (new_tup s (r.append r') hp)⟩
  · subst e
    cases r
    exact q b H .refl k
  · subst e
    cases r'
    rw [List.append_nil] at q
    exact q a H .refl h
def rAddSt : R2 := fun x y H Q => ∃ i j, x = .str i ∧ y = .str j ∧ i.length + j.length ≤ sizeLine ∧ Q (.str (i ++ j)) H
theorem op_addSt {X : Cx} : OpR X (binaryOp .Add) rAddSt := op_add_str
/-! ### abs of a truth value; membership in tuples of anything; whole slices of tuples; while; texts walked -/
theorem slot_bool_abs : Slot "bool" "__abs__" "int.__abs__" :=
  .of (owner := "int") (n := "__abs__") (by rw [typeLookup_type, builtinLookup_eq_fast]; kernel_rfl) (by decide +kernel) (by decide +kernel)
    (by decide +kernel) (by first | exact .inl (by decide +kernel) | exact .inr (by decide +kernel)) (by rw [isSubtype_type]; kernel_rfl)
section
open PySem.Calls
theorem abs_bool {prog : Program} {w : World} {A : Around} {E : Value → Shared → Prop} {s : Shared} {b : Bool} {Q : Value → Shared → Prop} (h : ∀ u tk, Q (.int (if b then 1 else 0) u) { s with toks := tk }) : wpAny (model prog w) A (call (.builtin "abs") [.bool b]) Q E s := by
  refine call_function_entry PyProof.Rows.kind_abs PyProof.Rows.plain_abs PyProof.Rows.entry_abs (PyProof.Rows.args_abs _) ?_
  unfold Builtin.«abs»
  refine wpAny_bind (m := oneArg "abs" _) (wpAny_pure ?_)
  refine wpAny_bind (m := callSpecial? (.bool b) (Str.ofString "__abs__")) (wpAny_callSpecial?_slot (name := Str.ofString "__abs__") (show s.TypeIs (.bool b) "bool" from rfl) slot_bool_abs (wpAny_call_entry slot_bool_abs (show s.TypeIs (.bool b) "bool" from rfl) PyProof.Rows.entry_int_abs ?_ (PyProof.Rows.args_int_abs _)))
  have h' := h s.toks (s.toks + 1)
  cases b <;> exact wpAny_ret_mkInt (wpAny_pure ⟨_, rfl, h'⟩)
end
def qAbs : List V → Hp → VK → Prop := fun xs H Q => (∃ i, xs = [.int i] ∧ Q (.int (if i < 0 then -i else i)) H) ∨ ∃ b, xs = [.bl b] ∧ Q (.int (if b then 1 else 0)) H
theorem call_absq {X : Cx} : CallR X (.builtin "abs") qAbs := by
  intro pins s σ H xs us Q I r h
  rcases h with h | ⟨b, rfl, q⟩
  · exact call_abs pins s σ H xs us Q I r h
  · obtain ⟨u, rfl, ru⟩ := vals1 r
    cases (show u = Value.bool b from ru)
    exact abs_bool fun u tk => ⟨.int (if b then 1 else 0), H, I.tok _, ⟨_, rfl⟩, q⟩
def rNotInDT (K : PySem.W.Frag) : R2 := fun x y H Q => ∃ d ds, Dp K H x d ∧ Dp K H y (.tuple ds) ∧ SeqAt.shaped d = true ∧ SeqAt.shaped (.tuple ds) = true ∧ Q (.bl (!ds.any fun z => PyData.eqv z d)) H
theorem op_notInDT {X : Cx} (hu : X.A.units + 70 < cLine) (K : PySem.W.Frag) (hK : X.K = K := by rfl) : OpR X (compareOp .NotIn) (rNotInDT K) := by
  subst hK
  intro pins s σ H x y v u Q I rx ry h
  obtain ⟨d, ds, hd, he, sd, se, q⟩ := h
  obtain ⟨as, r1⟩ := Dp.reads I d x v hd rx
  obtain ⟨bs, r2⟩ := Dp.reads I (.tuple ds) y u he ry
  have h1 := SeqAt.depth_of_shaped sd
  have h2 := SeqAt.canLay_of_shaped se
  simp only [PyData.canLay0] at h2
  exact SeqAt.notIn_tuple_reads r2 r1 h2 (SeqAt.canLay_of_shaped sd) (by omega) ⟨.bl _, H, I, rfl, q⟩
def qOrd : List V → Hp → VK → Prop := fun xs H Q => ∃ x, xs = [.str x] ∧ x.length = 1 ∧ Q (.int (x.cps.getD 0 0 : Nat)) H
theorem call_ordq {X : Cx} : CallR X (.builtin "ord") qOrd := call_ord
def rLeSt : R2 := fun x y H Q => ∃ i j, x = .str i ∧ y = .str j ∧ Q (.bl (!decide (j.cps.toList < i.cps.toList))) H
theorem op_leSt {X : Cx} : OpR X (compareOp .LtE) rLeSt := op_le_str
section
variable {M : List Addr} {H : Hp} {Q : VK} {K : PySem.W.Frag} {a : Addr} {ds : List PyData} {σ : L2.St} {c : TT} {tb : TS} {D : Ends}
theorem rd_absI {i : Int} (q : Q (.int (if i < 0 then -i else i)) H) : qAbs [.int i] H Q := .inl ⟨i, rfl, q⟩
theorem rd_absB {b : Bool} (q : Q (.int (if b then 1 else 0)) H) : qAbs [.bl b] H Q := .inr ⟨b, rfl, q⟩
theorem rd_ord {c : Nat} (q : Q (.int (c : Nat)) H) : qOrd [.str ⟨#[c]⟩] H Q := ⟨_, rfl, rfl, q⟩
theorem rd_leSt {i j : Str} (q : Q (.bl (!decide (j.cps.toList < i.cps.toList))) H) : rLeSt (.str i) (.str j) H Q := ⟨i, j, rfl, rfl, q⟩
theorem rd_notInDT {x y : V} {d : PyData} (h : Is M H x d) (k : Dp K H y (.tuple ds)) (s1 : SeqAt.shaped d = true) (s2 : SeqAt.shaped (.tuple ds) = true) (q : Q (.bl (!ds.any fun z => PyData.eqv z d)) H) : rNotInDT K x y H Q := ⟨d, ds, h.dp, k, s1, s2, q⟩
/-- slices of data -/
def cutD (ds : List PyData) (lo hi : Option Int) : List PyData := (ds.drop (HT.sIx ds.length 0 lo)).take (HT.sIx ds.length ds.length hi - HT.sIx ds.length 0 lo)
theorem cutD_take (ds : List PyData) (h : Nat) : cutD ds none (some (h : Int)) = ds.take h := by
  unfold cutD
  rw [HT.sIx_none, HT.sIx_nat, List.drop_zero, Nat.sub_zero]
  by_cases z : h ≤ ds.length
  · rw [Nat.min_eq_left z]
  · rw [Nat.min_eq_right (by omega), List.take_length, List.take_of_length_le (by omega)]
theorem cutD_drop (ds : List PyData) (l : Nat) : cutD ds (some (l : Int)) none = ds.drop l := by
  unfold cutD
  rw [HT.sIx_nat, HT.sIx_none]
  by_cases z : l ≤ ds.length
  · rw [Nat.min_eq_left z, List.take_of_length_le (by rw [List.length_drop]; omega)]
  · rw [Nat.min_eq_right (by omega), Nat.sub_self, List.take_zero, List.drop_of_length_le (by omega)]
theorem IsAll.cutA {M : List Addr} {H : Hp} {xs : List V} {ds : List PyData} (lo hi : Option Int) (r : IsAll M H xs ds) : IsAll M H (cutV xs lo hi) (cutD ds lo hi) := by
  unfold cutV cutD
  rw [r.length]
  exact (r.drop _).take _
theorem rd_tcutA {lo hi : Option Int} (s : Al M H) (i : Is M H (.ref a) (.tuple ds)) (q : ∀ p H', Ext [] H H' → Is M H' (.ref p) (.tuple (cutD ds lo hi)) → Q (.ref p) H') : rSlA K (.ref a) lo hi H Q := by
  obtain ⟨xs, _, hx, r⟩ := i.tuple
  refine ⟨a, xs, rfl, SqT.of hx, fun w => ?_, fun _ p hp => q p _ (.new hp) (new_tup s (r.cutA lo hi) hp)⟩
  have e : cutD ds lo hi = ds := by
    unfold cutD
    rw [← r.length, w.1, w.2, List.drop_zero, Nat.sub_zero, List.take_of_length_le (by rw [r.length]; exact Nat.le_refl _)]
  rw [e] at q
  exact q a H .refl i
end
theorem sl_tupAK {X : Cx} (K : PySem.W.Frag) (hK : X.K = K := by rfl) : SlR X (rSlA K) := hK ▸ sl_tupA
section
variable {M : List Addr} {H0 H : Hp} {a D : Addr} {K : PySem.W.Frag} {j : Nat} {vs : List Nat} {te : TE} {tt : TT} {σ : L2.St} {Q : VK} {ds : List PyData}
/-- [sign for sign in a text if test] -/
theorem q_lcS (p : Nat → Bool) {x : Str} (s : Al M H0) (hD : H0 D = none) (hn : x.length ≤ 100000) (hw : ∀ v, wipe ((wipe σ vs).set j (some v)) vs = wipe σ vs)
    (ht : ∀ c H', c ∈ x.cps.toList → Al (D :: M) H' → Ext [] H0 H' → ∀ R : Bool → Hp → Prop, (∀ H'', Ext [] H' H'' → R (p c) H'') → tt ((wipe σ vs).set j (some (.str ⟨#[c]⟩))) H' R)
    (he : ∀ c H' (R : VK), R (.str ⟨#[c]⟩) H' → te ((wipe σ vs).set j (some (.str ⟨#[c]⟩))) H' R)
    (hd : ∀ H', Ext [] H0 H' → Is M H' (.ref D) (.list ((x.cps.toList.filter p).map fun c => .str ⟨#[c]⟩)) → Q (.ref D) H') : qLc (Its x) (gName j) tt te vs σ D H0 Q := by
  have hsz : x.cps.toList.length = x.cps.size := by simp
  have hn' : x.cps.size ≤ 100000 := hn
  refine ⟨fun i m H' => m = x.cps.size - i ∧ i ≤ x.cps.size ∧ MadeN [] M H0 D (((x.cps.toList.take i).filter p).map fun c => .str ⟨#[c]⟩) H', ⟨_, rfl, Nat.zero_le _, by rw [List.take_zero]; exact MadeN.start (by simp) s hD⟩, ?_⟩
  rintro i m H' ⟨rfl, hi, mk⟩
  by_cases hlt : i < x.cps.size
  · refine .inr ⟨hlt, fun H'' => MadeN [] M H0 D (((x.cps.toList.take (i + 1)).filter p).map fun c => .str ⟨#[c]⟩) H'', fun H'' mm => ⟨x.cps.size - (i + 1), by omega, rfl, hlt, mm⟩, ?_⟩
    rintro v H'' ⟨rfl, c, hc, rfl⟩
    have hc' : x.cps.toList[i]? = some c := by rw [Array.getElem?_toList]; exact hc
    refine ⟨hw _, ht c _ (List.mem_of_getElem? hc') (mk.al s) mk.ext _ fun H2 e2 => ?_⟩
    rw [take_snoc hc', List.filter_append, List.map_append]
    have hlen : (((x.cps.toList.take i).filter p).map fun c => PyData.str ⟨#[c]⟩).length < 100000 := by
      have z := List.length_filter_le p (x.cps.toList.take i)
      rw [List.length_take] at z
      rw [List.length_map]
      omega
    cases hp : p c with
    | true =>
      refine iteT (he c H2 _ ?_)
      obtain ⟨acc, h1, h2, m'⟩ := mk.step (d := .str ⟨#[c]⟩) e2 (.str _) hlen
      refine ⟨acc, h1, h2, ?_⟩
      rw [List.filter_cons, if_pos hp]
      exact m'
    | false =>
      refine iteF ?_
      rw [List.filter_cons, if_neg (by rw [hp]; exact Bool.false_ne_true)]
      show MadeN [] M H0 D (_ ++ []) H2
      rw [List.append_nil]
      exact mk.go e2
  · have e : i = x.cps.size := by omega
    subst e
    rw [← hsz, List.take_length] at mk
    exact .inl ⟨Nat.le_refl _, hd H' mk.ext mk.is⟩
/-- [x for x in a tuple if test] -/
theorem q_lcFT (p : PyData → Bool) (s : Al M H0) (hD : H0 D = none) (h : Is M H0 (.ref a) (.tuple ds)) (hn : ds.length ≤ 100000) (hw : ∀ x, wipe ((wipe σ vs).set j (some x)) vs = wipe σ vs)
    (ht : ∀ (x : V) (d : PyData) H', d ∈ ds → Al (D :: M) H' → Ext [] H0 H' → Is (D :: M) H' x d → ∀ R : Bool → Hp → Prop, (∀ H'', Ext [] H' H'' → R (p d) H'') → tt ((wipe σ vs).set j (some x)) H' R)
    (he : ∀ (x : V) H' (R : VK), R x H' → te ((wipe σ vs).set j (some x)) H' R)
    (hd : ∀ H', Ext [] H0 H' → Is M H' (.ref D) (.list (ds.filter p)) → Q (.ref D) H') : qLc (Itt K a) (gName j) tt te vs σ D H0 Q := by
  obtain ⟨xs, na, hx, r⟩ := h.tuple
  refine lc_tup (xs := xs) (fun i H' => MadeN [] M H0 D ((ds.take i).filter p) H') (MadeN.start (by simp) s hD) (fun i H' _ m => SqT.of (m.ext.keep _ _ (by simp) hx)) (fun i x H' hi m => ?_) fun H' m => hd H' m.ext (by have z := m.is; rw [r.length, List.take_length] at z; exact z)
  obtain ⟨d, hd', iv⟩ := r.got hi
  have hlt : i < ds.length := (List.getElem?_eq_some_iff.mp hd').1
  refine ⟨hw _, ?_⟩
  refine ht x d H' (List.mem_of_getElem? hd') (m.al s) m.ext (m.ofs iv) _ fun H2 e2 => ?_
  rw [take_snoc hd', List.filter_append]
  cases hp : p d with
  | true =>
    refine iteT (he x H2 _ ?_)
    obtain ⟨acc, h1, h2, m'⟩ := m.step (d := d) e2 ((m.ofs iv).mono e2.any) (by
      have z := List.length_filter_le p (ds.take i)
      rw [List.length_take] at z
      omega)
    refine ⟨acc, h1, h2, ?_⟩
    rw [List.filter_cons, if_pos hp]
    exact m'
  | false =>
    refine iteF ?_
    rw [List.filter_cons, if_neg (by rw [hp]; exact Bool.false_ne_true)]
    show MadeN [] M H0 D (_ ++ []) H2
    rw [List.append_nil]
    exact m.go e2
end
theorem sign_lt (c k : Nat) : decide ((⟨#[c]⟩ : Str).cps.toList < (⟨#[k]⟩ : Str).cps.toList) = decide (c < k) := by
  show decide ([c] < [k]) = _
  refine decide_eq_decide.mpr ?_
  rw [List.cons_lt_cons_iff]
  simp
theorem rd_lenS {H : Hp} {Q : VK} {z : Str} (hz : z.length ≤ 100000) (q : Q (.int z.length) H) : qLenS [.str z] H Q := ⟨z, rfl, szL hz, q⟩
theorem rd_leA {H : Hp} {Q : VK} {c : Nat} (q : Q (.bl (decide (97 ≤ c))) H) : rLeSt (.str "a") (.str ⟨#[c]⟩) H Q := by
  refine rd_leSt ?_
  have e : decide ((⟨#[c]⟩ : Str).cps.toList < ("a" : Str).cps.toList) = decide (c < 97) := sign_lt c 97
  rw [e]
  have e2 : (!decide (c < 97)) = decide (97 ≤ c) := by
    by_cases h : c < 97
    · rw [decide_eq_true h, decide_eq_false (by omega)]; rfl
    · rw [decide_eq_false h, decide_eq_true (by omega)]; rfl
  rw [e2]
  exact q
theorem rd_leZ {H : Hp} {Q : VK} {c : Nat} (q : Q (.bl (decide (c ≤ 122))) H) : rLeSt (.str ⟨#[c]⟩) (.str "z") H Q := by
  refine rd_leSt ?_
  have e : decide (("z" : Str).cps.toList < (⟨#[c]⟩ : Str).cps.toList) = decide (122 < c) := sign_lt 122 c
  rw [e]
  have e2 : (!decide (122 < c)) = decide (c ≤ 122) := by
    by_cases h : 122 < c
    · rw [decide_eq_true h, decide_eq_false (by omega)]; rfl
    · rw [decide_eq_false h, decide_eq_true (by omega)]; rfl
  rw [e2]
  exact q
theorem rd_istr {σ : L2.St} {H : Hp} {te : TE} {R : It → Hp → Prop} (q : te σ H fun v H1 => ∃ x, v = .str x ∧ R (Its x) H1) : iStr te σ H R := q
theorem IsAll.snocI {M : List Addr} {H : Hp} {d : PyData} : ∀ {xs : List V} {ds : List PyData}, IsAll M H xs (ds ++ [d]) → ∃ xs' v, xs = xs' ++ [v] ∧ IsAll M H xs' ds ∧ Is M H v d
  | _, [], .cons h .nil => ⟨[], _, rfl, .nil, h⟩
  | _, _ :: _, .cons h r => by
    obtain ⟨xs', v, rfl, r', i⟩ := IsAll.snocI r
    exact ⟨_ :: xs', v, rfl, .cons h r', i⟩
theorem rd_dlistT {M : List Addr} {H : Hp} {Q : VK} {K : PySem.W.Frag} {a : Addr} {ds : List PyData} (s : Al M H) (h : Is M H (.ref a) (.tuple ds)) (q : ∀ p H', H p = none → Ext [] H H' → Is M H' (.ref p) (.list ds) → Q (.ref p) H') : qListOf K [.ref a] H Q := by
  obtain ⟨xs, _, hx, r⟩ := h.tuple
  exact rd_listT (SqT.of hx) fun p hp => q p _ hp (.new hp) (new_lst s r hp)
theorem cutD_last (ds : List PyData) : cutD ds none (some (-1)) = ds.dropLast := by
  show (ds.drop 0).take (((-1) + (ds.length : Int)).toNat - 0) = _
  rw [List.drop_zero, List.dropLast_eq_take]
  congr 1
  omega
theorem sql_e {K : PySem.W.Frag} {H H' : Hp} {a : Addr} {xs : List V} (h : SqL K H a xs) (e : Ext [] H H') : SqL K H' a xs := by
  rcases h with (h | ⟨o, h⟩) | h
  · exact .inl (.inl (e.keep _ _ (by simp) h))
  · exact .inl (.inr ⟨o, e.keep _ _ (by simp) h⟩)
  · exact .inr h
theorem rd_trep {K : PySem.W.Frag} {H : Hp} {Q : VK} {M : List Addr} {a : Addr} {ds : List PyData} {k : Int} (s : Al M H) (h : Is M H (.ref a) (.tuple ds)) (hne : ds ≠ []) (h1 : 2 ≤ k) (h2 : k ≤ 1000) (hl : ds.length ≤ 1000) (q : ∀ p H', Ext [] H H' → Is M H' (.ref p) (.tuple (List.replicate k.toNat ds).flatten) → Q (.ref p) H') : rRepT K (.ref a) (.int k) H Q := by
  obtain ⟨xs, _, hx, r⟩ := h.tuple
  refine ⟨a, k, xs, rfl, rfl, SqT.of hx, fun e => ?_, h1, h2, by rw [r.length]; exact hl, fun p hp => q p _ (.new hp) (new_tup s (r.reps _) hp)⟩
  subst e
  cases r
  exact hne rfl
theorem rd_ite2 {b : Bool} {A B : Prop} (h2 : b = false → B) (h1 : b = true → A) : if b = true then A else B := rd_ite h1 h2
/-! ### dicts with keys of numbers and texts: readings; d.update(e) -/
def rUpd : V → List V → Hp → VK → Prop := fun x vs H Q => ∃ a b kvs more, x = .ref a ∧ vs = [.ref b] ∧ H a = some (.dK kvs) ∧ H b = some (.dK more) ∧ a ≠ b ∧ kvs.length + more.length ≤ 1000 ∧ Q .non (upd H a (.dK (mergeK kvs more)))
theorem mt_update {X : Cx} : MtR X "dict.update" rUpd := by
  intro pins s σ H x xs v us Q I rx rv h
  obtain ⟨a, b, kvs, more, rfl, rfl, ha, hb, hne, hz, q⟩ := h
  cases rx
  obtain ⟨u, rfl, ru⟩ := vals1 rv
  cases ru
  obtain ⟨z1, n1, vs1, k1, d1⟩ := dk_of I.hok ha
  obtain ⟨z2, n2, vs2, k2, d2⟩ := dk_of I.hok hb
  have hl : vs1.length + vs2.length ≤ sizeLine := by
    rw [← k1.length, ← k2.length]
    exact Nat.le_trans hz (by decide)
  refine call_meetsIn F.slot_dict_update d1.typeIs F.entry_dict_update (F.args_dict_update_2 _ _) (meets_dict_update (mixKind X.prog X.w) a b hne n2) ⟨vs1, vs2, d1, d2, hl, fun h' e1 e2 sb => ?_⟩
  have he : ∃ q, h'.get? a = some q := let ⟨q, _, _, hq, _⟩ := e1; ⟨q, hq⟩
  have hm : (mergeK kvs more).length ≤ sizeLine := Nat.le_trans (length_mergeK more kvs) (Nat.le_trans (by omega) (by decide : 1000 ≤ sizeLine))
  exact ⟨.non, _, d_write I (by rw [ha]; exact True.intro) sb he (dk_new hm n1 (k2.merge k1) e1), rfl, q⟩
def qDGet (x y : V) (H : Hp) (Q : VK) : Prop := ∃ a v, x = .ref a ∧ DGet H a y (some v) ∧ Q v H
def qDPut (x y v : V) (H : Hp) (R : Hp → Prop) : Prop := ∃ a H4, x = .ref a ∧ DPut H a y v H4 ∧ R H4
def qDPutA (a : Addr) (y z : V) (H : Hp) (R : Hp → Prop) : Prop := ∃ H5, DPut H a y z H5 ∧ R H5
def qDAug (x y : V) (tv : TE) (rd : V → V → Hp → VK → Prop) (σ : L2.St) (H : Hp) (R : Hp → Prop) : Prop := ∃ a v, x = .ref a ∧ DGet H a y (some v) ∧ tv σ H fun y2 H3 => rd v y2 H3 fun z H4 => qDPutA a y z H4 R
def qDGet2 (td ty tx : TE) : TE := tDGet2 td ty tx
section
variable {σ : L2.St} {H : Hp} {Q : VK} {td ty tv tx : TE} {D : Ends} {a : Addr} {kvs : List (Key × V)} {v y z : V} {t : Str} {i : Int} {R : Hp → Prop} {rd : V → V → Hp → VK → Prop} {tk : TE} {r : List (TE × TE)} {QP : List (V × V) → Hp → Prop} {trs : List (TE × TE)}
theorem rd_dget (q : td σ H fun x H1 => ty σ H1 fun y H2 => qDGet x y H2 Q) : tDGet td ty σ H Q := q
theorem rd_dgetS (h : H a = some (.dK kvs)) (l : valV kvs (.inr t) = some v) (q : Q v H) : qDGet (.ref a) (.str t) H Q := ⟨a, v, rfl, by rw [← l]; exact DGet.k (k := .inr t) h, q⟩
theorem rd_dgetI (h : H a = some (.dK kvs)) (l : valV kvs (.inl i) = some v) (q : Q v H) : qDGet (.ref a) (.int i) H Q := ⟨a, v, rfl, by rw [← l]; exact DGet.k (k := .inl i) h, q⟩
theorem rd_dput (q : tv σ H fun v H1 => td σ H1 fun x H2 => ty σ H2 fun y H3 => qDPut x y v H3 fun H4 => D.nx σ H4) : sDPut td ty tv D σ H := q
theorem rd_dputS (h : H a = some (.dK kvs)) (hl : kvs.length ≤ 100000) (q : R (upd H a (.dK (putK kvs (.inr t) v)))) : qDPut (.ref a) (.str t) v H R := ⟨a, _, rfl, DPut.k (k := .inr t) h (szl' hl), q⟩
theorem rd_dputI (h : H a = some (.dK kvs)) (hl : kvs.length ≤ 100000) (q : R (upd H a (.dK (putK kvs (.inl i) v)))) : qDPut (.ref a) (.int i) v H R := ⟨a, _, rfl, DPut.k (k := .inl i) h (szl' hl), q⟩
theorem rd_daug (q : td σ H fun x H1 => ty σ H1 fun y H2 => qDAug x y tv rd σ H2 fun H5 => D.nx σ H5) : sDAug td ty tv rd D σ H := q
theorem rd_daugS (h : H a = some (.dK kvs)) (l : valV kvs (.inr t) = some v) (q : tv σ H fun y2 H3 => rd v y2 H3 fun z H4 => qDPutA a (.str t) z H4 R) : qDAug (.ref a) (.str t) tv rd σ H R := ⟨a, v, rfl, by rw [← l]; exact DGet.k (k := .inr t) h, q⟩
theorem rd_dputB (h : H a = some (.dK kvs)) (hl : kvs.length ≤ 100000) (q : R (upd H a (.dK (putK kvs (.inr t) z)))) : qDPutA a (.str t) z H R := ⟨_, DPut.k (k := .inr t) h (szl' hl), q⟩
theorem rd_disp (q : ∀ p, H p = none → tPairs trs σ (upd H p (.dK [])) fun ps H2 => H2 p = some (.dK []) ∧ ∃ kvs : List (Key × V), ps = kvs.map (fun kv => (kV kv.1, kv.2)) ∧ kvs.length ≤ 15 ∧ Q (.ref p) (upd H2 p (.dK (mergeK [] kvs)))) : tDisp trs σ H Q := q
theorem rd_pairs0 (q : QP [] H) : tPairs [] σ H QP := q
theorem rd_pairs1 (q : tk σ H fun x H1 => tv σ H1 fun y H2 => tPairs r σ H2 fun ps H3 => QP ((x, y) :: ps) H3) : tPairs ((tk, tv) :: r) σ H QP := q
theorem rd_dget2 (q : td σ H fun x H1 => ∃ a, x = .ref a ∧ IsD H1 a ∧ ty σ H1 fun y H2 => tx σ H2 fun z H3 => ∃ o, DGet H3 a y o ∧ Q (o.getD z) H3) : tDGet2 td ty tx σ H Q := q
theorem rd_rAdd {i j : Int} (q : Q (.int (i + j)) H) : rAdd (.int i) (.int j) H Q := ⟨i, j, rfl, rfl, q⟩
theorem rd_rSub {i j : Int} (q : Q (.int (i - j)) H) : rSub (.int i) (.int j) H Q := ⟨i, j, rfl, rfl, q⟩
end
def top (i : Nat) : Stmt := PySem.Challenge.pw_steadwhole_k48_disk_keeps_what_was_synce.main.body.getD i (.Pass ⟨0, 0, 0, 0⟩)
abbrev s_Disk__init_ : Stmt := inClass (top 8) 0
abbrev s_Disk_size : Stmt := inClass (top 8) 1
abbrev s_Disk_read : Stmt := inClass (top 8) 2
abbrev s_Disk_pending : Stmt := inClass (top 8) 3
abbrev s_Disk_counts : Stmt := inClass (top 8) 4
abbrev s_Disk_lose_power : Stmt := inClass (top 8) 5
abbrev s_Disk_operate : Stmt := inClass (top 8) 6
abbrev s_Disk_write : Stmt := inClass (top 8) 7
abbrev s_Disk_sync : Stmt := inClass (top 8) 8
abbrev s_Disk_fail_after : Stmt := inClass (top 8) 9
abbrev s_Disk_power : Stmt := inClass (top 8) 10
abbrev s_Disk_is_on : Stmt := inClass (top 8) 11
abbrev s_Disk_losses : Stmt := inClass (top 8) 12
abbrev s_law_next : Stmt := top 10
abbrev s_law_same : Stmt := top 11
abbrev s_law_refused : Stmt := top 12
abbrev s_law_operate : Stmt := top 13
abbrev s_law_write : Stmt := top 14
abbrev s_law_sync : Stmt := top 15
abbrev s_law_fail : Stmt := top 16
abbrev s_law_power : Stmt := top 17
abbrev s_law_deed : Stmt := top 18
abbrev s_law_sector : Stmt := top 19
abbrev s_law_is_right : Stmt := top 20
abbrev s_law : Stmt := top 21
abbrev nm_Disk__init_ : List Str := ["self", "sectors", "_"]
abbrev pm_Disk__init_ : List Str := ["self", "sectors"]
theorem sc_Disk__init_ : FnScope nm_Disk__init_ pm_Disk__init_ (defScope s_Disk__init_) := ⟨rfl, rfl, rfl, by decide +kernel, rfl, by decide +kernel, by decide +kernel⟩
theorem bd_Disk__init_ : BindAll "__init__" "Disk.__init__" s_Disk__init_ pm_Disk__init_ := fun _ _ _ _ _ _ us hl => match us, hl with | [_, _], _ => rfl
abbrev nm_Disk_size : List Str := ["self"]
abbrev pm_Disk_size : List Str := ["self"]
theorem sc_Disk_size : FnScope nm_Disk_size pm_Disk_size (defScope s_Disk_size) := ⟨rfl, rfl, rfl, by decide +kernel, rfl, by decide +kernel, by decide +kernel⟩
theorem bd_Disk_size : BindAll "size" "Disk.size" s_Disk_size pm_Disk_size := fun _ _ _ _ _ _ us hl => match us, hl with | [_], _ => rfl
abbrev nm_Disk_read : List Str := ["self", "index"]
abbrev pm_Disk_read : List Str := ["self", "index"]
theorem sc_Disk_read : FnScope nm_Disk_read pm_Disk_read (defScope s_Disk_read) := ⟨rfl, rfl, rfl, by decide +kernel, rfl, by decide +kernel, by decide +kernel⟩
theorem bd_Disk_read : BindAll "read" "Disk.read" s_Disk_read pm_Disk_read := fun _ _ _ _ _ _ us hl => match us, hl with | [_, _], _ => rfl
abbrev nm_Disk_pending : List Str := ["self"]
abbrev pm_Disk_pending : List Str := ["self"]
theorem sc_Disk_pending : FnScope nm_Disk_pending pm_Disk_pending (defScope s_Disk_pending) := ⟨rfl, rfl, rfl, by decide +kernel, rfl, by decide +kernel, by decide +kernel⟩
theorem bd_Disk_pending : BindAll "pending" "Disk.pending" s_Disk_pending pm_Disk_pending := fun _ _ _ _ _ _ us hl => match us, hl with | [_], _ => rfl
abbrev nm_Disk_counts : List Str := ["self"]
abbrev pm_Disk_counts : List Str := ["self"]
theorem sc_Disk_counts : FnScope nm_Disk_counts pm_Disk_counts (defScope s_Disk_counts) := ⟨rfl, rfl, rfl, by decide +kernel, rfl, by decide +kernel, by decide +kernel⟩
theorem bd_Disk_counts : BindAll "counts" "Disk.counts" s_Disk_counts pm_Disk_counts := fun _ _ _ _ _ _ us hl => match us, hl with | [_], _ => rfl
abbrev nm_Disk_lose_power : List Str := ["self"]
abbrev pm_Disk_lose_power : List Str := ["self"]
theorem sc_Disk_lose_power : FnScope nm_Disk_lose_power pm_Disk_lose_power (defScope s_Disk_lose_power) := ⟨rfl, rfl, rfl, by decide +kernel, rfl, by decide +kernel, by decide +kernel⟩
theorem bd_Disk_lose_power : BindAll "lose_power" "Disk.lose_power" s_Disk_lose_power pm_Disk_lose_power := fun _ _ _ _ _ _ us hl => match us, hl with | [_], _ => rfl
abbrev nm_Disk_operate : List Str := ["self"]
abbrev pm_Disk_operate : List Str := ["self"]
theorem sc_Disk_operate : FnScope nm_Disk_operate pm_Disk_operate (defScope s_Disk_operate) := ⟨rfl, rfl, rfl, by decide +kernel, rfl, by decide +kernel, by decide +kernel⟩
theorem bd_Disk_operate : BindAll "operate" "Disk.operate" s_Disk_operate pm_Disk_operate := fun _ _ _ _ _ _ us hl => match us, hl with | [_], _ => rfl
abbrev nm_Disk_write : List Str := ["self", "index", "data"]
abbrev pm_Disk_write : List Str := ["self", "index", "data"]
theorem sc_Disk_write : FnScope nm_Disk_write pm_Disk_write (defScope s_Disk_write) := ⟨rfl, rfl, rfl, by decide +kernel, rfl, by decide +kernel, by decide +kernel⟩
theorem bd_Disk_write : BindAll "write" "Disk.write" s_Disk_write pm_Disk_write := fun _ _ _ _ _ _ us hl => match us, hl with | [_, _, _], _ => rfl
abbrev nm_Disk_sync : List Str := ["self"]
abbrev pm_Disk_sync : List Str := ["self"]
theorem sc_Disk_sync : FnScope nm_Disk_sync pm_Disk_sync (defScope s_Disk_sync) := ⟨rfl, rfl, rfl, by decide +kernel, rfl, by decide +kernel, by decide +kernel⟩
theorem bd_Disk_sync : BindAll "sync" "Disk.sync" s_Disk_sync pm_Disk_sync := fun _ _ _ _ _ _ us hl => match us, hl with | [_], _ => rfl
abbrev nm_Disk_fail_after : List Str := ["self", "operations"]
abbrev pm_Disk_fail_after : List Str := ["self", "operations"]
theorem sc_Disk_fail_after : FnScope nm_Disk_fail_after pm_Disk_fail_after (defScope s_Disk_fail_after) := ⟨rfl, rfl, rfl, by decide +kernel, rfl, by decide +kernel, by decide +kernel⟩
theorem bd_Disk_fail_after : BindAll "fail_after" "Disk.fail_after" s_Disk_fail_after pm_Disk_fail_after := fun _ _ _ _ _ _ us hl => match us, hl with | [_, _], _ => rfl
abbrev nm_Disk_power : List Str := ["self", "kept", "arrives", "index", "data"]
abbrev pm_Disk_power : List Str := ["self", "kept"]
theorem sc_Disk_power : FnScope nm_Disk_power pm_Disk_power (defScope s_Disk_power) := ⟨rfl, rfl, rfl, by decide +kernel, rfl, by decide +kernel, by decide +kernel⟩
theorem bd_Disk_power : BindAll "power" "Disk.power" s_Disk_power pm_Disk_power := fun _ _ _ _ _ _ us hl => match us, hl with | [_, _], _ => rfl
abbrev nm_Disk_is_on : List Str := ["self"]
abbrev pm_Disk_is_on : List Str := ["self"]
theorem sc_Disk_is_on : FnScope nm_Disk_is_on pm_Disk_is_on (defScope s_Disk_is_on) := ⟨rfl, rfl, rfl, by decide +kernel, rfl, by decide +kernel, by decide +kernel⟩
theorem bd_Disk_is_on : BindAll "is_on" "Disk.is_on" s_Disk_is_on pm_Disk_is_on := fun _ _ _ _ _ _ us hl => match us, hl with | [_], _ => rfl
abbrev nm_Disk_losses : List Str := ["self"]
abbrev pm_Disk_losses : List Str := ["self"]
theorem sc_Disk_losses : FnScope nm_Disk_losses pm_Disk_losses (defScope s_Disk_losses) := ⟨rfl, rfl, rfl, by decide +kernel, rfl, by decide +kernel, by decide +kernel⟩
theorem bd_Disk_losses : BindAll "losses" "Disk.losses" s_Disk_losses pm_Disk_losses := fun _ _ _ _ _ _ us hl => match us, hl with | [_], _ => rfl
abbrev nm_law_next : List Str := ["state", "limit", "cell", "value"]
abbrev pm_law_next : List Str := ["state", "limit"]
theorem sc_law_next : FnScope nm_law_next pm_law_next (defScope s_law_next) := ⟨rfl, rfl, rfl, by decide +kernel, rfl, by decide +kernel, by decide +kernel⟩
theorem bd_law_next : BindAll "_law_next" "_law_next" s_law_next pm_law_next := fun _ _ _ _ _ _ us hl => match us, hl with | [_, _], _ => rfl
abbrev nm_law_same : List Str := ["actual", "expected", "k"]
abbrev pm_law_same : List Str := ["actual", "expected"]
theorem sc_law_same : FnScope nm_law_same pm_law_same (defScope s_law_same) := ⟨rfl, rfl, rfl, by decide +kernel, rfl, by decide +kernel, by decide +kernel⟩
theorem bd_law_same : BindAll "_law_same" "_law_same" s_law_same pm_law_same := fun _ _ _ _ _ _ us hl => match us, hl with | [_, _], _ => rfl
abbrev nm_law_refused : List Str := ["size", "e"]
abbrev pm_law_refused : List Str := ["size"]
theorem sc_law_refused : FnScope nm_law_refused pm_law_refused (defScope s_law_refused) := ⟨rfl, rfl, rfl, by decide +kernel, rfl, by decide +kernel, by decide +kernel⟩
theorem bd_law_refused : BindAll "_law_refused" "_law_refused" s_law_refused pm_law_refused := fun _ _ _ _ _ _ us hl => match us, hl with | [_], _ => rfl
abbrev nm_law_operate : List Str := ["world"]
abbrev pm_law_operate : List Str := ["world"]
theorem sc_law_operate : FnScope nm_law_operate pm_law_operate (defScope s_law_operate) := ⟨rfl, rfl, rfl, by decide +kernel, rfl, by decide +kernel, by decide +kernel⟩
theorem bd_law_operate : BindAll "_law_operate" "_law_operate" s_law_operate pm_law_operate := fun _ _ _ _ _ _ us hl => match us, hl with | [_], _ => rfl
abbrev nm_law_write : List Str := ["state", "world", "disk", "index", "start", "step", "data", "k", "due", "passed", "done"]
abbrev pm_law_write : List Str := ["state", "world", "disk"]
theorem sc_law_write : FnScope nm_law_write pm_law_write (defScope s_law_write) := ⟨rfl, rfl, rfl, by decide +kernel, rfl, by decide +kernel, by decide +kernel⟩
theorem bd_law_write : BindAll "_law_write" "_law_write" s_law_write pm_law_write := fun _ _ _ _ _ _ us hl => match us, hl with | [_, _, _], _ => rfl
abbrev nm_law_sync : List Str := ["world", "disk", "due", "done", "index", "data"]
abbrev pm_law_sync : List Str := ["world", "disk"]
theorem sc_law_sync : FnScope nm_law_sync pm_law_sync (defScope s_law_sync) := ⟨rfl, rfl, rfl, by decide +kernel, rfl, by decide +kernel, by decide +kernel⟩
theorem bd_law_sync : BindAll "_law_sync" "_law_sync" s_law_sync pm_law_sync := fun _ _ _ _ _ _ us hl => match us, hl with | [_, _], _ => rfl
abbrev nm_law_fail : List Str := ["state", "world", "disk", "number", "told"]
abbrev pm_law_fail : List Str := ["state", "world", "disk"]
theorem sc_law_fail : FnScope nm_law_fail pm_law_fail (defScope s_law_fail) := ⟨rfl, rfl, rfl, by decide +kernel, rfl, by decide +kernel, by decide +kernel⟩
theorem bd_law_fail : BindAll "_law_fail" "_law_fail" s_law_fail pm_law_fail := fun _ _ _ _ _ _ us hl => match us, hl with | [_, _, _], _ => rfl
abbrev nm_law_power : List Str := ["state", "world", "disk", "kept", "k", "passed"]
abbrev pm_law_power : List Str := ["state", "world", "disk"]
theorem sc_law_power : FnScope nm_law_power pm_law_power (defScope s_law_power) := ⟨rfl, rfl, rfl, by decide +kernel, rfl, by decide +kernel, by decide +kernel⟩
theorem bd_law_power : BindAll "_law_power" "_law_power" s_law_power pm_law_power := fun _ _ _ _ _ _ us hl => match us, hl with | [_, _, _], _ => rfl
abbrev nm_law_deed : List Str := ["state", "world", "disk", "pick"]
abbrev pm_law_deed : List Str := ["state", "world", "disk"]
theorem sc_law_deed : FnScope nm_law_deed pm_law_deed (defScope s_law_deed) := ⟨rfl, rfl, rfl, by decide +kernel, rfl, by decide +kernel, by decide +kernel⟩
theorem bd_law_deed : BindAll "_law_deed" "_law_deed" s_law_deed pm_law_deed := fun _ _ _ _ _ _ us hl => match us, hl with | [_, _, _], _ => rfl
abbrev nm_law_sector : List Str := ["world", "index", "data", "other", "written"]
abbrev pm_law_sector : List Str := ["world", "index"]
theorem sc_law_sector : FnScope nm_law_sector pm_law_sector (defScope s_law_sector) := ⟨rfl, rfl, rfl, by decide +kernel, rfl, by decide +kernel, by decide +kernel⟩
theorem bd_law_sector : BindAll "_law_sector" "_law_sector" s_law_sector pm_law_sector := fun _ _ _ _ _ _ us hl => match us, hl with | [_, _], _ => rfl
abbrev nm_law_is_right : List Str := ["state", "world", "disk", "told", "due", "index", "place", "data", "sector"]
abbrev pm_law_is_right : List Str := ["state", "world", "disk"]
theorem sc_law_is_right : FnScope nm_law_is_right pm_law_is_right (defScope s_law_is_right) := ⟨rfl, rfl, rfl, by decide +kernel, rfl, by decide +kernel, by decide +kernel⟩
theorem bd_law_is_right : BindAll "_law_is_right" "_law_is_right" s_law_is_right pm_law_is_right := fun _ _ _ _ _ _ us hl => match us, hl with | [_, _, _], _ => rfl
abbrev nm_law : List Str := ["script", "state", "size", "disk", "world", "k", "index"]
abbrev pm_law : List Str := ["script"]
theorem sc_law : FnScope nm_law pm_law (defScope s_law) := ⟨rfl, rfl, rfl, by decide +kernel, rfl, by decide +kernel, by decide +kernel⟩
theorem bd_law : BindAll "law" "law" s_law pm_law := fun _ _ _ _ _ _ us hl => match us, hl with | [_], _ => rfl
/-- what the top has left -/
structure Txt (K : PySem.W.Frag) (mg : Str → Option Value) : Prop where
  f_Disk__init_ : GMak K mg "Disk" (He.ga K "Disk") "Disk.__init__" s_Disk__init_
  f_Disk_size : GMet K (He.ga K "Disk") "size" "Disk.size" s_Disk_size
  f_Disk_read : GMet K (He.ga K "Disk") "read" "Disk.read" s_Disk_read
  f_Disk_pending : GMet K (He.ga K "Disk") "pending" "Disk.pending" s_Disk_pending
  f_Disk_counts : GMet K (He.ga K "Disk") "counts" "Disk.counts" s_Disk_counts
  f_Disk_lose_power : GMet K (He.ga K "Disk") "lose_power" "Disk.lose_power" s_Disk_lose_power
  f_Disk_operate : GMet K (He.ga K "Disk") "operate" "Disk.operate" s_Disk_operate
  f_Disk_write : GMet K (He.ga K "Disk") "write" "Disk.write" s_Disk_write
  f_Disk_sync : GMet K (He.ga K "Disk") "sync" "Disk.sync" s_Disk_sync
  f_Disk_fail_after : GMet K (He.ga K "Disk") "fail_after" "Disk.fail_after" s_Disk_fail_after
  f_Disk_power : GMet K (He.ga K "Disk") "power" "Disk.power" s_Disk_power
  f_Disk_is_on : GMet K (He.ga K "Disk") "is_on" "Disk.is_on" s_Disk_is_on
  f_Disk_losses : GMet K (He.ga K "Disk") "losses" "Disk.losses" s_Disk_losses
  f_law_next : GFun K mg "_law_next" s_law_next
  f_law_same : GFun K mg "_law_same" s_law_same
  f_law_refused : GFun K mg "_law_refused" s_law_refused
  f_law_operate : GFun K mg "_law_operate" s_law_operate
  f_law_write : GFun K mg "_law_write" s_law_write
  f_law_sync : GFun K mg "_law_sync" s_law_sync
  f_law_fail : GFun K mg "_law_fail" s_law_fail
  f_law_power : GFun K mg "_law_power" s_law_power
  f_law_deed : GFun K mg "_law_deed" s_law_deed
  f_law_sector : GFun K mg "_law_sector" s_law_sector
  f_law_is_right : GFun K mg "_law_is_right" s_law_is_right
  f_law : GFun K mg "law" s_law
  g_FEWEST : ∃ u, mg "FEWEST" = some u ∧ RelV (.int 60) u
  g_MOST : ∃ u, mg "MOST" = some u ∧ RelV (.int 400) u
  g_SECTOR : ∃ u, mg "SECTOR" = some u ∧ RelV (.int 64) u
  z_ValueError : mg "ValueError" = none
  z_bool : mg "bool" = none
  z_int : mg "int" = none
  z_isinstance : mg "isinstance" = none
  z_len : mg "len" = none
  z_list : mg "list" = none
  z_min : mg "min" = none
  z_range : mg "range" = none
  z_str : mg "str" = none
  z_tuple : mg "tuple" = none
  z_zip : mg "zip" = none
  g_RuleError : mg "RuleError" = some (.ref (He.ga K "RuleError"))
  g_InvalidArgument : mg "InvalidArgument" = some (.ref (He.ga K "InvalidArgument"))
  g_PowerOff : mg "PowerOff" = some (.ref (He.ga K "PowerOff"))
  g_Disk : mg "Disk" = some (.ref (He.ga K "Disk"))
  c_Disk : Cls K (He.ga K "Disk")
  n_Disk_in_use : NoAttr K (He.ga K "Disk") "in_use"
  n_Disk_lasting : NoAttr K (He.ga K "Disk") "lasting"
  n_Disk_seen : NoAttr K (He.ga K "Disk") "seen"
  n_Disk_waiting : NoAttr K (He.ga K "Disk") "waiting"
  n_Disk_powered : NoAttr K (He.ga K "Disk") "powered"
  n_Disk_left : NoAttr K (He.ga K "Disk") "left"
  n_Disk_failures : NoAttr K (He.ga K "Disk") "failures"
  n_Disk_writes : NoAttr K (He.ga K "Disk") "writes"
  n_Disk_syncs : NoAttr K (He.ga K "Disk") "syncs"
  x_RuleError : PySem.W.excIn K (He.ga K "RuleError") He.veBase "ValueError.__new__" = true ∧ PySem.W.keepIn K (.ref (He.ga K "RuleError")) = true ∧ PySem.W.subIn K (.ref (He.ga K "RuleError")) (.type "BaseException") = some true ∧ PySem.W.typeIn K (.ref (He.ga K "RuleError")) = some (.type "type")
  xc_RuleError : ExcC K (He.ga K "RuleError")
  kv_RuleError : PySem.W.kitOne K (.ref (He.ga K "RuleError")) (.type "ValueError") = some true
  e_RuleError_RuleError : PySem.W.exmOne K (.ref (He.ga K "RuleError")) (.ref (He.ga K "RuleError")) = some true
  k_RuleError_RuleError : PySem.W.kitOne K (.ref (He.ga K "RuleError")) (.ref (He.ga K "RuleError")) = some true
  e_RuleError_InvalidArgument : PySem.W.exmOne K (.ref (He.ga K "RuleError")) (.ref (He.ga K "InvalidArgument")) = some false
  k_RuleError_InvalidArgument : PySem.W.kitOne K (.ref (He.ga K "RuleError")) (.ref (He.ga K "InvalidArgument")) = some false
  e_RuleError_PowerOff : PySem.W.exmOne K (.ref (He.ga K "RuleError")) (.ref (He.ga K "PowerOff")) = some false
  k_RuleError_PowerOff : PySem.W.kitOne K (.ref (He.ga K "RuleError")) (.ref (He.ga K "PowerOff")) = some false
  x_InvalidArgument : PySem.W.excIn K (He.ga K "InvalidArgument") He.veBase "ValueError.__new__" = true ∧ PySem.W.keepIn K (.ref (He.ga K "InvalidArgument")) = true ∧ PySem.W.subIn K (.ref (He.ga K "InvalidArgument")) (.type "BaseException") = some true ∧ PySem.W.typeIn K (.ref (He.ga K "InvalidArgument")) = some (.type "type")
  xc_InvalidArgument : ExcC K (He.ga K "InvalidArgument")
  kv_InvalidArgument : PySem.W.kitOne K (.ref (He.ga K "InvalidArgument")) (.type "ValueError") = some true
  e_InvalidArgument_RuleError : PySem.W.exmOne K (.ref (He.ga K "InvalidArgument")) (.ref (He.ga K "RuleError")) = some true
  k_InvalidArgument_RuleError : PySem.W.kitOne K (.ref (He.ga K "InvalidArgument")) (.ref (He.ga K "RuleError")) = some true
  e_InvalidArgument_InvalidArgument : PySem.W.exmOne K (.ref (He.ga K "InvalidArgument")) (.ref (He.ga K "InvalidArgument")) = some true
  k_InvalidArgument_InvalidArgument : PySem.W.kitOne K (.ref (He.ga K "InvalidArgument")) (.ref (He.ga K "InvalidArgument")) = some true
  e_InvalidArgument_PowerOff : PySem.W.exmOne K (.ref (He.ga K "InvalidArgument")) (.ref (He.ga K "PowerOff")) = some false
  k_InvalidArgument_PowerOff : PySem.W.kitOne K (.ref (He.ga K "InvalidArgument")) (.ref (He.ga K "PowerOff")) = some false
  x_PowerOff : PySem.W.excIn K (He.ga K "PowerOff") He.veBase "ValueError.__new__" = true ∧ PySem.W.keepIn K (.ref (He.ga K "PowerOff")) = true ∧ PySem.W.subIn K (.ref (He.ga K "PowerOff")) (.type "BaseException") = some true ∧ PySem.W.typeIn K (.ref (He.ga K "PowerOff")) = some (.type "type")
  xc_PowerOff : ExcC K (He.ga K "PowerOff")
  kv_PowerOff : PySem.W.kitOne K (.ref (He.ga K "PowerOff")) (.type "ValueError") = some true
  e_PowerOff_RuleError : PySem.W.exmOne K (.ref (He.ga K "PowerOff")) (.ref (He.ga K "RuleError")) = some true
  k_PowerOff_RuleError : PySem.W.kitOne K (.ref (He.ga K "PowerOff")) (.ref (He.ga K "RuleError")) = some true
  e_PowerOff_InvalidArgument : PySem.W.exmOne K (.ref (He.ga K "PowerOff")) (.ref (He.ga K "InvalidArgument")) = some false
  k_PowerOff_InvalidArgument : PySem.W.kitOne K (.ref (He.ga K "PowerOff")) (.ref (He.ga K "InvalidArgument")) = some false
  e_PowerOff_PowerOff : PySem.W.exmOne K (.ref (He.ga K "PowerOff")) (.ref (He.ga K "PowerOff")) = some true
  k_PowerOff_PowerOff : PySem.W.kitOne K (.ref (He.ga K "PowerOff")) (.ref (He.ga K "PowerOff")) = some true
/-! ### growing sets of objects that change -/
structure Gro (N M : List Addr) (H : Hp) (M' : List Addr) (H' : Hp) : Prop where
  sub : ∀ b ∈ M, b ∈ M'
  new : ∀ b ∈ M', b ∈ M ∨ H b = none
  ext : Ext N H H'
  al : Al M' H'
section
variable {N N' M M' M'' : List Addr} {H H' H'' : Hp} {v : V} {d : PyData} {vs : List V} {ds : List PyData}
theorem Gro.is (g : Gro N M H M' H') (hN : ∀ b ∈ N, b ∈ M) (i : Is M H v d) : Is M' H' v d := (i.swap g.new).mono (g.ext.more fun b hb => g.sub _ (hN b hb))
theorem Gro.isAll (g : Gro N M H M' H') (hN : ∀ b ∈ N, b ∈ M) (i : IsAll M H vs ds) : IsAll M' H' vs ds := (i.swap g.new).mono (g.ext.more fun b hb => g.sub _ (hN b hb))
theorem Gro.refl (a : Al M H) : Gro N M H M H := ⟨fun _ h => h, fun _ h => .inl h, .refl, a⟩
theorem Gro.of (e : Ext N H H') (a : Al M H) : Gro N M H M H' := ⟨fun _ h => h, fun _ h => .inl h, e, a.ext e⟩
theorem Gro.trans (g : Gro N M H M' H') (k : Gro N' M' H' M'' H'') (hN : ∀ b ∈ N', b ∈ N ∨ H b = none) : Gro N M H M'' H'' := by
  refine ⟨fun b h => k.sub _ (g.sub _ h), fun b h => ?_, ⟨fun b o hb h => ?_, fun b h => k.ext.there b (g.ext.there b h)⟩, k.al⟩
  · rcases k.new b h with h | h
    · exact g.new b h
    · exact .inr (g.ext.free h)
  · refine k.ext.keep b o (fun z => ?_) (g.ext.keep b o hb h)
    rcases hN b z with z | z
    · exact hb z
    · rw [z] at h; cases h
theorem Gro.more (g : Gro N M H M' H') (h : ∀ b ∈ N, b ∈ N') : Gro N' M H M' H' := ⟨g.sub, g.new, g.ext.more h, g.al⟩
end
/-! ### a disk as it is meant -/
structure Dk where
  last : List (List Nat)
  wait : List (Nat × List Nat)
  on : Bool
  left : Option Nat
  fl : Nat
  wr : Nat
  sy : Nat
def seenOf (last : List (List Nat)) (wait : List (Nat × List Nat)) : List (List Nat) := wait.foldl (fun s t => s.set t.1 t.2) last
def Dk.seen (d : Dk) : List (List Nat) := seenOf d.last d.wait
def wtd (t : Nat × List Nat) : PyData := .tuple [.int (t.1 : Int), nats t.2]
def lfV : Option Nat → V
  | none => .non
  | some n => .int (n : Int)
def dkF (la se wa : Addr) (d : Dk) : List (Str × V) := [("in_use", .bl false), ("lasting", .ref la), ("seen", .ref se), ("waiting", .ref wa), ("powered", .bl d.on), ("left", lfV d.left), ("failures", .int (d.fl : Int)), ("writes", .int (d.wr : Int)), ("syncs", .int (d.sy : Int))]
structure DkAt (K : PySem.W.Frag) (M : List Addr) (H : Hp) (s la se wa : Addr) (d : Dk) : Prop where
  ex : ∃ dx, H s = some (.ins (He.ga K "Disk") dx (dkF la se wa d))
  xla : ∃ xs, H la = some (.lst xs) ∧ IsAll M H xs (d.last.map nats)
  xse : ∃ xs, H se = some (.lst xs) ∧ IsAll M H xs (d.seen.map nats)
  xwa : ∃ xs, H wa = some (.lst xs) ∧ IsAll M H xs (d.wait.map wtd)
  mem : s ∈ M ∧ la ∈ M ∧ se ∈ M ∧ wa ∈ M
  ne : la ≠ se ∧ la ≠ wa ∧ se ≠ wa
theorem DkAt.sne {K : PySem.W.Frag} {M : List Addr} {H : Hp} {s la se wa : Addr} {d : Dk} (h : DkAt K M H s la se wa d) : la ≠ s ∧ se ≠ s ∧ wa ≠ s := by
  obtain ⟨dx, e⟩ := h.ex
  obtain ⟨x1, h1, _⟩ := h.xla
  obtain ⟨x2, h2, _⟩ := h.xse
  obtain ⟨x3, h3, _⟩ := h.xwa
  refine ⟨fun z => ?_, fun z => ?_, fun z => ?_⟩
  · rw [z, e] at h1; cases h1
  · rw [z, e] at h2; cases h2
  · rw [z, e] at h3; cases h3
/-- only the record changes -/
theorem DkAt.recd {K : PySem.W.Frag} {M : List Addr} {H : Hp} {s la se wa : Addr} {d d' : Dk} {dx : Addr} (h : DkAt K M H s la se wa d) (e1 : d'.last = d.last) (e2 : d'.wait = d.wait) : DkAt K M (upd H s (.ins (He.ga K "Disk") dx (dkF la se wa d'))) s la se wa d' := by
  have hne := h.sne
  have ext : Ext M H (upd H s (.ins (He.ga K "Disk") dx (dkF la se wa d'))) := .set h.mem.1
  obtain ⟨x1, h1, r1⟩ := h.xla
  obtain ⟨x2, h2, r2⟩ := h.xse
  obtain ⟨x3, h3, r3⟩ := h.xwa
  have es : d'.seen = d.seen := by unfold Dk.seen; rw [e1, e2]
  refine ⟨⟨dx, upd_same⟩, ⟨x1, by rw [upd_ne hne.1]; exact h1, by rw [e1]; exact r1.mono ext⟩, ⟨x2, by rw [upd_ne hne.2.1]; exact h2, by rw [es]; exact r2.mono ext⟩, ⟨x3, by rw [upd_ne hne.2.2]; exact h3, by rw [e2]; exact r3.mono ext⟩, h.mem, h.ne⟩
def lose (d : Dk) : Dk := { d with on := false, left := none, fl := d.fl + 1 }
def trip (d : Dk) : Dk := if (d.on && decide (d.left = some 0)) = true then lose d else d
def oper (d : Dk) : Dk := if (trip d).on = true then { trip d with left := (trip d).left.map (· - 1) } else trip d
theorem upd_upd {H : Hp} {a : Addr} {o o' : HO} : upd (upd H a o) a o' = upd H a o' := by
  funext b
  by_cases e : b = a
  · rw [e, upd_same, upd_same]
  · rw [upd_ne e, upd_ne e, upd_ne e]
theorem ext1 {H : Hp} {a : Addr} {o : HO} : Ext [a] H (upd H a o) := .set (List.mem_cons_self ..)
def wrt (d : Dk) (i : Nat) (x : List Nat) : Dk := { d with wait := d.wait ++ [(i, x)], wr := d.wr + 1 }
def syn (d : Dk) : Dk := { d with last := d.seen, wait := [], sy := d.sy + 1 }
theorem seen_wrt (d : Dk) (i : Nat) (x : List Nat) : (wrt d i x).seen = d.seen.set i x := by
  show seenOf d.last (d.wait ++ [(i, x)]) = (seenOf d.last d.wait).set i x
  unfold seenOf
  rw [List.foldl_append]
  rfl
theorem seen_len (last : List (List Nat)) (wait : List (Nat × List Nat)) : (seenOf last wait).length = last.length := by
  unfold seenOf
  induction wait generalizing last with
  | nil => rfl
  | cons t wait ih => rw [List.foldl_cons, ih, List.length_set]
theorem ixN_nat {n i : Nat} (h : i < n) : ixN n (i : Int) = some i := by
  unfold ixN
  rw [if_pos (by omega), if_pos (by omega)]
  rfl
theorem oper_last (d : Dk) : (oper d).last = d.last ∧ (oper d).wait = d.wait := by
  unfold oper trip
  split <;> split <;> exact ⟨rfl, rfl⟩
theorem dkF_ok (la se wa : Addr) (d : Dk) : dkF la se wa d = ([("in_use", .bl false), ("lasting", .ref la), ("seen", .ref se), ("waiting", .ref wa), ("powered", .bl d.on), ("left", lfV d.left), ("failures", .int (d.fl : Int)), ("writes", .int (d.wr : Int)), ("syncs", .int (d.sy : Int))] : List (Str × V)) := rfl
theorem natsV' {M : List Addr} {H : Hp} {a : Addr} {x : List Nat} (i : Is M H (.ref a) (nats x)) : H a = some (.lst (x.map fun n : Nat => V.int n)) := by
  obtain ⟨xs, _, h, r⟩ := i.list
  have e : xs = x.map fun n : Nat => V.int n := by
    clear h i
    induction x generalizing xs with
    | nil => cases r; rfl
    | cons n x ih =>
      cases r with
      | cons h r => cases h; rw [ih _ r]; rfl
  rw [← e]; exact h
/-! ### zip -/
theorem rd_zip {K : PySem.W.Frag} {σ : L2.St} {H : Hp} {ta : TA} {R : It → Hp → Prop} (q : ta σ H fun vs H1 => ∃ a b xs ys, vs = [.ref a, .ref b] ∧ SqL K H1 a xs ∧ SqL K H1 b ys ∧ R (Itz K a b) H1) : iZip K ta σ H R := q
theorem q_zip {K : PySem.W.Frag} {a b : Addr} {xs ys : List V} {g : TG} {tb : TS} {D : Ends} {σ : L2.St} {H : Hp} (Pv : Nat → L2.St → Hp → Prop) (h0 : Pv 0 σ H) (hq : ∀ i σ H, Pv i σ H → SqL K H a xs ∧ SqL K H b ys)
    (hs : ∀ (i : Nat) (x y : V) (T : Addr) (σ : L2.St) (H : Hp), xs[i]? = some x → ys[i]? = some y → Pv i σ H → H T = none → g (.ref T) σ (upd H T (.tup [x, y])) fun σ2 H2 => tb { D with nx := Pv (i + 1), ct := Pv (i + 1), bk := D.nx } σ2 H2)
    (hd : ∀ σ H, Pv (min xs.length ys.length) σ H → D.nx σ H) : qFor (Itz K a b) g tb D σ H := by
  refine ⟨fun i m σ H => m = min xs.length ys.length - i ∧ i ≤ min xs.length ys.length ∧ Pv i σ H, ⟨_, rfl, Nat.zero_le _, h0⟩, ?_⟩
  rintro i m σ H ⟨rfl, hi, p⟩
  obtain ⟨qx, qy⟩ := hq i σ H p
  by_cases hlt : i < min xs.length ys.length
  · have hx : xs[i]? = some xs[i] := List.getElem?_eq_getElem (by omega)
    have hy : ys[i]? = some ys[i] := List.getElem?_eq_getElem (by omega)
    refine .inr ⟨⟨xs, ys, _, _, qx, qy, hx, hy⟩, Pv (i + 1), fun σ' H' z => ⟨min xs.length ys.length - (i + 1), by omega, rfl, by omega, z⟩, ?_⟩
    rintro v H' ⟨T, x, y, rfl, hT, rfl, kx, ky⟩
    exact hs i x y T σ H (kx xs qx) (ky ys qy) p hT
  · have e : i = min xs.length ys.length := by omega
    rw [e] at p
    exact .inl ⟨⟨xs, ys, qx, qy, by omega⟩, hd σ H p⟩
/-- what arrives -/
def laid (last : List (List Nat)) : List (Bool × (Nat × List Nat)) → List (List Nat) := List.foldl (fun s t => if t.1 = true then s.set t.2.1 t.2.2 else s) last
theorem laid_len (ts : List (Bool × (Nat × List Nat))) : ∀ last : List (List Nat), (laid last ts).length = last.length := by
  induction ts with
  | nil => exact fun _ => rfl
  | cons t ts ih =>
    intro last
    show (laid _ ts).length = _
    rw [ih]
    dsimp only
    split
    · rw [List.length_set]
    · rfl
theorem laid_snoc (last : List (List Nat)) (ts : List (Bool × (Nat × List Nat))) (t : Bool × (Nat × List Nat)) : laid last (ts ++ [t]) = if t.1 = true then (laid last ts).set t.2.1 t.2.2 else laid last ts := by
  unfold laid
  rw [List.foldl_append]
  rfl
def pwr (d : Dk) (bs : List Bool) : Dk := { (if d.on = true then lose d else d) with last := laid d.last (bs.zip d.wait), wait := [], on := true }
theorem off_sect {M : List Addr} {H : Hp} {D : Addr} {ys : List V} (h : H D = some (.lst ys)) : ∀ {us : List V} {S : List (List Nat)}, (∀ u ∈ us, u ∈ ys) → IsAll M H us (S.map nats) → IsAll (D :: M) H us (S.map nats)
  | _, [], _, .nil => .nil
  | _, x :: S, k, .cons i r => by
    obtain ⟨a, zs, rfl, na, ha, ra⟩ := i.listV
    refine .cons (.lst (fun z => ?_) ha ?_) (off_sect h (fun u hu => k u (List.mem_cons_of_mem _ hu)) r)
    · rcases List.mem_cons.mp z with rfl | z
      · have e := natsV' i
        rw [h] at e
        cases e
        have hm := k _ (List.mem_cons_self ..)
        obtain ⟨n, _, hn⟩ := List.mem_map.mp hm
        cases hn
      · exact na z
    · have e := natsV' i
      rw [ha] at e
      cases e
      exact nats_V x
/-- a new disk -/
def newD (sec n : Nat) : Dk := ⟨List.replicate n (List.replicate sec 0), [], true, none, 0, 0, 0⟩
/-! ### the world as it is meant -/
def wdF (n : Nat) (wl ww wc : Addr) (d : Dk) : List (Key × V) := [(.inr "size", .int (n : Int)), (.inr "lasting", .ref wl), (.inr "waiting", .ref ww), (.inr "on", .bl d.on), (.inr "left", lfV d.left), (.inr "losses", .int (d.fl : Int)), (.inr "counts", .ref wc)]
theorem wdF_ok (n : Nat) (wl ww wc : Addr) (d : Dk) : wdF n wl ww wc d = ([(.inr "size", .int (n : Int)), (.inr "lasting", .ref wl), (.inr "waiting", .ref ww), (.inr "on", .bl d.on), (.inr "left", lfV d.left), (.inr "losses", .int (d.fl : Int)), (.inr "counts", .ref wc)] : List (Key × V)) := rfl
def LsOK (sec : Nat) (M : List Addr) (H : Hp) (ls : List (Key × V)) (last : List (List Nat)) : Prop := ∀ (i : Nat) (x : List Nat), last[i]? = some x → (∃ v, valV ls (.inl (i : Int)) = some v ∧ Is M H v (nats x)) ∨ (valV ls (.inl (i : Int)) = none ∧ x = List.replicate sec 0)
structure WdAt (sec n : Nat) (M : List Addr) (H : Hp) (w wl ww wc : Addr) (d : Dk) : Prop where
  ex : H w = some (.dK (wdF n wl ww wc d))
  xwl : ∃ ls, H wl = some (.dK ls) ∧ LsOK sec M H ls d.last ∧ ls.length + d.wait.length ≤ d.wr
  xww : ∃ xs, H ww = some (.lst xs) ∧ IsAll M H xs (d.wait.map wtd)
  xwc : H wc = some (.lst [.int (d.wr : Int), .int (d.sy : Int)])
  mem : w ∈ M ∧ wl ∈ M ∧ ww ∈ M ∧ wc ∈ M
  ne : w ≠ wl ∧ ww ≠ wc
theorem WdAt.kinds {sec n : Nat} {M : List Addr} {H : Hp} {w wl ww wc : Addr} {d : Dk} (h : WdAt sec n M H w wl ww wc d) : ww ≠ w ∧ wc ≠ w ∧ ww ≠ wl ∧ wc ≠ wl := by
  have h1 := h.ex
  obtain ⟨ls, h2, _⟩ := h.xwl
  obtain ⟨xs, h3, _⟩ := h.xww
  have h4 := h.xwc
  refine ⟨fun z => ?_, fun z => ?_, fun z => ?_, fun z => ?_⟩
  · rw [z, h1] at h3; cases h3
  · rw [z, h1] at h4; cases h4
  · rw [z, h2] at h3; cases h3
  · rw [z, h2] at h4; cases h4
theorem LsOK.mono {sec : Nat} {M : List Addr} {H H' : Hp} {ls : List (Key × V)} {last : List (List Nat)} (h : LsOK sec M H ls last) (e : Ext M H H') : LsOK sec M H' ls last := fun i x hx => by
  rcases h i x hx with ⟨v, h1, h2⟩ | h
  · exact .inl ⟨v, h1, h2.mono e⟩
  · exact .inr h
/-- only the dict itself changes -/
theorem WdAt.recd {sec n : Nat} {M : List Addr} {H : Hp} {w wl ww wc : Addr} {d d' : Dk} (h : WdAt sec n M H w wl ww wc d) (e1 : d'.last = d.last) (e2 : d'.wait = d.wait) (e3 : d'.wr = d.wr) (e4 : d'.sy = d.sy) : WdAt sec n M (upd H w (.dK (wdF n wl ww wc d'))) w wl ww wc d' := by
  obtain ⟨k1, k2, k3, k4⟩ := h.kinds
  have ext : Ext M H (upd H w (.dK (wdF n wl ww wc d'))) := .set h.mem.1
  obtain ⟨ls, h2, h3, h4⟩ := h.xwl
  obtain ⟨xs, h5, h6⟩ := h.xww
  refine ⟨upd_same, ⟨ls, by rw [upd_ne h.ne.1.symm]; exact h2, by rw [e1]; exact h3.mono ext, by rw [e2, e3]; exact h4⟩, ⟨xs, by rw [upd_ne k1]; exact h5, by rw [e2]; exact h6.mono ext⟩, by rw [upd_ne k2, e3, e4]; exact h.xwc, h.mem, h.ne⟩
/-- nothing of it changes -/
theorem WdAt.go {sec n : Nat} {N M M' : List Addr} {H H' : Hp} {w wl ww wc : Addr} {d : Dk} (h : WdAt sec n M H w wl ww wc d) (g : Gro N M H M' H') (hN : ∀ b ∈ N, b ∈ M) (n1 : w ∉ N) (n2 : wl ∉ N) (n3 : ww ∉ N) (n4 : wc ∉ N) : WdAt sec n M' H' w wl ww wc d := by
  obtain ⟨ls, h2, h3, h4⟩ := h.xwl
  obtain ⟨xs, h5, h6⟩ := h.xww
  refine ⟨g.ext.keep _ _ n1 h.ex, ⟨ls, g.ext.keep _ _ n2 h2, fun i x hx => ?_, h4⟩, ⟨xs, g.ext.keep _ _ n3 h5, g.isAll hN h6⟩, g.ext.keep _ _ n4 h.xwc, ⟨g.sub _ h.mem.1, g.sub _ h.mem.2.1, g.sub _ h.mem.2.2.1, g.sub _ h.mem.2.2.2⟩, h.ne⟩
  rcases h3 i x hx with ⟨v, z1, z2⟩ | z
  · exact .inl ⟨v, z1, g.is hN z2⟩
  · exact .inr z
theorem DkAt.go {K : PySem.W.Frag} {N M M' : List Addr} {H H' : Hp} {s la se wa : Addr} {d : Dk} (h : DkAt K M H s la se wa d) (g : Gro N M H M' H') (hN : ∀ b ∈ N, b ∈ M) (n1 : s ∉ N) (n2 : la ∉ N) (n3 : se ∉ N) (n4 : wa ∉ N) : DkAt K M' H' s la se wa d := by
  obtain ⟨dx, h1⟩ := h.ex
  obtain ⟨x1, h2, r2⟩ := h.xla
  obtain ⟨x2, h3, r3⟩ := h.xse
  obtain ⟨x3, h4, r4⟩ := h.xwa
  exact ⟨⟨dx, g.ext.keep _ _ n1 h1⟩, ⟨x1, g.ext.keep _ _ n2 h2, g.isAll hN r2⟩, ⟨x2, g.ext.keep _ _ n3 h3, g.isAll hN r3⟩, ⟨x3, g.ext.keep _ _ n4 h4, g.isAll hN r4⟩, ⟨g.sub _ h.mem.1, g.sub _ h.mem.2.1, g.sub _ h.mem.2.2.1, g.sub _ h.mem.2.2.2⟩, h.ne⟩
theorem seen_step {last : List (List Nat)} {wait : List (Nat × List Nat)} {j : Nat} {t : Nat × List Nat} (h : wait[j]? = some t) : seenOf last (wait.take (j + 1)) = (seenOf last (wait.take j)).set t.1 t.2 := by
  unfold seenOf
  rw [take_snoc h, List.foldl_append]
  rfl
theorem getD_set {α : Type} {l : List α} {i k : Nat} {x dd : α} (hi : i < l.length) : (l.set k x).getD i dd = if k = i then x else l.getD i dd := by
  rw [List.getD_eq_getElem?_getD, List.getD_eq_getElem?_getD, List.getElem?_set]
  by_cases h : k = i
  · rw [if_pos h, if_pos h, if_pos (by omega)]
    rfl
  · rw [if_neg h, if_neg h]
theorem LsOK.put {sec : Nat} {M : List Addr} {H : Hp} {ls : List (Key × V)} {last : List (List Nat)} {k : Nat} {v : V} {x : List Nat} (h : LsOK sec M H ls last) (iv : Is M H v (nats x)) : LsOK sec M H (putK ls (.inl (k : Int)) v) (last.set k x) := fun i y hy => by
  rw [valV_put]
  rw [List.getElem?_set] at hy
  by_cases e : k = i
  · subst e
    rw [if_pos rfl] at hy
    rw [if_pos rfl]
    by_cases hl : k < last.length
    · rw [if_pos hl] at hy
      cases hy
      exact .inl ⟨v, rfl, iv⟩
    · rw [if_neg hl] at hy
      cases hy
  · rw [if_neg e] at hy
    rw [if_neg (fun z => e (by cases z; rfl))]
    exact h i y hy
theorem LsOK.go {sec : Nat} {N M M' : List Addr} {H H' : Hp} {ls : List (Key × V)} {last : List (List Nat)} (h : LsOK sec M H ls last) (g : Gro N M H M' H') (hN : ∀ b ∈ N, b ∈ M) : LsOK sec M' H' ls last := fun i x hx => by
  rcases h i x hx with ⟨v, z1, z2⟩ | z
  · exact .inl ⟨v, z1, g.is hN z2⟩
  · exact .inr z
theorem Gro.cons {N M : List Addr} {H H' : Hp} {r : Addr} (a : Al M H) (e : Ext N H H') (hr : H r = none) (hr' : H' r ≠ none) : Gro N M H (r :: M) H' := ⟨fun b h => List.mem_cons_of_mem _ h, fun b h => by
  rcases List.mem_cons.mp h with rfl | h
  · exact .inr hr
  · exact .inl h, e, .cons hr' (a.ext e)⟩
theorem blsV {M : List Addr} {H : Hp} {a : Addr} {x : List Bool} (i : Is M H (.ref a) (.list (x.map PyData.bool))) : H a = some (.lst (x.map V.bl)) := by
  obtain ⟨xs, _, h, r⟩ := i.list
  have e : xs = x.map V.bl := by
    clear h i
    induction x generalizing xs with
    | nil => cases r; rfl
    | cons n x ih =>
      cases r with
      | cons h r => cases h; rw [ih _ r]; rfl
  rw [← e]; exact h
theorem bls_V {M : List Addr} {H : Hp} : ∀ bs : List Bool, IsAll M H (bs.map V.bl) (bs.map PyData.bool)
  | [] => .nil
  | _ :: bs => .cons (.bl _) (bls_V bs)
theorem sh_bls {n : Nat} (bs : List Bool) : Sh (n + 1) (.list (bs.map PyData.bool)) := Sh.list fun d hd => by
  obtain ⟨b, _, rfl⟩ := List.mem_map.mp hd
  exact Sh.bl b
theorem pwr_left (d : Dk) (bs : List Bool) (h : d.on = false → d.left = none) : (pwr d bs).left = none := by
  unfold pwr
  cases e : d.on with
  | false => simpa using h e
  | true => rfl
theorem pwr_fl (d : Dk) (bs : List Bool) : (pwr d bs).fl = if d.on = true then d.fl + 1 else d.fl := by
  unfold pwr
  split <;> rfl
local macro_rules | `(tactic| walk_at "k") => `(tactic| (try dsimp only [cx_K, cx_K2, cx_w]))
local macro_rules | `(tactic| walk_at "ne") => `(tactic| first | assumption | exact Ne.symm (by assumption) | exact ne_of_none (by assumption) (by assumption) | exact Ne.symm (ne_of_none (by assumption) (by assumption)) | exact ne_of (by assumption) (by assumption) (by intro z; cases z))
local macro_rules | `(tactic| walk_at "hp") => `(tactic| first | exact upd_same | assumption | exact SqL.of (by assumption) | exact SqT.of (by assumption) | exact SqL.of upd_same | exact SqT.of upd_same | (refine Eq.trans (upd_ne ?n) ?_ <;> first | (walk_at "hp"; done) | (walk_at "ne"; done)) | (refine SqL.of (Eq.trans (upd_ne ?n) ?_) <;> first | (walk_at "hp"; done) | (walk_at "ne"; done)))
local macro_rules | `(tactic| walk_at "ci") => `(tactic| first | exact .inl ⟨by decide, by decide⟩ | exact .inr ⟨by decide, by decide⟩ | exact .inl ⟨by omega, by omega⟩ | exact .inr ⟨by omega, by omega⟩ | (show (0 : Int) < _; omega) | (show (0 : Int) < _; decide) | (show (0 : Int) ≤ _; omega) | exact ⟨by omega, by omega⟩ | exact ⟨by omega, by omega, by omega⟩ | exact ⟨by decide, by decide, by decide⟩)
local macro_rules | `(tactic| walk_at "hq") => `(tactic| first | exact Is.sql (by assumption) | exact Is.sqt (by assumption) | exact sql_of (by assumption) | exact Is.sql (by walk_at "at") | exact Is.sqt (by walk_at "at"))
local macro_rules | `(tactic| walk_at "isi") => `(tactic| with_reducible (first | refine isi_int_int ?_ | refine isi_int_bool ?_ | refine isi_int_str ?_ | refine isi_int_list ?_ | refine isi_int_tuple ?_ | refine isi_int_dict ?_ | refine isi_int_bytes ?_ | refine isi_bool_int ?_ | refine isi_bool_bool ?_ | refine isi_bool_str ?_ | refine isi_bool_list ?_ | refine isi_bool_tuple ?_ | refine isi_bool_dict ?_ | refine isi_bool_bytes ?_ | refine isi_str_int ?_ | refine isi_str_bool ?_ | refine isi_str_str ?_ | refine isi_str_list ?_ | refine isi_str_tuple ?_ | refine isi_str_dict ?_ | refine isi_str_bytes ?_ | refine isi_NoneType_int ?_ | refine isi_NoneType_bool ?_ | refine isi_NoneType_str ?_ | refine isi_NoneType_list ?_ | refine isi_NoneType_tuple ?_ | refine isi_NoneType_dict ?_ | refine isi_NoneType_bytes ?_ | refine' isi_list_int (by assumption) ?_ | refine' isi_list_bool (by assumption) ?_ | refine' isi_list_str (by assumption) ?_ | refine' isi_list_list (by assumption) ?_ | refine' isi_list_tuple (by assumption) ?_ | refine' isi_list_dict (by assumption) ?_ | refine' isi_list_bytes (by assumption) ?_ | refine' isi_tuple_int (by assumption) ?_ | refine' isi_tuple_bool (by assumption) ?_ | refine' isi_tuple_str (by assumption) ?_ | refine' isi_tuple_list (by assumption) ?_ | refine' isi_tuple_tuple (by assumption) ?_ | refine' isi_tuple_dict (by assumption) ?_ | refine' isi_tuple_bytes (by assumption) ?_ | refine' isi_dict_int (by assumption) ?_ | refine' isi_dict_bool (by assumption) ?_ | refine' isi_dict_str (by assumption) ?_ | refine' isi_dict_list (by assumption) ?_ | refine' isi_dict_tuple (by assumption) ?_ | refine' isi_dict_dict (by assumption) ?_ | refine' isi_dict_bytes (by assumption) ?_))
local macro_rules | `(tactic| walk_at "rd1") => `(tactic| first | (with_reducible (first | refine rd_seq ?_ | refine rd_var rfl ?_ | refine rd_c ?_ | refine rd_op ?_ | refine rd_asg ?_ | refine rd_gName ?_ | refine rd_xor ?_ | refine rd_i0 ?_ | refine rd_if ?_ | refine rd_tTest ?_ | refine rd_tB ?_ | refine rd_tb ?_ | refine rd_ret ?_ | refine rd_retN ?_ | refine rd_nx ?_ | refine rd_drop ?_ | refine rd_eqi ?_ | refine rd_nei ?_ | refine rd_eq rfl ?_ | refine rd_ne rfl ?_ | refine rd_call ?_ | refine rd_cons ?_ | refine rd_nil ?_ | refine rd_cb ?_ | refine rd_un ?_ | refine rd_and ?_ | refine rd_or ?_ | refine rd_not ?_ | refine rd_andV ?_ | refine rd_orV ?_ | refine rd_notV ?_ | refine rd_gSub ?_ | refine rd_augS ?_ | refine rd_aug rfl ?_ | refine rd_ipI ?_ | refine rd_tup ?_ | refine rd_lst ?_ | refine rd_bm0 ?_ | refine rd_bm ?_ | refine rd_chain ?_ | refine rd_rev ?_ | refine rd_tru ?_ | refine rd_u ?_ | refine rd_rng3 ?_ | refine rd_for ?_ | refine rd_lc ?_ | refine rd_rng1 ?_ | refine rd_rng2 ?_ | refine rd_il ?_ | refine rd_it ?_ | refine rd_sl ?_ | refine rd_part ?_ | refine rd_pi ?_ | refine rd_pn ?_ | refine iteT ?_ | refine iteF ?_ | refine iteNT ?_ | refine iteNF ?_ | refine rd_int1 ?_ | refine rd_int1b ?_ | refine rd_isNn ?_ | refine rd_isNi ?_ | refine rd_isNb ?_ | refine rd_isNs ?_ | refine rd_isNr ?_ | refine rd_notNn ?_ | refine rd_notNi ?_ | refine rd_notNb ?_ | refine rd_notNs ?_ | refine rd_notNr ?_ | refine rd_fld ?_ | refine rd_sfld ?_ | refine rd_methW ?_ | refine rd_gcons ?_ | refine rd_gnil ?_ | refine rd_m1 ?_ | refine rd_zip ?_ | refine rd_mkW ?_ | refine rd_meth ?_ | refine rd_dget ?_ | refine rd_dput ?_ | refine rd_daug ?_ | refine rd_rAdd ?_ | refine rd_rSub ?_ | refine rd_absI ?_ | refine rd_absB ?_ | refine rd_ord ?_ | refine rd_istr ?_ | refine rd_sfaug ?_ | refine rd_callW ?_ | refine rd_raise ?_)) | ((with_reducible refine' rd_fldA ?h ?c ?n ?l ?_); (case h => walk_at "hp"); (case c => assumption); (case n => assumption); (case l => rfl)) | ((with_reducible refine' rd_setA ?h ?c ?n ?l ?_); (case h => walk_at "hp"); (case c => assumption); (case n => assumption); (case l => exact Nat.le_of_ble_eq_true rfl)) | ((with_reducible refine' rd_obA ?h ?l ?_); (case h => walk_at "hp"); (case l => rfl)) | ((with_reducible refine' rd_faugA ?h ?c ?n ?l ?_); (case h => walk_at "hp"); (case c => assumption); (case n => assumption); (case l => rfl)) | ((with_reducible refine' rd_setB ?h ?l ?_); (case h => walk_at "hp"); (case l => exact Nat.le_of_ble_eq_true rfl)) | ((with_reducible refine' rd_gtup ?h ?l ?_); (case h => walk_at "hp"); (case l => rfl)) | ((with_reducible refine' rd_dgetS ?h ?l ?_); (case h => walk_at "hp"); (case l => rfl)) | ((with_reducible refine' rd_dputS ?h ?l ?_); (case h => walk_at "hp"); (case l => exact Nat.le_of_ble_eq_true rfl)) | ((with_reducible refine' rd_daugS ?h ?l ?_); (case h => walk_at "hp"); (case l => rfl)) | ((with_reducible refine' rd_dputB ?h ?l ?_); (case h => walk_at "hp"); (case l => exact Nat.le_of_ble_eq_true rfl)) | ((with_reducible refine rd_i ?c ?_); (case c => walk_at "ci")) | ((with_reducible refine' rd_ixL ?h ?a ?_); (case h => walk_at "hp"); (case a => rfl)) | ((with_reducible refine' rd_ixT0 ?h ?_); (case h => walk_at "hp")) | ((with_reducible refine' rd_ixT1 ?h ?_); (case h => walk_at "hp")) | ((with_reducible refine' rd_ixT2 ?h ?_); (case h => walk_at "hp")) | ((with_reducible refine' rd_ixT ?h ?a ?_); (case h => walk_at "hp"); (case a => rfl)) | ((with_reducible refine' rd_setL ?h ?a ?_); (case h => walk_at "hp"); (case a => rfl)) | ((with_reducible refine' rd_lenL ?h (fun _ => ?_)); (case h => walk_at "hp")) | ((with_reducible refine' rd_lenT ?h (fun _ => ?_)); (case h => walk_at "hp")) | ((with_reducible refine' rd_dlen ?h (fun _ => ?_)); (case h => assumption)) | ((with_reducible refine' rd_dlenT ?h (fun _ => ?_)); (case h => assumption)) | ((with_reducible refine rd_rng ?a ?b ?_); (case a => omega); (case b => omega)) | ((with_reducible refine' rd_itl ?h ?_); (case h => walk_at "hq")) | ((with_reducible refine' rd_itt ?h ?_); (case h => walk_at "hq")) | walk_at "isi")
local macro_rules | `(tactic| walk_at "rd") => `(tactic| repeat (walk_at "rd1"))
local macro_rules | `(tactic| walk_at "at") => `(tactic| with_reducible (first | assumption | exact StAt.als (by assumption) | exact Is.int _ | exact Is.non | exact Is.bl _ | exact Is.str _ | exact Al.nil | exact Ext.refl | (refine' at_is0 (by assumption) ?k; (case k => walk_at "at")) | (refine' at_is (by assumption) ?k; (case k => walk_at "at")) | (refine' at_is1 (by assumption) ?k; (case k => walk_at "at")) | (refine' at_st0 (by assumption) ?k; (case k => walk_at "at")) | (refine' at_stN (by assumption) ?k; (case k => walk_at "at")) | (refine' at_isN (by assumption) ?k; (case k => walk_at "at")) | (refine' at_al (by assumption) ?k; (case k => walk_at "at")) | (refine' at_alN ?k; (case k => walk_at "at")) | (refine' at_ext (by assumption) ?k; (case k => walk_at "at")) | (refine' at_ext0 (by assumption) ?k; (case k => walk_at "at")) | (refine' at_extN (by assumption) ?k; (case k => walk_at "at"))))
local macro_rules | `(tactic| walk_at "all") => `(tactic| with_reducible (first | exact IsAll.nil | (refine' IsAll.cons ?ha ?hb; (case ha => walk_at "at"); (case hb => walk_at "all"))))
/-! ### _law_next: some number below the limit, the state's list changes -/
def sp_next : Sp := fun vs H Q _ => ∃ (p l : Addr) (lim : Int), vs = [.ref p, .int lim] ∧ StAt H p l ∧ 0 < lim ∧ lim.natAbs < 2 ^ 200 ∧ ∀ (v : Nat) (H' : Hp), (v : Int) < lim → StAt H' p l → Ext [p] H H' → Q (.int v) H'
theorem ok_law_next {P : Program} {w : World} {K : PySem.W.Frag} {mg : Str → Option Value} {base : Heap} (T : Txt K mg) : Cal P w K mg base 1 "_law_next" sp_next [] := by
  refine T.f_law_next.cal sc_law_next bd_law_next (fun vs H Q E h => ?_) fun f cdv A outer s H vs Q E hr h => ?_
  · obtain ⟨p, l, lim, rfl, _⟩ := h; rfl
  obtain ⟨p, l, lim, rfl, ⟨⟨ns, i, m, s0, hp, hl, hi, hn, hm⟩, npl⟩, h0, h1, k⟩ := h
  have hlen : (ns.map V.int).length = ns.length := List.length_map _
  have kk : ∀ (v : Int) (H' : Hp), 0 ≤ v → v < lim → StAt H' p l → (∀ b, b ≠ p → H' b = H b) → Q (.int v) H' := fun v H' v0 v1 S f => by
    have e : ((v.toNat : Nat) : Int) = v := by omega
    have z := k v.toNat H' (by omega) S ⟨fun b o hb h => by rw [f b (by simpa using hb)]; exact h, fun b hb => by
      by_cases e : b = p
      · rw [e]; exact S.al
      · rw [f b e]; exact hb⟩
    rw [e] at z
    exact z
  refine ⟨_, (pss_join (ps_if (PW.pt (pw_and (pt_cmpR op_eq (pe_ix (ix_listK K) (pv 0) pe_int (fun _ _ => rfl)) pe_int (nomark _)) (pw_and1 (pt_cmpR op_lt (pe_ix (ix_listK K) (pv 0) pe_int (fun _ _ => rfl)) (pe_callB (call_lenK K) (by rfl) T.z_len (by decide +kernel) (pa_cons (pe_ix (ix_listK K) (pv 0) pe_int (fun _ _ => rfl)) pa_nil)) (nomark _))))) (pss_cons (ps_set (i := 2) sc_law_next.nd rfl (Or.inl rfl) (pe_ix (ix_listK K) (pe_ix (ix_listK K) (pv 0) pe_int (fun _ _ => rfl)) (pe_ix (ix_listK K) (pv 0) pe_int (fun _ _ => rfl)) (fun _ _ => rfl)))
      (pss_cons (ps_augS (pv 0) pe_int (get_listK K) pe_int ip_add set_list)
      (pss_one (ps_if (pt_cmpR op_ge (pv 2) (pe_op op_pow pe_int pe_int) (nomark _)) (pss_one (ps_asg (pv 2) (pg_sub (pv 0) pe_int set_list))) (pss_one (ps_asg (pe_op op_mod (pe_callTy call_int1q (by rfl) T.z_int (by decide +kernel) (pa_cons (pe_op op_add (pe_op op_add (pe_op op_mul (pe_ix (ix_listK K) (pv 0) pe_int (fun _ _ => rfl)) pe_int) (pe_op op_mod (pe_callTy call_int1q (by rfl) T.z_int (by decide +kernel) (pa_cons (pv 2) pa_nil)) pe_int)) pe_int) pa_nil)) pe_int) (pg_sub (pv 0) pe_int set_list))))))) pss_nil)
      (pss_cons (ps_if (pt_cmpR op_gt (pe_ix (ix_listK K) (pv 0) pe_int (fun _ _ => rfl)) pe_int (nomark _)) (pss_cons (ps_set (i := 3) sc_law_next.nd rfl (Or.inl rfl) (pe_op op_mod (pe_callTy call_int1q (by rfl) T.z_int (by decide +kernel) (pa_cons (pe_ix (ix_listK K) (pv 0) pe_int (fun _ _ => rfl)) pa_nil)) (pv 1)))
      (pss_cons (ps_asg (pe_op op_fdivW (pe_ix (ix_listK K) (pv 0) pe_int (fun _ _ => rfl)) (pv 1)) (pg_sub (pv 0) pe_int set_list))
      (pss_one (ps_ret (pv 3))))) pss_nil)
      (pss_cons (ps_asg (pe_op op_mod (pe_callTy call_int1q (by rfl) T.z_int (by decide +kernel) (pa_cons (pe_op op_add (pe_op op_mul (pe_ix (ix_listK K) (pv 0) pe_int (fun _ _ => rfl)) pe_int) pe_int) pa_nil)) pe_int) (pg_sub (pv 0) pe_int set_list))
      (pss_one (ps_ret (pe_op op_mod (pe_callTy call_int1q (by rfl) T.z_int (by decide +kernel) (pa_cons (pe_op op_fdiv (pe_ix (ix_listK K) (pv 0) pe_int (fun _ _ => rfl)) pe_int) pa_nil)) (pv 1))))))), ?_⟩
  walk_at "k"
  refine ⟨fun σ H1 => ∃ (c : Option V) (m s0 i : Int), σ = [some (.ref p), some (.int lim), c, none] ∧ H1 p = some (.lst [.ref l, .int i, .int m, .int s0]) ∧ H1 l = some (.lst (ns.map V.int)) ∧ 0 ≤ i ∧ i ≤ ns.length ∧ 0 ≤ m ∧ (∀ b, b ≠ p → H1 b = H b), ?_, ?_⟩
  · walk_at "rd"
    refine rd_ite (fun c => ?_) (fun c => ?_)
    · walk_at "rd"
      refine rd_ite (fun c2 => ?_) (fun c2 => ?_)
      · have c2' := of_decide_eq_true c2
        rw [hlen] at c2'
        obtain ⟨z, hz, _⟩ := atI_int (ns := ns) hi c2'
        walk_at "rd"
        refine rd_ixL (SqL.of hl) hz ?_
        walk_at "rd"
        refine rd_ite (fun c3 => ?_) (fun c3 => ?_)
        · have c3' := of_decide_eq_true c3
          walk_at "rd"
          refine ⟨_, z, s0, i + 1, rfl, upd_same, by rw [upd_ne npl.symm, upd_ne npl.symm]; exact hl, by omega, by omega, ?_, fun b hb => by rw [upd_ne hb, upd_ne hb]⟩
          exact Int.le_trans (by decide) c3'
        · walk_at "rd"
          exact ⟨_, m, _, i + 1, rfl, upd_same, by rw [upd_ne npl.symm, upd_ne npl.symm]; exact hl, by omega, by omega, hm, fun b hb => by rw [upd_ne hb, upd_ne hb]⟩
      · walk_at "rd"
        exact ⟨_, m, _, i, rfl, hp, hl, hi, hn, hm, fun b hb => rfl⟩
    · walk_at "rd"
      exact ⟨_, m, _, i, rfl, hp, hl, hi, hn, hm, fun b hb => rfl⟩
  · rintro σ H1 ⟨c, m, s0, i, rfl, hp, hl, hi, hn, hm, hf⟩
    walk_at "rd"
    refine rd_ite (fun c => ?_) (fun c => ?_)
    · walk_at "rd"
      refine rd_i (wide_div h0 h1 (by decide) (by decide)) ?_
      walk_at "rd"
      refine kk _ _ (Int.emod_nonneg _ (by omega)) (Int.emod_lt_of_pos _ h0) ⟨⟨ns, i, _, s0, upd_same, by rw [upd_ne npl.symm]; exact hl, hi, hn, Int.ediv_nonneg hm (by omega)⟩, npl⟩ fun b hb => by rw [upd_ne hb, hf b hb]
    · walk_at "rd"
      refine kk _ _ (Int.emod_nonneg _ (by omega)) (Int.emod_lt_of_pos _ h0) ⟨⟨ns, i, m, _, upd_same, by rw [upd_ne npl.symm]; exact hl, hi, hn, hm⟩, npl⟩ fun b hb => by rw [upd_ne hb, hf b hb]
theorem rd_next {p l : Addr} {lim : Int} {H : Hp} {Q : VK} {E : XK} (hS : StAt H p l) (h0 : 0 < lim) (h1 : lim.natAbs < 2 ^ 200) (k : ∀ (v : Nat) (H' : Hp), (v : Int) < lim → StAt H' p l → Ext [p] H H' → Q (.int v) H') :
    sp_next ([.ref p, .int lim] ++ []) H Q E := ⟨p, l, lim, rfl, hS, h0, h1, k⟩
theorem lim_small {x : Int} (h0 : 0 ≤ x) (h : x < 1000000000000000000) : x.natAbs < 2 ^ 200 := Nat.lt_of_lt_of_le (show x.natAbs < 2 ^ 60 by omega) (Nat.pow_le_pow_right (by decide) (by decide))
/-! ### _law_same: the same data are the same -/
def sp_same (n : Nat) : Sp := fun vs H Q _ => ∃ (M M' : List Addr) (x y : V) (d : PyData), vs = [x, y] ∧ Is M H x d ∧ Is M' H y d ∧ Sh n d ∧ Q (.bl true) H
theorem Sh.listI {n : Nat} {ds : List PyData} (h : Sh n (.list ds)) : ∃ m, n = m + 1 ∧ ∀ d ∈ ds, Sh m d := by
  obtain ⟨h1, h2⟩ := h
  simp only [PyData.canLay0] at h1
  simp only [PyData.depth] at h2
  refine ⟨n - 1, by omega, fun d hd => ⟨PyData.canLay0_of_mem ds d h1 hd, ?_⟩⟩
  have := PyData.depth_le_depthAll ds d hd
  omega
theorem Sh.tupleI {n : Nat} {ds : List PyData} (h : Sh n (.tuple ds)) : ∃ m, n = m + 1 ∧ ∀ d ∈ ds, Sh m d := by
  obtain ⟨h1, h2⟩ := h
  simp only [PyData.canLay0] at h1
  simp only [PyData.depth] at h2
  refine ⟨n - 1, by omega, fun d hd => ⟨PyData.canLay0_of_mem ds d h1 hd, ?_⟩⟩
  have := PyData.depth_le_depthAll ds d hd
  omega
theorem rd_ixS_L {K : PySem.W.Frag} {H : Hp} {Q : VK} {p : Addr} {i : Int} (h : rIxL K (.ref p) (.int i) H Q) : rIx K (.ref p) (.int i) H Q := .inl h
theorem rd_ixS_T {K : PySem.W.Frag} {H : Hp} {Q : VK} {p : Addr} {i : Int} (h : rIxT K (.ref p) (.int i) H Q) : rIx K (.ref p) (.int i) H Q := .inr (.inl h)
section
variable {P : Program} {w : World} {K : PySem.W.Frag} {mg : Str → Option Value} {base : Heap}
theorem ok_law_same_step (T : Txt K mg) (n : Nat) (ih : Cal P w K mg base n "_law_same" (fun vs H Q E => ∃ m, n = m + 1 ∧ sp_same m vs H Q E) []) : Cal P w K mg base (n + 1) "_law_same" (sp_same n) [] := by
  refine T.f_law_same.cal sc_law_same bd_law_same (fun vs H Q E h => ?_) fun f cdv A outer s H vs Q E hr h => ?_
  · obtain ⟨M, M', x, y, d, rfl, _⟩ := h; rfl
  obtain ⟨M, M', x, y, d, rfl, hx, hy, hd, k⟩ := h
  refine ⟨_, (pss_cons (ps_if (pt_cmpR op_isNq (pv 1) pe_non (nomark _)) (pss_one (ps_ret (pe_cmpR op_isNq (pv 0) pe_non (nomark _)))) pss_nil)
      (pss_cons (ps_if (pt_val (pe_callB (call_isK K) (by rfl) T.z_isinstance (by decide +kernel) (pa_cons (pv 1) (pa_cons (pe_bltn (v := .ty "bool") (by rfl) T.z_bool (by decide +kernel) rfl) pa_nil)))) (pss_one (ps_ret (pe_and (pe_callB (call_isK K) (by rfl) T.z_isinstance (by decide +kernel) (pa_cons (pv 0) (pa_cons (pe_bltn (v := .ty "bool") (by rfl) T.z_bool (by decide +kernel) rfl) pa_nil))) (pe_one (pe_cmpR op_eq (pv 0) (pv 1) (nomark _)))))) pss_nil)
      (pss_cons (ps_if (pt_val (pe_callB (call_isK K) (by rfl) T.z_isinstance (by decide +kernel) (pa_cons (pv 1) (pa_cons (pe_bltn (v := .ty "int") (by rfl) T.z_int (by decide +kernel) rfl) pa_nil)))) (pss_one (ps_ret (pe_and (pe_callB (call_isK K) (by rfl) T.z_isinstance (by decide +kernel) (pa_cons (pv 0) (pa_cons (pe_bltn (v := .ty "int") (by rfl) T.z_int (by decide +kernel) rfl) pa_nil))) (pe_and (pe_not (pe_callB (call_isK K) (by rfl) T.z_isinstance (by decide +kernel) (pa_cons (pv 0) (pa_cons (pe_bltn (v := .ty "bool") (by rfl) T.z_bool (by decide +kernel) rfl) pa_nil)))) (pe_one (pe_cmpR op_eq (pv 0) (pv 1) (nomark _))))))) pss_nil)
      (pss_cons (ps_if (pt_val (pe_callB (call_isK K) (by rfl) T.z_isinstance (by decide +kernel) (pa_cons (pv 1) (pa_cons (pe_bltn (v := .ty "str") (by rfl) T.z_str (by decide +kernel) rfl) pa_nil)))) (pss_one (ps_ret (pe_and (pe_callB (call_isK K) (by rfl) T.z_isinstance (by decide +kernel) (pa_cons (pv 0) (pa_cons (pe_bltn (v := .ty "str") (by rfl) T.z_str (by decide +kernel) rfl) pa_nil))) (pe_one (pe_cmpR op_eq (pv 0) (pv 1) (nomark _)))))) pss_nil)
      (pss_cons (ps_if (PW.pt (pw_and (pt_val (pe_callB (call_isK K) (by rfl) T.z_isinstance (by decide +kernel) (pa_cons (pv 1) (pa_cons (pe_bltn (v := .ty "tuple") (by rfl) T.z_tuple (by decide +kernel) rfl) pa_nil)))) (pw_and1 (pt_not (pt_val (pe_callB (call_isK K) (by rfl) T.z_isinstance (by decide +kernel) (pa_cons (pv 0) (pa_cons (pe_bltn (v := .ty "tuple") (by rfl) T.z_tuple (by decide +kernel) rfl) pa_nil)))))))) (pss_one (ps_ret pe_bl)) pss_nil)
      (pss_cons (ps_if (PW.pt (pw_and (pt_val (pe_callB (call_isK K) (by rfl) T.z_isinstance (by decide +kernel) (pa_cons (pv 1) (pa_cons (pe_bltn (v := .ty "list") (by rfl) T.z_list (by decide +kernel) rfl) pa_nil)))) (pw_and1 (pt_not (pt_val (pe_callB (call_isK K) (by rfl) T.z_isinstance (by decide +kernel) (pa_cons (pv 0) (pa_cons (pe_bltn (v := .ty "list") (by rfl) T.z_list (by decide +kernel) rfl) pa_nil)))))))) (pss_one (ps_ret pe_bl)) pss_nil)
      (pss_cons (ps_if (pt_cmpR op_ne (pe_callB (call_lenK K) (by rfl) T.z_len (by decide +kernel) (pa_cons (pv 0) pa_nil)) (pe_callB (call_lenK K) (by rfl) T.z_len (by decide +kernel) (pa_cons (pv 1) pa_nil)) (nomark _)) (pss_one (ps_ret pe_bl)) pss_nil)
      (pss_cons (ps_for PassesOwn.never rfl (pi_range1 rfl T.z_range (pa_cons (pe_callB (call_lenK K) (by rfl) T.z_len (by decide +kernel) (pa_cons (pv 1) pa_nil)) pa_nil)) (pg_name (i := 2) sc_law_same.nd rfl (Or.inl rfl))
      (pss_one (ps_if (pt_not (pt_val (pe_c (ih) hr (Nat.le_refl _) rfl (pa_cons (pe_ix (ix_seqK K) (pv 0) (pv 2) (fun _ _ => rfl)) (pa_cons (pe_ix (ix_seqK K) (pv 1) (pv 2) (fun _ _ => rfl)) pa_nil))))) (pss_one (ps_ret pe_bl)) pss_nil)))
      (pss_one (ps_ret pe_bl)))))))))), ?_⟩
  walk_at "k"
  cases d with
  | none =>
    cases hx; cases hy
    walk_at "rd"
    exact k
  | bool b =>
    cases hx; cases hy
    walk_at "rd"
    have e : decide (V.bl b = V.bl b) = true := decide_eq_true rfl
    rw [e]
    exact k
  | int i =>
    cases hx; cases hy
    walk_at "rd"
    have e : decide (i = i) = true := decide_eq_true rfl
    rw [e]
    exact k
  | str x =>
    cases hx; cases hy
    walk_at "rd"
    have e : decide (V.str x = V.str x) = true := decide_eq_true rfl
    rw [e]
    exact k
  | list ds =>
    obtain ⟨a, xs, rfl, _, ha, ra⟩ := hx.listV
    obtain ⟨b, ys, rfl, _, hb, rb⟩ := hy.listV
    obtain ⟨m, rfl, hm⟩ := hd.listI
    have hz := ra.length
    have hz2 := rb.length
    walk_at "rd"
    rw [hz, hz2]
    refine iteNS rfl ?_
    walk_at "rd"
    refine q_range (fun j σ H' => ∃ u : Option V, σ = [some (.ref a), some (.ref b), u] ∧ H' = H) ⟨none, rfl, rfl⟩ ?_ ?_
    · rintro j σ H' hj ⟨u, rfl, rfl⟩
      have hj' : j < ds.length := by omega
      obtain ⟨v1, g1, i1⟩ := ra.get (List.getElem?_eq_getElem hj')
      obtain ⟨v2, g2, i2⟩ := rb.get (List.getElem?_eq_getElem hj')
      walk_at "rd"
      refine rd_ixS_L (rd_ixL (SqL.of ha) (by rw [Int.zero_add]; exact atI_nat g1) ?_)
      walk_at "rd"
      refine rd_ixS_L (rd_ixL (SqL.of hb) (by rw [Int.zero_add]; exact atI_nat g2) ?_)
      walk_at "rd"
      refine ⟨m, rfl, M, M', v1, v2, ds[j], rfl, i1, i2, hm _ (List.getElem_mem hj'), ?_⟩
      walk_at "rd"
      exact ⟨_, rfl, rfl⟩
    · rintro σ H' ⟨u, rfl, rfl⟩
      walk_at "rd"
      exact k
  | tuple ds =>
    obtain ⟨a, xs, rfl, _, ha, ra⟩ := hx.tupleV
    obtain ⟨b, ys, rfl, _, hb, rb⟩ := hy.tupleV
    obtain ⟨m, rfl, hm⟩ := hd.tupleI
    have hz := ra.length
    have hz2 := rb.length
    walk_at "rd"
    rw [hz, hz2]
    refine iteNS rfl ?_
    walk_at "rd"
    refine q_range (fun j σ H' => ∃ u : Option V, σ = [some (.ref a), some (.ref b), u] ∧ H' = H) ⟨none, rfl, rfl⟩ ?_ ?_
    · rintro j σ H' hj ⟨u, rfl, rfl⟩
      have hj' : j < ds.length := by omega
      obtain ⟨v1, g1, i1⟩ := ra.get (List.getElem?_eq_getElem hj')
      obtain ⟨v2, g2, i2⟩ := rb.get (List.getElem?_eq_getElem hj')
      walk_at "rd"
      refine rd_ixS_T (rd_ixT (SqT.of ha) (by rw [Int.zero_add]; exact atI_nat g1) ?_)
      walk_at "rd"
      refine rd_ixS_T (rd_ixT (SqT.of hb) (by rw [Int.zero_add]; exact atI_nat g2) ?_)
      walk_at "rd"
      refine ⟨m, rfl, M, M', v1, v2, ds[j], rfl, i1, i2, hm _ (List.getElem_mem hj'), ?_⟩
      walk_at "rd"
      exact ⟨_, rfl, rfl⟩
    · rintro σ H' ⟨u, rfl, rfl⟩
      walk_at "rd"
      exact k
  | dict kvs => cases hx
theorem ok_law_same (T : Txt K mg) : ∀ n : Nat, Cal P w K mg base (n + 1) "_law_same" (sp_same n) []
  | 0 => ok_law_same_step T 0 (by
      obtain ⟨f, fd, F, hm⟩ := T.f_law_same.ex
      exact ⟨f, fd, _, _, ⟨fun vs H Q E ⟨m, e, _⟩ => by omega, fun A outer s H args us vs Q E _ _ _ _ ⟨m, e, _⟩ => by omega⟩, hm, F.kp, F.bindsN bd_law_same, .nil⟩)
  | n + 1 => ok_law_same_step T (n + 1) (by
      obtain ⟨f, fd, ps, ds, F, hm, kp, b, d⟩ := (ok_law_same T n).ex
      exact ⟨f, fd, ps, ds, F.imp fun vs H Q E ⟨m, e, h⟩ => by
        have : n = m := by omega
        rw [this]
        exact h, hm, kp, b, d⟩)
end
theorem rd_same {M M' : List Addr} {H : Hp} {Q : VK} {E : XK} {x y : V} {n : Nat} {d : PyData} (hx : Is M H x d) (hy : Is M' H y d) (hd : Sh n d) (q : Q (.bl true) H) : sp_same n ([x, y] ++ []) H Q E := ⟨M, M', x, y, d, rfl, hx, hy, hd, q⟩
def sp_dsize (K : PySem.W.Frag) : Sp := fun vs H Q _ => ∃ (M : List Addr) (s la se wa : Addr) (d : Dk), vs = [.ref s] ∧ DkAt K M H s la se wa d ∧ Q (.int d.last.length) H
def sp_dlose (K : PySem.W.Frag) : Sp := fun vs H Q _ => ∃ (M : List Addr) (s la se wa : Addr) (d : Dk), vs = [.ref s] ∧ DkAt K M H s la se wa d ∧ ∀ H', Ext [s] H H' → DkAt K M H' s la se wa (lose d) → Q .non H'
def sp_doper (K : PySem.W.Frag) : Sp := fun vs H Q E => ∃ (M : List Addr) (s la se wa : Addr) (d : Dk), vs = [.ref s] ∧ DkAt K M H s la se wa d ∧ ∀ H', Ext [s] H H' → DkAt K M H' s la se wa (oper d) → ((oper d).on = true → Q .non H') ∧ ((oper d).on = false → E (.ref (He.ga K "PowerOff")) none H')
section
variable {P : Program} {w : World} {K : PySem.W.Frag} {mg : Str → Option Value} {base : Heap}
theorem ok_Disk_size (T : Txt K mg) : Met P w K mg base 1 (He.ga K "Disk") "size" (sp_dsize K) [] := by
  refine T.f_Disk_size.met sc_Disk_size bd_Disk_size (fun vs H Q E h => ?_) fun f cdv A outer s0 H vs Q E hr h => ?_
  · obtain ⟨M, s, la, se, wa, d, rfl, _⟩ := h; rfl
  obtain ⟨M, s, la, se, wa, d, rfl, h, q⟩ := h
  obtain ⟨dx, hx⟩ := h.ex
  obtain ⟨xs, hl, rl⟩ := h.xla
  have c0 := T.c_Disk
  have c1 := T.n_Disk_lasting
  refine ⟨_, (pss_one (ps_ret (pe_callB (call_lenK K) (by rfl) T.z_len (by decide +kernel) (pa_cons (pe_fldK K (pv 0) rfl) pa_nil)))), ?_⟩
  walk_at "k"
  unfold dkF at hx
  walk_at "rd"
  rw [rl.length, List.length_map]
  exact q
theorem ok_Disk_lose_power (T : Txt K mg) : Met P w K mg base 1 (He.ga K "Disk") "lose_power" (sp_dlose K) [] := by
  refine T.f_Disk_lose_power.met sc_Disk_lose_power bd_Disk_lose_power (fun vs H Q E h => ?_) fun f cdv A outer s0 H vs Q E hr h => ?_
  · obtain ⟨M, s, la, se, wa, d, rfl, _⟩ := h; rfl
  obtain ⟨M, s, la, se, wa, d, rfl, h, q⟩ := h
  obtain ⟨dx, hx⟩ := h.ex
  have c0 := T.c_Disk
  have c1 := T.n_Disk_powered
  have c2 := T.n_Disk_in_use
  have c3 := T.n_Disk_left
  have c4 := T.n_Disk_failures
  refine ⟨_, (pss_cons (ps_fld (pv 0) pe_bl rfl)
      (pss_cons (ps_fld (pv 0) pe_bl rfl)
      (pss_cons (ps_fld (pv 0) pe_non rfl)
      (pss_one (ps_fldaug (pv 0) pe_int in_add))))), ?_⟩
  walk_at "k"
  unfold dkF at hx
  walk_at "rd"
  have e := h.recd (d' := lose d) (dx := dx) rfl rfl
  rw [upd_upd, upd_upd, upd_upd]
  exact q _ ext1 e
theorem ok_Disk_operate (T : Txt K mg) : MetE P w K mg base 2 (He.ga K "Disk") "operate" (sp_doper K) [] := by
  refine T.f_Disk_operate.metE sc_Disk_operate bd_Disk_operate (fun vs H Q E h => ?_) fun f cdv A outer s0 H vs Q E hr h => ?_
  · obtain ⟨M, s, la, se, wa, d, rfl, _⟩ := h; rfl
  obtain ⟨M, s, la, se, wa, d, rfl, h, q⟩ := h
  obtain ⟨dx, hx⟩ := h.ex
  have c0 := T.c_Disk
  have c1 := T.n_Disk_powered
  have c3 := T.n_Disk_left
  refine ⟨_, (pss_join (ps_if (PW.pt (pw_and (pt_val (pe_fldK K (pv 0) rfl)) (pw_and1 (pt_cmpR op_eq (pe_fldK K (pv 0) rfl) pe_int (nomark _))))) (pss_one (ps_expr (pe_mt0 (ok_Disk_lose_power T) hr (by decide) (pv 0)))) pss_nil)
      (pss_cons (ps_if (pt_not (pt_val (pe_fldK K (pv 0) rfl))) (pss_one (ps_rz rfl (takes_of rfl rfl rfl rfl) T.g_PowerOff T.x_PowerOff rfl)) pss_nil)
      (pss_one (ps_if (pt_cmpR op_notNq (pe_fldK K (pv 0) rfl) pe_non (nomark _)) (pss_one (ps_fld (pv 0) (pe_op op_sub (pe_fldK K (pv 0) rfl) pe_int) rfl)) pss_nil)))), ?_⟩
  walk_at "k"
  refine ⟨fun σ H' => σ = [some (.ref s)] ∧ Ext [s] H H' ∧ DkAt K M H' s la se wa (trip d), ?_, ?_⟩
  · obtain ⟨last, wait, on, left, fl, wr, sy⟩ := d
    unfold dkF at hx
    walk_at "rd"
    cases on with
    | false =>
      walk_at "rd"
      exact ⟨rfl, .refl, h⟩
    | true =>
      walk_at "rd"
      cases left with
      | none =>
        unfold lfV
        walk_at "rd"
        refine iteDn (by simp) ?_
        walk_at "rd"
        exact ⟨rfl, .refl, h⟩
      | some n =>
        unfold lfV
        walk_at "rd"
        cases n with
        | zero =>
          refine iteD (by simp) ?_
          walk_at "rd"
          refine ⟨M, s, la, se, wa, _, rfl, h, fun H' e h' => ?_⟩
          walk_at "rd"
          exact ⟨rfl, e, h'⟩
        | succ n =>
          refine iteDn (by omega) ?_
          walk_at "rd"
          refine ⟨rfl, .refl, ?_⟩
          have e : trip ⟨last, wait, true, some (n + 1), fl, wr, sy⟩ = ⟨last, wait, true, some (n + 1), fl, wr, sy⟩ := by
            unfold trip
            simp
          rw [e]
          exact h
  · rintro σ H' ⟨rfl, e, h'⟩
    obtain ⟨dx', hx'⟩ := h'.ex
    have eo : oper d = if (trip d).on = true then { trip d with left := (trip d).left.map (· - 1) } else trip d := rfl
    have ht : (trip d).on = true → (trip d).left ≠ some 0 := fun h1 h2 => by
      unfold trip at h1 h2
      by_cases c : (d.on && decide (d.left = some 0)) = true
      · rw [if_pos c] at h1; cases h1
      · rw [if_neg c] at h1 h2
        exact c (by rw [h1, h2]; rfl)
    generalize trip d = t at h' hx' eo ht
    obtain ⟨last, wait, on, left, fl, wr, sy⟩ := t
    have hq := q
    unfold dkF at hx'
    walk_at "rd"
    cases on with
    | false =>
      rw [if_neg (by simp)] at eo
      rw [eo] at q
      walk_at "rd"
      exact (q H' e h').2 rfl
    | true =>
      rw [if_pos rfl] at eo
      rw [eo] at q
      walk_at "rd"
      cases left with
      | none =>
        refine rd_notNn ?_
        walk_at "rd"
        exact (q H' e h').1 rfl
      | some n =>
        have hn : n ≠ 0 := fun z => ht rfl (by rw [z])
        refine rd_notNi ?_
        walk_at "rd"
        have e1 : V.int ((n : Int) - 1) = V.int ((n - 1 : Nat) : Int) := by congr 1; omega
        refine rd_i0 (i := (n : Int)) (j := 1) ?_
        walk_at "rd"
        rw [e1]
        exact (q _ (e.trans ext1) (h'.recd (d' := ⟨last, wait, true, some (n - 1), fl, wr, sy⟩) rfl rfl)).1 rfl
/-! what is told -/
def sp_dtell (K : PySem.W.Frag) (f : Dk → V) : Sp := fun vs H Q _ => ∃ (M : List Addr) (s la se wa : Addr) (d : Dk), vs = [.ref s] ∧ DkAt K M H s la se wa d ∧ Q (f d) H
theorem ok_Disk_pending (T : Txt K mg) : Met P w K mg base 1 (He.ga K "Disk") "pending" (sp_dtell K fun d => .int d.wait.length) [] := by
  refine T.f_Disk_pending.met sc_Disk_pending bd_Disk_pending (fun vs H Q E h => ?_) fun f cdv A outer s0 H vs Q E hr h => ?_
  · obtain ⟨M, s, la, se, wa, d, rfl, _⟩ := h; rfl
  obtain ⟨M, s, la, se, wa, d, rfl, h, q⟩ := h
  obtain ⟨dx, hx⟩ := h.ex
  obtain ⟨xs, hl, rl⟩ := h.xwa
  have c0 := T.c_Disk
  have c1 := T.n_Disk_waiting
  refine ⟨_, (pss_one (ps_ret (pe_callB (call_lenK K) (by rfl) T.z_len (by decide +kernel) (pa_cons (pe_fldK K (pv 0) rfl) pa_nil)))), ?_⟩
  walk_at "k"
  unfold dkF at hx
  walk_at "rd"
  rw [rl.length, List.length_map]
  exact q
theorem ok_Disk_is_on (T : Txt K mg) : Met P w K mg base 1 (He.ga K "Disk") "is_on" (sp_dtell K fun d => .bl d.on) [] := by
  refine T.f_Disk_is_on.met sc_Disk_is_on bd_Disk_is_on (fun vs H Q E h => ?_) fun f cdv A outer s0 H vs Q E hr h => ?_
  · obtain ⟨M, s, la, se, wa, d, rfl, _⟩ := h; rfl
  obtain ⟨M, s, la, se, wa, d, rfl, h, q⟩ := h
  obtain ⟨dx, hx⟩ := h.ex
  have c0 := T.c_Disk
  have c1 := T.n_Disk_powered
  refine ⟨_, (pss_one (ps_ret (pe_fldK K (pv 0) rfl))), ?_⟩
  walk_at "k"
  unfold dkF at hx
  walk_at "rd"
  exact q
theorem ok_Disk_losses (T : Txt K mg) : Met P w K mg base 1 (He.ga K "Disk") "losses" (sp_dtell K fun d => .int d.fl) [] := by
  refine T.f_Disk_losses.met sc_Disk_losses bd_Disk_losses (fun vs H Q E h => ?_) fun f cdv A outer s0 H vs Q E hr h => ?_
  · obtain ⟨M, s, la, se, wa, d, rfl, _⟩ := h; rfl
  obtain ⟨M, s, la, se, wa, d, rfl, h, q⟩ := h
  obtain ⟨dx, hx⟩ := h.ex
  have c0 := T.c_Disk
  have c1 := T.n_Disk_failures
  refine ⟨_, (pss_one (ps_ret (pe_fldK K (pv 0) rfl))), ?_⟩
  walk_at "k"
  unfold dkF at hx
  walk_at "rd"
  exact q
def sp_dcounts (K : PySem.W.Frag) : Sp := fun vs H Q _ => ∃ (M : List Addr) (s la se wa : Addr) (d : Dk), vs = [.ref s] ∧ Al M H ∧ DkAt K M H s la se wa d ∧ ∀ r H', Ext [] H H' → Is M H' (.ref r) (.tuple [.int (d.wr : Int), .int (d.sy : Int)]) → Q (.ref r) H'
theorem ok_Disk_counts (T : Txt K mg) : Met P w K mg base 1 (He.ga K "Disk") "counts" (sp_dcounts K) [] := by
  refine T.f_Disk_counts.met sc_Disk_counts bd_Disk_counts (fun vs H Q E h => ?_) fun f cdv A outer s0 H vs Q E hr h => ?_
  · obtain ⟨M, s, la, se, wa, d, rfl, _⟩ := h; rfl
  obtain ⟨M, s, la, se, wa, d, rfl, aM, h, q⟩ := h
  obtain ⟨dx, hx⟩ := h.ex
  have c0 := T.c_Disk
  have c1 := T.n_Disk_writes
  have c2 := T.n_Disk_syncs
  refine ⟨_, (pss_one (ps_ret (pe_tup (pa_cons (pe_fldK K (pv 0) rfl) (pa_cons (pe_fldK K (pv 0) rfl) pa_nil))))), ?_⟩
  walk_at "k"
  unfold dkF at hx
  walk_at "rd"
  refine rd_newT (M := M) aM (by walk_at "all") (by simp) fun r H1 hr1 e1 _ i1 => ?_
  exact q r H1 e1 i1
def sp_dread (K : PySem.W.Frag) : Sp := fun vs H Q _ => ∃ (M : List Addr) (s la se wa : Addr) (d : Dk) (i : Nat) (x : List Nat), vs = [.ref s, .int i] ∧ Al M H ∧ DkAt K M H s la se wa d ∧ d.seen[i]? = some x ∧ ∀ r H', H r = none → Ext [] H H' → H' r = some (.lst (x.map fun n : Nat => V.int n)) → Q (.ref r) H'
theorem natsV {M : List Addr} {H : Hp} {a : Addr} {x : List Nat} (i : Is M H (.ref a) (nats x)) : H a = some (.lst (x.map fun n : Nat => V.int n)) := by
  obtain ⟨xs, _, h, r⟩ := i.list
  have e : xs = x.map fun n : Nat => V.int n := by
    clear h i
    induction x generalizing xs with
    | nil => cases r; rfl
    | cons n x ih =>
      cases r with
      | cons h r => cases h; rw [ih _ r]; rfl
  rw [← e]; exact h
theorem ok_Disk_read (T : Txt K mg) : Met P w K mg base 1 (He.ga K "Disk") "read" (sp_dread K) [] := by
  refine T.f_Disk_read.met sc_Disk_read bd_Disk_read (fun vs H Q E h => ?_) fun f cdv A outer s0 H vs Q E hr h => ?_
  · obtain ⟨M, s, la, se, wa, d, i, x, rfl, _⟩ := h; rfl
  obtain ⟨M, s, la, se, wa, d, i, x, rfl, aM, h, hx0, q⟩ := h
  obtain ⟨dx, hx⟩ := h.ex
  obtain ⟨xs, hl, rl⟩ := h.xse
  have c0 := T.c_Disk
  have c1 := T.n_Disk_seen
  refine ⟨_, (pss_one (ps_ret (pe_callTy (call_listK K) (by rfl) T.z_list (by decide +kernel) (pa_cons (pe_ix (ix_listK K) (pe_fldK K (pv 0) rfl) (pv 1) (fun _ _ => rfl)) pa_nil)))), ?_⟩
  walk_at "k"
  unfold dkF at hx
  obtain ⟨v, hv, iv⟩ := rl.get (show (d.seen.map nats)[i]? = some (nats x) by rw [List.getElem?_map, hx0]; rfl)
  obtain ⟨pv, ys, rfl, _⟩ := iv.listV
  walk_at "rd"
  refine rd_ixL (SqL.of hl) (atI_nat hv) ?_
  walk_at "rd"
  refine rd_listL (SqL.of (natsV iv)) fun r hr1 => ?_
  exact q r _ hr1 (.new hr1) upd_same
end
abbrev nV (x : List Nat) : List V := x.map fun n : Nat => V.int n
def sp_dwrite (K : PySem.W.Frag) : Sp := fun vs H Q E => ∃ (M : List Addr) (s la se wa : Addr) (d : Dk) (i : Nat) (px : Addr) (x : List Nat), vs = [.ref s, .int i, .ref px] ∧ Al M H ∧ DkAt K M H s la se wa d ∧ H px = some (.lst (nV x)) ∧ px ≠ s ∧ px ≠ se ∧ px ≠ wa ∧ i < d.last.length ∧ d.wait.length ≤ 10000 ∧
  (∀ H', (oper d).on = true → Ext [s, se, wa] H H' → DkAt K M H' s la se wa (wrt (oper d) i x) → Q .non H') ∧ (∀ H', (oper d).on = false → Ext [s] H H' → DkAt K M H' s la se wa (oper d) → E (.ref (He.ga K "PowerOff")) none H')
def sp_dsync (K : PySem.W.Frag) : Sp := fun vs H Q E => ∃ (M : List Addr) (s la se wa : Addr) (d : Dk), vs = [.ref s] ∧ Al M H ∧ DkAt K M H s la se wa d ∧
  (∀ M' la' wa' H', (oper d).on = true → H la' = none → H wa' = none → M' = la' :: wa' :: M → Gro [s] M H M' H' → DkAt K M' H' s la' se wa' (syn (oper d)) → Q .non H') ∧ (∀ H', (oper d).on = false → Ext [s] H H' → DkAt K M H' s la se wa (oper d) → E (.ref (He.ga K "PowerOff")) none H')
def sp_dfail (K : PySem.W.Frag) : Sp := fun vs H Q E => ∃ (M : List Addr) (s la se wa : Addr) (d : Dk) (n : Nat), vs = [.ref s, .int n] ∧ DkAt K M H s la se wa d ∧
  (d.on = true → ∀ H', Ext [s] H H' → DkAt K M H' s la se wa { d with left := some n } → Q .non H') ∧ (d.on = false → E (.ref (He.ga K "PowerOff")) none H)
section
variable {P : Program} {w : World} {K : PySem.W.Frag} {mg : Str → Option Value} {base : Heap}
theorem ok_Disk_fail_after (T : Txt K mg) : MetE P w K mg base 1 (He.ga K "Disk") "fail_after" (sp_dfail K) [] := by
  refine T.f_Disk_fail_after.metE sc_Disk_fail_after bd_Disk_fail_after (fun vs H Q E h => ?_) fun f cdv A outer s0 H vs Q E hr h => ?_
  · obtain ⟨M, s, la, se, wa, d, n, rfl, _⟩ := h; rfl
  obtain ⟨M, s, la, se, wa, d, n, rfl, h, q1, q2⟩ := h
  obtain ⟨dx, hx⟩ := h.ex
  have c0 := T.c_Disk
  have c1 := T.n_Disk_powered
  have c3 := T.n_Disk_left
  refine ⟨_, (pss_cons (ps_if (pt_not (pt_val (pe_fldK K (pv 0) rfl))) (pss_one (ps_rz rfl (takes_of rfl rfl rfl rfl) T.g_PowerOff T.x_PowerOff rfl)) pss_nil)
      (pss_one (ps_fld (pv 0) (pv 1) rfl))), ?_⟩
  walk_at "k"
  rw [dkF_ok] at hx
  walk_at "rd"
  cases hon : d.on with
  | false =>
    walk_at "rd"
    exact q2 hon
  | true =>
    walk_at "rd"
    have z := q1 hon _ ext1 (h.recd (d' := { d with left := some n }) (dx := dx) rfl rfl)
    rw [dkF_ok, hon] at z
    rw [hon]
    exact z
theorem ok_Disk_write (T : Txt K mg) : MetE P w K mg base 3 (He.ga K "Disk") "write" (sp_dwrite K) [] := by
  refine T.f_Disk_write.metE sc_Disk_write bd_Disk_write (fun vs H Q E h => ?_) fun f cdv A outer s0 H vs Q E hr h => ?_
  · obtain ⟨M, s, la, se, wa, d, i, px, x, rfl, _⟩ := h; rfl
  obtain ⟨M, s, la, se, wa, d, i, px, x, rfl, aM, h, hpx, n1, n2, n3, hi, hwl, q1, q2⟩ := h
  obtain ⟨dx0, hx0⟩ := h.ex
  have c0 := T.c_Disk
  have c1 := T.n_Disk_seen
  have c2 := T.n_Disk_waiting
  have c3 := T.n_Disk_writes
  refine ⟨_, (pss_cons (ps_expr (pe_mtW0 (ok_Disk_operate T) hr (by decide) (takes_of rfl rfl rfl rfl) (pv 0)))
      (pss_cons (ps_asg (pe_callTy (call_listK K) (by rfl) T.z_list (by decide +kernel) (pa_cons (pv 2) pa_nil)) (pg_sub (pe_fldK K (pv 0) rfl) (pv 1) set_list))
      (pss_cons (ps_expr (pe_bm PySem.F.plainAttrs_list PySem.F.slot_list_append PySem.F.type_list_append mt_append (pe_fldK K (pv 0) rfl) (pa_cons (pe_tup (pa_cons (pv 1) (pa_cons (pe_callTy (call_listK K) (by rfl) T.z_list (by decide +kernel) (pa_cons (pv 2) pa_nil)) pa_nil))) pa_nil)))
      (pss_one (ps_fldaug (pv 0) pe_int in_add))))), ?_⟩
  walk_at "k"
  rw [dkF_ok] at hx0
  walk_at "rd"
  refine ⟨M, s, la, se, wa, d, rfl, h, fun H1 e1 h1 => ⟨fun hon => ?_, fun hoff => q2 _ hoff e1 h1⟩⟩
  have ol := oper_last d
  rw [← ol.1] at hi
  rw [← ol.2] at hwl
  generalize oper d = t at h1 hon q1 hi hwl
  clear q2 ol
  have hpx1 := e1.keep _ _ (by simpa using n1) hpx
  obtain ⟨dx, hx⟩ := h1.ex
  obtain ⟨xl, hla, rla⟩ := h1.xla
  obtain ⟨xs, hse, rse⟩ := h1.xse
  obtain ⟨xw, hwa, rwa⟩ := h1.xwa
  have sne := h1.sne
  have hne := h1.ne
  have hm := h1.mem
  have a1 : Al M H1 := aM.ext e1
  have hxl : xs.length = t.last.length := by rw [rse.length, List.length_map]; exact seen_len _ _
  rw [dkF_ok] at hx
  walk_at "rd"
  refine rd_listL (SqL.of hpx1) fun r2 hr2 => ?_
  have iX2 : Is M (upd H1 r2 (.lst (nV x))) (.ref r2) (nats x) := new_lst a1 (nats_V x) hr2
  have e12 : Ext [] H1 (upd H1 r2 (.lst (nV x))) := .new hr2
  generalize upd H1 r2 (.lst (nV x)) = H2 at iX2 e12 ⊢
  have hx2 := e12.keep _ _ (by simp) hx
  have hse2 := e12.keep _ _ (by simp) hse
  walk_at "rd"
  refine rd_setL (j := i) hse2 (ixN_nat (by rw [hxl]; exact hi)) ?_
  have e23 : Ext [se] H2 (upd H2 se (.lst (xs.set i (.ref r2)))) := ext1
  have hse3 : (upd H2 se (.lst (xs.set i (.ref r2)))) se = some (.lst (xs.set i (.ref r2))) := upd_same
  have r3 : IsAll M (upd H2 se (.lst (xs.set i (.ref r2)))) (xs.set i (.ref r2)) ((t.seen.map nats).set i (nats x)) := ((rse.mono e12.any).set i iX2).mono (e23.more (by simpa using hm.2.2.1))
  generalize upd H2 se (.lst (xs.set i (.ref r2))) = H3 at e23 hse3 r3 ⊢
  have e13 : Ext [se] H1 H3 := e12.any.trans e23
  have hx3 := e13.keep _ _ (by simpa using sne.2.1.symm) hx
  have hwa3 := e13.keep _ _ (by simpa using hne.2.2.symm) hwa
  have hpx3 := e13.keep _ _ (by simpa using n2) hpx1
  walk_at "rd"
  refine rd_app hwa3 ?_
  walk_at "rd"
  refine rd_listL (SqL.of hpx3) fun r4 hr4 => ?_
  have a3 : Al M H3 := a1.ext e13
  have iX4 : Is M (upd H3 r4 (.lst (nV x))) (.ref r4) (nats x) := new_lst a3 (nats_V x) hr4
  have e34 : Ext [] H3 (upd H3 r4 (.lst (nV x))) := .new hr4
  generalize upd H3 r4 (.lst (nV x)) = H4 at iX4 e34 ⊢
  walk_at "rd"
  refine rd_newT (M := M) (a3.ext e34) (by walk_at "all") (by simp) fun r5 H5 hr5 e45 _ i5 => ?_
  have e15 : Ext [se] H1 H5 := e13.trans (e34.any.trans e45.any)
  have hwa5 := e15.keep _ _ (by simpa using hne.2.2.symm) hwa
  have hlw := rwa.length
  rw [List.length_map] at hlw
  refine ⟨xw, hwa5, szl' (by omega), ?_⟩
  have e56 : Ext [wa] H5 (upd H5 wa (.lst (xw ++ [.ref r5]))) := ext1
  have e16 : Ext [se, wa] H1 (upd H5 wa (.lst (xw ++ [.ref r5]))) := (e15.more (by simp)).trans (e56.more (by simp))
  have e16M : Ext M H1 (upd H5 wa (.lst (xw ++ [.ref r5]))) := e16.more (by simpa using ⟨hm.2.2.1, hm.2.2.2⟩)
  have e56M : Ext M H5 (upd H5 wa (.lst (xw ++ [.ref r5]))) := e56.more (by simpa using hm.2.2.2)
  have e36M : Ext M H3 (upd H5 wa (.lst (xw ++ [.ref r5]))) := (e34.any.trans e45.any).trans e56M
  have hx6 := e16.keep _ _ (by simpa using ⟨sne.2.1.symm, sne.2.2.symm⟩) hx
  have hla6 := e16.keep _ _ (by simpa using ⟨hne.1, hne.2.1⟩) hla
  have hse6 : (upd H5 wa (.lst (xw ++ [.ref r5]))) se = some (.lst (xs.set i (.ref r2))) := (e34.any.trans (e45.any.trans e56)).keep _ _ (by simpa using hne.2.2) hse3
  have hwa6 : (upd H5 wa (.lst (xw ++ [.ref r5]))) wa = some (.lst (xw ++ [.ref r5])) := upd_same
  have rw6 : IsAll M (upd H5 wa (.lst (xw ++ [.ref r5]))) (xw ++ [.ref r5]) ((t.wait ++ [(i, x)]).map wtd) := by
    rw [List.map_append]
    exact (rwa.mono e16M).append (.one (i5.mono e56M))
  generalize upd H5 wa (.lst (xw ++ [.ref r5])) = H6 at e16 e16M e36M hx6 hla6 hse6 hwa6 rw6 ⊢
  walk_at "rd"
  have hD : DkAt K M H6 s la se wa { wrt t i x with wr := t.wr } := by
    refine ⟨⟨dx, hx6⟩, ⟨xl, hla6, rla.mono e16M⟩, ⟨xs.set i (.ref r2), hse6, ?_⟩, ⟨_, hwa6, rw6⟩, hm, hne⟩
    have es : ({ wrt t i x with wr := t.wr } : Dk).seen = t.seen.set i x := seen_wrt t i x
    rw [es, List.map_set]
    exact r3.mono e36M
  exact q1 _ hon ((e1.more (by simp)).trans ((e16.more (by simp)).trans (ext1.more (by simp)))) (hD.recd (d' := wrt t i x) rfl rfl)
theorem ok_Disk_sync (T : Txt K mg) : MetE P w K mg base 3 (He.ga K "Disk") "sync" (sp_dsync K) [] := by
  refine T.f_Disk_sync.metE sc_Disk_sync bd_Disk_sync (fun vs H Q E h => ?_) fun f cdv A outer s0 H vs Q E hr h => ?_
  · obtain ⟨M, s, la, se, wa, d, rfl, _⟩ := h; rfl
  obtain ⟨M, s, la, se, wa, d, rfl, aM, h, q1, q2⟩ := h
  obtain ⟨dx0, hx0⟩ := h.ex
  have c0 := T.c_Disk
  have c1 := T.n_Disk_seen
  have c2 := T.n_Disk_waiting
  have c3 := T.n_Disk_lasting
  have c4 := T.n_Disk_syncs
  refine ⟨_, (pss_cons (ps_expr (pe_mtW0 (ok_Disk_operate T) hr (by decide) (takes_of rfl rfl rfl rfl) (pv 0)))
      (pss_cons (ps_fld (pv 0) (pe_callTy (call_listK K) (by rfl) T.z_list (by decide +kernel) (pa_cons (pe_fldK K (pv 0) rfl) pa_nil)) rfl)
      (pss_cons (ps_fld (pv 0) (pe_lst pa_nil) rfl)
      (pss_one (ps_fldaug (pv 0) pe_int in_add))))), ?_⟩
  walk_at "k"
  rw [dkF_ok] at hx0
  walk_at "rd"
  refine ⟨M, s, la, se, wa, d, rfl, h, fun H1 e1 h1 => ⟨fun hon => ?_, fun hoff => q2 _ hoff e1 h1⟩⟩
  generalize oper d = t at h1 hon q1
  clear q2
  obtain ⟨dx, hx⟩ := h1.ex
  obtain ⟨xs, hse, rse⟩ := h1.xse
  have sne := h1.sne
  have hm := h1.mem
  have a1 : Al M H1 := aM.ext e1
  rw [dkF_ok] at hx
  walk_at "rd"
  refine rd_listL (SqL.of hse) fun r2 hr2 => ?_
  have e12 : Ext [] H1 (upd H1 r2 (.lst xs)) := .new hr2
  have h2r : (upd H1 r2 (.lst xs)) r2 = some (.lst xs) := upd_same
  generalize upd H1 r2 (.lst xs) = H2 at e12 h2r ⊢
  have hx2 := e12.keep _ _ (by simp) hx
  have r2s : r2 ≠ s := fun z => by rw [z, hx] at hr2; cases hr2
  have r2se : r2 ≠ se := fun z => by rw [z, hse] at hr2; cases hr2
  walk_at "rd"
  refine ⟨szl (by simp), fun r3 hr3 => ?_⟩
  have hr3' : H2 r3 = none := by
    rw [upd_ne] at hr3
    · exact hr3
    · intro z
      rw [z, upd_same] at hr3; cases hr3
  have r3s : r3 ≠ s := fun z => by rw [z, hx2] at hr3'; cases hr3'
  have r3r2 : r3 ≠ r2 := fun z => by rw [z, h2r] at hr3'; cases hr3'
  have hr31 : H1 r3 = none := e12.free hr3'
  have hr30 : H r3 = none := e1.free hr31
  have hr20 : H r2 = none := e1.free hr2
  walk_at "rd"
  generalize hH : upd (upd (upd (upd H2 s _) r3 _) s _) s _ = HF
  have k1 : HF s = some (.ins (He.ga K "Disk") dx (dkF r2 se r3 (syn t))) := by rw [← hH]; exact upd_same
  have k2 : ∀ b, b ≠ s → b ≠ r3 → HF b = H2 b := fun b h1 h2 => by rw [← hH, upd_ne h1, upd_ne h1, upd_ne h2, upd_ne h1]
  have k3 : HF r3 = some (.lst []) := by rw [← hH, upd_ne r3s, upd_ne r3s, upd_same]
  have e2F : Ext [s] H2 HF := ⟨fun b o hb h => by
    rw [k2 b (by simpa using hb) (ne_of_none h hr3')]; exact h, fun b h => by
    by_cases z : b = s
    · rw [z, k1]; exact fun z => nomatch z
    · by_cases z2 : b = r3
      · rw [z2, k3]; exact fun z => nomatch z
      · rw [k2 b z z2]; exact h⟩
  have eHF : Ext [s] H HF := e1.trans (e12.any.trans e2F)
  have gro : Gro [s] M H (r2 :: r3 :: M) HF := by
    refine ⟨fun b h => List.mem_cons_of_mem _ (List.mem_cons_of_mem _ h), fun b h => ?_, eHF, ?_⟩
    · rcases List.mem_cons.mp h with rfl | h
      · exact .inr hr20
      · rcases List.mem_cons.mp h with rfl | h
        · exact .inr hr30
        · exact .inl h
    · refine .cons ?_ (.cons (by rw [k3]; exact fun z => nomatch z) (aM.ext eHF))
      rw [k2 r2 r2s r3r2.symm, h2r]
      exact fun z => nomatch z
  have gro1 : Gro [s] M H1 (r2 :: r3 :: M) HF := by
    refine ⟨gro.sub, fun b h => ?_, e12.any.trans e2F, gro.al⟩
    rcases List.mem_cons.mp h with rfl | h
    · exact .inr hr2
    · rcases List.mem_cons.mp h with rfl | h
      · exact .inr hr31
      · exact .inl h
  have hsM : ∀ b ∈ [s], b ∈ M := by simpa using hm.1
  have seF : HF se = some (.lst xs) := by rw [k2 se sne.2.1 (fun z => by rw [← z, e12.keep _ _ (by simp) hse] at hr3'; cases hr3')]; exact e12.keep _ _ (by simp) hse
  have rF : IsAll (r2 :: r3 :: M) HF xs (t.seen.map nats) := gro1.isAll hsM rse
  refine q1 (r2 :: r3 :: M) r2 r3 HF hon hr20 hr30 rfl gro ⟨⟨dx, k1⟩, ⟨xs, by rw [k2 r2 r2s r3r2.symm]; exact h2r, rF⟩, ⟨xs, seF, rF⟩, ⟨[], k3, .nil⟩, ⟨by simp [hm.1], by simp, by simp [hm.2.2.1], by simp⟩, ⟨r2se, r3r2.symm, fun z => ?_⟩⟩
  rw [← z, e12.keep _ _ (by simp) hse] at hr3'
  cases hr3'
def sp_dpower (K : PySem.W.Frag) : Sp := fun vs H Q _ => ∃ (M : List Addr) (s la se wa : Addr) (d : Dk) (pk : Addr) (bs : List Bool), vs = [.ref s, .ref pk] ∧ Al M H ∧ DkAt K M H s la se wa d ∧ H pk = some (.lst (bs.map V.bl)) ∧ pk ≠ s ∧ pk ≠ la ∧ (∀ t ∈ d.wait, t.1 < d.last.length) ∧
  (∀ M' se' wa' H', H se' = none → H wa' = none → M' = se' :: wa' :: M → Gro [s, la] M H M' H' → DkAt K M' H' s la se' wa' (pwr d bs) → Q .non H')
theorem ok_Disk_power (T : Txt K mg) : Met P w K mg base 2 (He.ga K "Disk") "power" (sp_dpower K) [] := by
  refine T.f_Disk_power.met sc_Disk_power bd_Disk_power (fun vs H Q E h => ?_) fun f cdv A outer s0 H vs Q E hr h => ?_
  · obtain ⟨M, s, la, se, wa, d, pk, bs, rfl, _⟩ := h; rfl
  obtain ⟨M, s, la, se, wa, d, pk, bs, rfl, aM, h, hpk, np1, np2, hlt, q⟩ := h
  obtain ⟨dx0, hx0⟩ := h.ex
  have c0 := T.c_Disk
  have c1 := T.n_Disk_seen
  have c2 := T.n_Disk_waiting
  have c3 := T.n_Disk_lasting
  have c4 := T.n_Disk_powered
  refine ⟨_, (pss_join (ps_if (pt_val (pe_fldK K (pv 0) rfl)) (pss_one (ps_expr (pe_mt0 (ok_Disk_lose_power T) hr (by decide) (pv 0)))) pss_nil)
      (pss_cons (ps_for PassesOwn.never rfl (pi_zip rfl T.z_zip (pa_cons (pv 1) (pa_cons (pe_fldK K (pv 0) rfl) pa_nil))) (pg_tupK K (n := 2) rfl (pgs_cons (pg_name (i := 2) sc_Disk_power.nd rfl (Or.inl rfl)) (pgs_cons (pg_tupK K (n := 2) rfl (pgs_cons (pg_name (i := 3) sc_Disk_power.nd rfl (Or.inl rfl)) (pgs_cons (pg_name (i := 4) sc_Disk_power.nd rfl (Or.inl rfl)) pgs_nil))) pgs_nil)))
      (pss_one (ps_if (pt_val (pv 2)) (pss_one (ps_asg (pv 4) (pg_sub (pe_fldK K (pv 0) rfl) (pv 3) set_list))) pss_nil)))
      (pss_cons (ps_fld (pv 0) (pe_callTy (call_listK K) (by rfl) T.z_list (by decide +kernel) (pa_cons (pe_fldK K (pv 0) rfl) pa_nil)) rfl)
      (pss_cons (ps_fld (pv 0) (pe_lst pa_nil) rfl)
      (pss_one (ps_fld (pv 0) pe_bl rfl)))))), ?_⟩
  walk_at "k"
  refine ⟨fun σ H' => σ = [some (.ref s), some (.ref pk), none, none, none] ∧ Ext [s] H H' ∧ DkAt K M H' s la se wa (if d.on = true then lose d else d), ?_, ?_⟩
  · rw [dkF_ok] at hx0
    walk_at "rd"
    cases hon : d.on with
    | false =>
      rw [hon] at hx0
      walk_at "rd"
      exact ⟨rfl, .refl, by rw [if_neg (by simp)]; exact h⟩
    | true =>
      walk_at "rd"
      refine ⟨M, s, la, se, wa, d, rfl, h, fun H' e h' => ?_⟩
      walk_at "rd"
      exact ⟨rfl, e, by rw [if_pos rfl]; exact h'⟩
  rintro σ H1 ⟨rfl, e1, h1⟩
  have epw : pwr d bs = { (if d.on = true then lose d else d) with last := laid (if d.on = true then lose d else d).last (bs.zip (if d.on = true then lose d else d).wait), wait := [], on := true } := by
    unfold pwr
    split <;> rfl
  have hlt' : ∀ t ∈ (if d.on = true then lose d else d).wait, t.1 < (if d.on = true then lose d else d).last.length := by split <;> exact hlt
  generalize (if d.on = true then lose d else d) = t at h1 epw hlt'
  obtain ⟨dx, hx⟩ := h1.ex
  obtain ⟨xl, hla, rla⟩ := h1.xla
  obtain ⟨xw, hwa, rwa⟩ := h1.xwa
  have sne := h1.sne
  have hne := h1.ne
  have hm := h1.mem
  have a1 : Al M H1 := aM.ext e1
  have hpk1 := e1.keep _ _ (by simpa using np1) hpk
  rw [dkF_ok] at hx
  walk_at "rd"
  refine ⟨pk, wa, _, _, rfl, SqL.of hpk1, SqL.of hwa, ?_⟩
  have hxl : xl.length = t.last.length := by rw [rla.length, List.length_map]
  have hlaM : ∀ b ∈ [la], b ∈ M := by simpa using hm.2.1
  refine q_zip (xs := bs.map V.bl) (ys := xw) (fun i σ H' => ∃ u2 u3 u4 ys, σ = [some (.ref s), some (.ref pk), u2, u3, u4] ∧ Ext [la] H1 H' ∧ H' la = some (.lst ys) ∧ IsAll M H' ys ((laid t.last ((bs.zip t.wait).take i)).map nats)) ⟨none, none, none, xl, rfl, .refl, hla, rla⟩ (fun i σ H' h => ?_) (fun i x y T' σ H' hx' hy' h hT => ?_) ?_
  · obtain ⟨_, _, _, ys, rfl, e, _, _⟩ := h
    exact ⟨SqL.of (e.keep _ _ (by simpa using np2) hpk1), SqL.of (e.keep _ _ (by simpa using hne.2.1.symm) hwa)⟩
  · obtain ⟨_, _, _, ys, rfl, e, hy, ry⟩ := h
    obtain ⟨b, hb, rfl⟩ : ∃ b, bs[i]? = some b ∧ x = .bl b := by
      rw [List.getElem?_map] at hx'
      cases hb : bs[i]? with
      | none => rw [hb] at hx'; cases hx'
      | some b => rw [hb] at hx'; exact ⟨b, rfl, (Option.some.inj hx').symm⟩
    obtain ⟨dt, hdt, iy⟩ := rwa.got hy'
    rw [List.getElem?_map] at hdt
    obtain ⟨⟨ix, dat⟩, hw, rfl⟩ : ∃ tw, t.wait[i]? = some tw ∧ dt = wtd tw := by
      cases hw : t.wait[i]? with
      | none => rw [hw] at hdt; cases hdt
      | some tw => rw [hw] at hdt; exact ⟨tw, rfl, (Option.some.inj hdt).symm⟩
    have hix : ix < t.last.length := hlt' _ (List.mem_of_getElem? hw)
    have hz : (bs.zip t.wait)[i]? = some (b, ix, dat) := by rw [List.getElem?_zip_eq_some]; exact ⟨hb, hw⟩
    have esn := take_snoc hz
    have eT : Ext [] H' (upd H' T' (.tup [.bl b, y])) := .new hT
    have hTT : (upd H' T' (.tup [.bl b, y])) T' = some (.tup [.bl b, y]) := upd_same
    have ry2 := ry.mono (eT.any : Ext M _ _)
    have hy2 := eT.keep _ _ (by simp) hy
    have iy2 : Is M (upd H' T' (.tup [.bl b, y])) y (wtd (ix, dat)) := (iy.mono (e.more hlaM)).mono eT.any
    have e2 : Ext [la] H1 (upd H' T' (.tup [.bl b, y])) := e.trans eT.any
    generalize upd H' T' (.tup [.bl b, y]) = H2 at eT hTT ry2 hy2 iy2 e2 ⊢
    obtain ⟨ty, us, rfl, nty, hty, rty⟩ := iy2.tupleV
    cases rty with
    | @cons v1 vr _ _ i1 rty =>
    cases rty with
    | @cons v2 vr _ _ i2 rty =>
    cases rty
    cases i1
    obtain ⟨pd, zs, rfl, _⟩ := i2.listV
    walk_at "rd"
    rw [esn, laid_snoc]
    cases b with
    | false =>
      walk_at "rd"
      exact ⟨_, _, _, ys, rfl, e2, hy2, by simpa using ry2⟩
    | true =>
      have hx2 := e2.keep _ _ (by simpa using sne.1.symm) hx
      walk_at "rd"
      have hys : ys.length = t.last.length := by rw [ry2.length, List.length_map, laid_len]
      refine rd_setL (j := ix) hy2 (ixN_nat (by omega)) ?_
      refine ⟨_, _, _, _, rfl, e2.trans ext1, upd_same, ?_⟩
      rw [if_pos rfl, List.map_set]
      exact (ry2.set ix i2).mono (.set hm.2.1)
  · rintro σ H2 ⟨u2, u3, u4, ys, rfl, e12, hy, ry⟩
    have emin : (bs.zip t.wait).take (min (bs.map V.bl).length xw.length) = bs.zip t.wait := by
      apply List.take_of_length_le
      rw [List.length_zip, List.length_map, rwa.length, List.length_map]
      exact Nat.le_refl _
    rw [emin] at ry
    have hx2 := e12.keep _ _ (by simpa using sne.1.symm) hx
    have a2 := a1.ext e12
    have e02 : Ext [s, la] H H2 := (e1.more (by simp)).trans (e12.more (by simp))
    clear hpk1 hwa rwa hla rla hx
    walk_at "rd"
    refine rd_listL (SqL.of hy) fun r2 hr2 => ?_
    have e23 : Ext [] H2 (upd H2 r2 (.lst ys)) := .new hr2
    have h2r : (upd H2 r2 (.lst ys)) r2 = some (.lst ys) := upd_same
    generalize upd H2 r2 (.lst ys) = H3 at e23 h2r ⊢
    have hx3 := e23.keep _ _ (by simp) hx2
    have r2s : r2 ≠ s := fun z => by rw [z, hx2] at hr2; cases hr2
    have r2la : r2 ≠ la := fun z => by rw [z, hy] at hr2; cases hr2
    walk_at "rd"
    refine ⟨szl (by simp), fun r3 hr3 => ?_⟩
    have hr3' : H3 r3 = none := by
      rw [upd_ne] at hr3
      · exact hr3
      · intro z
        rw [z, upd_same] at hr3; cases hr3
    have r3s : r3 ≠ s := fun z => by rw [z, hx3] at hr3'; cases hr3'
    have r3r2 : r3 ≠ r2 := fun z => by rw [z, h2r] at hr3'; cases hr3'
    have hy3 := e23.keep _ _ (by simp) hy
    have r3la : r3 ≠ la := fun z => by rw [z, hy3] at hr3'; cases hr3'
    have hr32 : H2 r3 = none := e23.free hr3'
    have hr30 : H r3 = none := e02.free hr32
    have hr20 : H r2 = none := e02.free hr2
    walk_at "rd"
    generalize hH : upd (upd (upd (upd H3 s _) r3 _) s _) s _ = HF
    have k1 : HF s = some (.ins (He.ga K "Disk") dx (dkF la r2 r3 (pwr d bs))) := by rw [← hH, epw]; exact upd_same
    have k2 : ∀ b, b ≠ s → b ≠ r3 → HF b = H3 b := fun b h1 h2 => by rw [← hH, upd_ne h1, upd_ne h1, upd_ne h2, upd_ne h1]
    have k3 : HF r3 = some (.lst []) := by rw [← hH, upd_ne r3s, upd_ne r3s, upd_same]
    have e3F : Ext [s] H3 HF := ⟨fun b o hb h => by
      rw [k2 b (by simpa using hb) (ne_of_none h hr3')]; exact h, fun b h => by
      by_cases z : b = s
      · rw [z, k1]; exact fun z => nomatch z
      · by_cases z2 : b = r3
        · rw [z2, k3]; exact fun z => nomatch z
        · rw [k2 b z z2]; exact h⟩
    have e2F : Ext [s] H2 HF := e23.any.trans e3F
    have eHF : Ext [s, la] H HF := e02.trans (e2F.more (by simp))
    have mk : ∀ {N : List Addr} {A : Hp}, A r2 = none → A r3 = none → Ext N A HF → Al M A → Gro N M A (r2 :: r3 :: M) HF := fun {N A} z2 z3 ee aa => by
      refine ⟨fun b h => List.mem_cons_of_mem _ (List.mem_cons_of_mem _ h), fun b h => ?_, ee, ?_⟩
      · rcases List.mem_cons.mp h with rfl | h
        · exact .inr z2
        · rcases List.mem_cons.mp h with rfl | h
          · exact .inr z3
          · exact .inl h
      · refine .cons ?_ (.cons (by rw [k3]; exact fun z => nomatch z) (aa.ext ee))
        rw [k2 r2 r2s r3r2.symm, h2r]
        exact fun z => nomatch z
    have gro := mk hr20 hr30 eHF aM
    have gro2 := mk hr2 hr32 e2F a2
    have hsM : ∀ b ∈ [s], b ∈ M := by simpa using hm.1
    have laF : HF la = some (.lst ys) := by rw [k2 la sne.1 r3la.symm]; exact hy3
    have rF : IsAll (r2 :: r3 :: M) HF ys ((pwr d bs).last.map nats) := by rw [epw]; exact gro2.isAll hsM ry
    have eseen : (pwr d bs).seen = (pwr d bs).last := by rw [epw]; rfl
    refine q (r2 :: r3 :: M) r2 r3 HF hr20 hr30 rfl gro ⟨⟨dx, k1⟩, ⟨ys, laF, rF⟩, ⟨ys, by rw [k2 r2 r2s r3r2.symm]; exact h2r, by rw [eseen]; exact rF⟩, ⟨[], k3, by rw [epw]; exact .nil⟩, ⟨by simp [hm.1], by simp [hm.2.1], by simp, by simp⟩, ⟨r2la.symm, r3la.symm, r3r2.symm⟩⟩
end
def FEW : Int := 60
def MOST : Int := 400
def SEC : Nat := 64
def isSz : PyData → Bool
  | .int i => decide (FEW ≤ i) && decide (i ≤ MOST)
  | _ => false
def sp_dinit (K : PySem.W.Frag) : Sp := fun vs H Q E => ∃ (M : List Addr) (s dx : Addr) (x : V) (dd : PyData), vs = [.ref s, x] ∧ H s = some (.ins (He.ga K "Disk") dx []) ∧ s ∈ M ∧ Al M H ∧ Is M H x dd ∧
  (isSz dd = false → E (.ref (He.ga K "InvalidArgument")) none H) ∧
  (∀ n : Nat, dd = .int n → isSz dd = true → ∀ M' la se wa H', H la = none → H se = none → H wa = none → M' = wa :: se :: la :: M → Gro [s] M H M' H' → DkAt K M' H' s la se wa (newD SEC n) → Q .non H')
section
variable {P : Program} {w : World} {K : PySem.W.Frag} {mg : Str → Option Value} {base : Heap}
theorem mk_Disk (T : Txt K mg) : MakE P w K mg base 1 "Disk" (He.ga K "Disk") (sp_dinit K) [] := by
  refine T.f_Disk__init_.makE sc_Disk__init_ bd_Disk__init_ (fun vs H Q E h => ?_) fun f cdv A outer s0 H vs Q E hr h => ?_
  · obtain ⟨M, s, dx, x, dd, rfl, _⟩ := h; rfl
  obtain ⟨M, s, dx, x, dd, rfl, hx, hs, aM, i, q1, q2⟩ := h
  have c0 := T.c_Disk
  have c1 := T.n_Disk_in_use
  have c2 := T.n_Disk_lasting
  have c3 := T.n_Disk_seen
  have c4 := T.n_Disk_waiting
  have c5 := T.n_Disk_powered
  have c6 := T.n_Disk_left
  have c7 := T.n_Disk_failures
  have c8 := T.n_Disk_writes
  have c9 := T.n_Disk_syncs
  refine ⟨_, (pss_cons (ps_if (PW.pt (pw_or (pt_not (pt_val (pe_callB (call_isK K) (by rfl) T.z_isinstance (by decide +kernel) (pa_cons (pv 1) (pa_cons (pe_bltn (v := .ty "int") (by rfl) T.z_int (by decide +kernel) rfl) pa_nil))))) (pw_or (pt_val (pe_callB (call_isK K) (by rfl) T.z_isinstance (by decide +kernel) (pa_cons (pv 1) (pa_cons (pe_bltn (v := .ty "bool") (by rfl) T.z_bool (by decide +kernel) rfl) pa_nil)))) (pw_or1 (pt_not (pt_chain op_le op_le (pe_gc (by rfl) T.g_FEWEST) (pv 1) (pe_gc (by rfl) T.g_MOST))))))) (pss_one (ps_rz rfl (takes_of rfl rfl rfl rfl) T.g_InvalidArgument T.x_InvalidArgument rfl)) pss_nil)
      (pss_cons (ps_fld (pv 0) pe_bl rfl)
      (pss_cons (ps_fld (pv 0) (pe_lc (own := [("_", 2)]) (g := gName 2) (tt := tYes) rfl sc_Disk__init_.nd (pi_range1 rfl T.z_range (pa_cons (pv 1) pa_nil)) (blkOk_by (own := [("_", 2)]) (N := nm_Disk__init_) (sc := defScope s_Disk__init_) (by decide +kernel)) (fun _ _ _ _ _ => (pg_name (i := 2) sc_Disk__init_.nd rfl (Or.inl rfl))) (fun _ _ _ _ _ => pts_nil) (fun _ _ _ _ _ => (pe_op op_rep (pe_lst (pa_cons pe_int pa_nil)) (pe_gc (by rfl) T.g_SECTOR)))) rfl)
      (pss_cons (ps_fld (pv 0) (pe_callTy (call_listK K) (by rfl) T.z_list (by decide +kernel) (pa_cons (pe_fldK K (pv 0) rfl) pa_nil)) rfl)
      (pss_cons (ps_fld (pv 0) (pe_lst pa_nil) rfl)
      (pss_cons (ps_fld (pv 0) pe_bl rfl)
      (pss_cons (ps_fld (pv 0) pe_non rfl)
      (pss_cons (ps_fld (pv 0) pe_int rfl)
      (pss_cons (ps_fld (pv 0) pe_int rfl)
      (pss_one (ps_fld (pv 0) pe_int rfl))))))))))), ?_⟩
  walk_at "k"
  walk_at "rd"
  cases i with
  | non =>
    walk_at "rd"
    exact q1 rfl
  | bl b =>
    walk_at "rd"
    exact q1 rfl
  | str b =>
    walk_at "rd"
    exact q1 rfl
  | lst na h r =>
    walk_at "rd"
    exact q1 rfl
  | tup na h r =>
    walk_at "rd"
    exact q1 rfl
  | int z =>
  walk_at "rd"
  refine rd_ite2 (fun c => ?_) (fun c => ?_)
  · walk_at "rd"
    have e : isSz (.int z) = false := by
      show (decide (FEW ≤ z) && decide (z ≤ MOST)) = false
      rw [show decide (FEW ≤ z) = false from c]
      rfl
    exact q1 e
  walk_at "rd"
  refine rd_ite (fun c2 => ?_) (fun c2 => ?_)
  · have c2' := not_t c2
    walk_at "rd"
    have e : isSz (.int z) = false := by
      show (decide (FEW ≤ z) && decide (z ≤ MOST)) = false
      rw [show decide (z ≤ MOST) = false from decide_eq_false c2', Bool.and_false]
    exact q1 e
  have hz1 : FEW ≤ z := of_decide_eq_true c
  have hz2 : z ≤ MOST := not_f c2
  have hsz : isSz (.int z) = true := by
    show (decide (FEW ≤ z) && decide (z ≤ MOST)) = true
    rw [decide_eq_true hz1, decide_eq_true hz2]
    rfl
  obtain ⟨n, rfl⟩ : ∃ n : Nat, z = n := ⟨z.toNat, by unfold FEW at hz1; omega⟩
  unfold FEW at hz1
  unfold MOST at hz2
  walk_at "rd"
  have hs1 : (upd H s (.ins (He.ga K "Disk") dx (putF "in_use" (.bl false) []))) s = some (.ins (He.ga K "Disk") dx [("in_use", .bl false)]) := upd_same
  have e1 : Ext [s] H (upd H s (.ins (He.ga K "Disk") dx (putF "in_use" (.bl false) []))) := ext1
  generalize upd H s (.ins (He.ga K "Disk") dx (putF "in_use" (.bl false) [])) = H1 at hs1 e1 ⊢
  have a1 := aM.ext e1
  walk_at "rd"
  rw [Int.toNat_natCast]
  intro D hD
  refine q_lcAR (N := []) (M := M) (fun _ => True) (fun _ e => e = nats (List.replicate SEC 0)) (by simp) a1 hD (by omega) (fun _ => rfl) trivial (fun _ _ _ => trivial) (fun i H' hi sD e _ _ R kk => ?_) fun H2 es e2 _ r2 i2 => ?_
  · walk_at "rd"
    refine rd_newL (M := D :: M) sD (by walk_at "all") (by simp) fun p H'' hp e3 h3 _ => ?_
    refine rd_nrep1 (M := D :: M) (n := 0) (j := SEC) (sD.ext e3) h3 rfl (by decide) (by decide) fun p4 H4 hp4 e4 i4 => ?_
    exact kk _ _ _ (e3.trans e4) trivial i4 rfl
  have ees : es = (List.replicate n (List.replicate SEC 0)).map nats := by
    rw [r2.fn, List.map_const', List.length_range, List.map_replicate]
  subst ees
  obtain ⟨ys, nD, hy, ry⟩ := i2.list
  have hs2 := e2.keep _ _ (by simp) hs1
  have a2 := a1.ext e2
  have Ds : D ≠ s := fun z => by rw [z, hs1] at hD; cases hD
  have hD0 : H D = none := e1.free hD
  have e02 : Ext [s] H H2 := e1.trans e2.any
  walk_at "rd"
  have hyA : (upd H2 s (.ins (He.ga K "Disk") dx (putF "lasting" (.ref D) [("in_use", .bl false)]))) D = some (.lst ys) := by rw [upd_ne Ds]; exact hy
  refine rd_listL (SqL.of hyA) fun r3 hr3 => ?_
  have r3s : r3 ≠ s := fun z => by rw [z, upd_same] at hr3; cases hr3
  have hr3' : H2 r3 = none := by rw [upd_ne r3s] at hr3; exact hr3
  have r3D : r3 ≠ D := fun z => by rw [z, hy] at hr3'; cases hr3'
  walk_at "rd"
  refine ⟨szl (by simp), fun r4 hr4 => ?_⟩
  have r4s : r4 ≠ s := fun z => by rw [z, upd_same] at hr4; cases hr4
  have r4r3 : r4 ≠ r3 := fun z => by rw [z, upd_ne r3s, upd_same] at hr4; cases hr4
  have hr4' : H2 r4 = none := by rw [upd_ne r4s, upd_ne r4r3, upd_ne r4s] at hr4; exact hr4
  have r4D : r4 ≠ D := fun z => by rw [z, hy] at hr4'; cases hr4'
  walk_at "rd"
  generalize hH : upd (upd (upd (upd (upd (upd (upd (upd (upd (upd H2 s _) r3 _) s _) r4 _) s _) s _) s _) s _) s _) s _ = HF
  have k1 : HF s = some (.ins (He.ga K "Disk") dx (dkF D r3 r4 (newD SEC n))) := by rw [← hH]; exact upd_same
  have k2 : ∀ b, b ≠ s → b ≠ r3 → b ≠ r4 → HF b = H2 b := fun b h1 h2 h3 => by rw [← hH]; simp only [upd_ne h1, upd_ne h2, upd_ne h3]
  have k3 : HF r3 = some (.lst ys) := by rw [← hH]; simp only [upd_ne r3s, upd_ne r4r3.symm, upd_same]
  have k4 : HF r4 = some (.lst []) := by rw [← hH]; simp only [upd_ne r4s, upd_same]
  have kD : HF D = some (.lst ys) := by rw [k2 D Ds r3D.symm r4D.symm]; exact hy
  have e2F : Ext [s] H2 HF := ⟨fun b o hb h => by
    rw [k2 b (by simpa using hb) (ne_of_none h hr3') (ne_of_none h hr4')]; exact h, fun b h => by
    by_cases z : b = s
    · rw [z, k1]; exact fun z => nomatch z
    · by_cases z2 : b = r3
      · rw [z2, k3]; exact fun z => nomatch z
      · by_cases z3 : b = r4
        · rw [z3, k4]; exact fun z => nomatch z
        · rw [k2 b z z2 z3]; exact h⟩
  have eF : Ext [s] H HF := e02.trans e2F
  have hr30 := e02.free hr3'
  have hr40 := e02.free hr4'
  have alF : Al (r4 :: r3 :: D :: M) HF := .cons (some_ne k4) (.cons (some_ne k3) (.cons (some_ne kD) (aM.ext eF)))
  have gro : Gro [s] M H (r4 :: r3 :: D :: M) HF := ⟨fun b h => by simp [h], fun b h => by
    simp only [List.mem_cons] at h
    rcases h with rfl | rfl | rfl | h
    · exact .inr hr40
    · exact .inr hr30
    · exact .inr hD0
    · exact .inl h, eF, alF⟩
  have ryD : IsAll (D :: M) H2 ys ((List.replicate n (List.replicate SEC 0)).map nats) := off_sect hy (fun _ h => h) ry
  have ryF : IsAll (r4 :: r3 :: D :: M) HF ys ((List.replicate n (List.replicate SEC 0)).map nats) := ((ryD.off hr3').off hr4').mono (e2F.more (by simpa using .inr (.inr (.inr hs))))
  exact q2 n rfl hsz _ D r3 r4 HF hD0 hr30 hr40 rfl gro ⟨⟨dx, k1⟩, ⟨ys, kD, ryF⟩, ⟨ys, k3, ryF⟩, ⟨[], k4, .nil⟩, ⟨by simp [hs], by simp, by simp, by simp⟩, ⟨r3D.symm, r4D.symm, r4r3.symm⟩⟩
def sp_refused : Sp := fun vs H Q _ => ∃ (M : List Addr) (x : V) (dd : PyData), vs = [x] ∧ Al M H ∧ Is M H x dd ∧ isSz dd = false ∧ ∀ H', Ext [] H H' → Q (.bl true) H'
theorem ok_law_refused (T : Txt K mg) : Cal P w K mg base 3 "_law_refused" sp_refused [] := by
  refine T.f_law_refused.cal sc_law_refused bd_law_refused (fun vs H Q E h => ?_) fun f cdv A outer s0 H vs Q E hr h => ?_
  · obtain ⟨M, x, dd, rfl, _⟩ := h; rfl
  obtain ⟨M, x, dd, rfl, aM, i, hb, q⟩ := h
  refine ⟨_, (pss_cons (ps_try_as (i := 1) rfl rfl sc_law_refused.nd rfl rfl ⟨rfl, by decide, .inl T.g_RuleError⟩ takes0 (fun W pn xe tk _ => (pss_one (ps_expr (pe_mkW (mk_Disk T) hr (by decide) tk rfl (pa_cons (pv 0) pa_nil)))))
      (fun a oe cls d pn hz hf => (pss_given (p := cls = .ref (He.ga K "InvalidArgument") ∧ d = none) fun q => (pss_one (ps_ret (pe_and (pe_callB (call_isE T.xc_InvalidArgument (zc_of q hz) hf) (by rfl) T.z_isinstance (by decide +kernel) (pa_cons (pv 1) (pa_cons (pe_gc (v := .ref (He.ga K "InvalidArgument")) (by rfl) ⟨_, T.g_InvalidArgument, rfl⟩) pa_nil))) (pe_one (pe_callB (call_isE T.xc_InvalidArgument (zc_of q hz) hf) (by rfl) T.z_isinstance (by decide +kernel) (pa_cons (pv 1) (pa_cons (pe_bltn (v := .ty "ValueError") (by rfl) T.z_ValueError (by decide +kernel) rfl) pa_nil))))))))))
      (pss_one (ps_ret pe_bl))), ?_⟩
  walk_at "k"
  walk_at "rd"
  intro s dx hs hdx hne
  have e1 : Ext [] H (upd H dx (.own s)) := .new hdx
  have hs1 : (upd H dx (.own s)) s = none := by rw [upd_ne hne.symm]; exact hs
  have e2 : Ext [] (upd H dx (.own s)) (upd (upd H dx (.own s)) s (.ins (He.ga K "Disk") dx [])) := .new hs1
  have hx : (upd (upd H dx (.own s)) s (.ins (He.ga K "Disk") dx [])) s = some (.ins (He.ga K "Disk") dx []) := upd_same
  have e02 := e1.trans e2
  have iD : Is (s :: M) (upd (upd H dx (.own s)) s (.ins (He.ga K "Disk") dx [])) x dd := (i.off hs).mono e02.any
  generalize upd (upd H dx (.own s)) s (.ins (He.ga K "Disk") dx []) = H2 at hx e02 iD ⊢
  refine ⟨s :: M, s, dx, x, dd, rfl, hx, List.mem_cons_self .., .cons (some_ne hx) (aM.ext e02), iD, fun _ => ?_, fun n _ hg => ?_⟩
  · refine ⟨true, T.e_InvalidArgument_RuleError, fun _ a ha => ?_, fun z => nomatch z⟩
    refine ⟨⟨rfl, rfl⟩, ?_⟩
    walk_at "rd"
    refine ⟨_, _, true, rfl, fun u h => h, T.k_InvalidArgument_InvalidArgument, ?_⟩
    walk_at "rd"
    refine ⟨_, _, true, rfl, fun u h => h, T.kv_InvalidArgument, ?_⟩
    exact q _ e02
  · rw [hb] at hg
    cases hg
def sp_lop : Sp := fun vs H Q _ => ∃ (M : List Addr) (n : Nat) (w wl ww wc : Addr) (d : Dk), vs = [.ref w] ∧ Al M H ∧ WdAt SEC n M H w wl ww wc d ∧ ∀ H', Ext [w] H H' → WdAt SEC n M H' w wl ww wc (oper d) → Q (.bl (oper d).on) H'
theorem ok_law_operate (T : Txt K mg) : Cal P w K mg base 1 "_law_operate" sp_lop [] := by
  refine T.f_law_operate.cal sc_law_operate bd_law_operate (fun vs H Q E h => ?_) fun f cdv A outer s0 H vs Q E hr h => ?_
  · obtain ⟨M, n, w, wl, ww, wc, d, rfl, _⟩ := h; rfl
  obtain ⟨M, n, w, wl, ww, wc, d, rfl, aM, h, q⟩ := h
  have hw := h.ex
  refine ⟨_, (pss_join (ps_if (PW.pt (pw_and (pt_val (pe_dget (hu_of hr) (pv 0) pe_str (fun _ _ => rfl))) (pw_and1 (pt_cmpR op_eq (pe_dget (hu_of hr) (pv 0) pe_str (fun _ _ => rfl)) pe_int (nomark _))))) (pss_one (ps_expr (pe_bm PySem.F.plainAttrs_dict PySem.F.slot_dict_update PySem.F.type_dict_update mt_update (pv 0) (pa_cons (pe_disp (pps_cons pe_str pe_bl (pps_cons pe_str pe_non (pps_cons pe_str (pe_op op_add (pe_dget (hu_of hr) (pv 0) pe_str (fun _ _ => rfl)) pe_int) pps_nil))) (by rfl) (by rfl) (fun z => by cases z) (by decide)) pa_nil)))) pss_nil)
      (pss_cons (ps_if (PW.pt (pw_and (pt_val (pe_dget (hu_of hr) (pv 0) pe_str (fun _ _ => rfl))) (pw_and1 (pt_cmpR op_notNq (pe_dget (hu_of hr) (pv 0) pe_str (fun _ _ => rfl)) pe_non (nomark _))))) (pss_one (ps_daug (hu_of hr) (pv 0) pe_str pe_int in_sub (fun _ _ _ => rfl))) pss_nil)
      (pss_one (ps_ret (pe_dget (hu_of hr) (pv 0) pe_str (fun _ _ => rfl)))))), ?_⟩
  walk_at "k"
  refine ⟨fun σ H' => σ = [some (.ref w)] ∧ Ext [w] H H' ∧ WdAt SEC n M H' w wl ww wc (trip d), ?_, ?_⟩
  · obtain ⟨last, wait, on, left, fl, wr, sy⟩ := d
    rw [wdF_ok] at hw
    walk_at "rd"
    cases on with
    | false =>
      walk_at "rd"
      exact ⟨rfl, .refl, h⟩
    | true =>
      walk_at "rd"
      cases left with
      | none =>
        refine rd_eq (x := .non) (y := .int 0) rfl ?_
        walk_at "rd"
        refine iteDn (by simp) ?_
        walk_at "rd"
        exact ⟨rfl, .refl, h⟩
      | some m =>
        refine rd_eqi (i := (m : Int)) (j := 0) ?_
        walk_at "rd"
        cases m with
        | zero =>
          refine iteD (by simp) ?_
          walk_at "rd"
          refine ⟨.inr (.inr (.inl ⟨rfl, .inl ⟨_, hw⟩⟩)), ?_⟩
          walk_at "rd"
          refine rd_disp fun p hp => ?_
          have pw : w ≠ p := ne_of_none hw hp
          have hw1 : (upd H p (.dK [])) w = some _ := (upd_ne pw).trans hw
          refine rd_pairs1 ?_
          walk_at "rd"
          refine rd_pairs1 ?_
          walk_at "rd"
          refine rd_pairs1 ?_
          walk_at "rd"
          refine rd_pairs0 ?_
          refine ⟨upd_same, [(.inr "on", .bl false), (.inr "left", .non), (.inr "losses", .int ((fl : Int) + 1))], rfl, Nat.le_of_ble_eq_true rfl, ?_⟩
          walk_at "rd"
          refine ⟨w, p, _, _, rfl, rfl, (upd_ne pw).trans hw1, upd_same, pw, Nat.le_of_ble_eq_true rfl, ?_⟩
          have e1 : Ext [] H (upd H p (.dK [])) := .new hp
          have e2 : Ext [] H (upd (upd H p (.dK [])) p (.dK (mergeK [] [(.inr "on", .bl false), (.inr "left", .non), (.inr "losses", .int ((fl : Int) + 1))]))) := e1.mut hp
          have h2 := (h.go (Gro.of e2 aM) (by simp) (by simp) (by simp) (by simp) (by simp)).recd (d' := lose ⟨last, wait, true, some 0, fl, wr, sy⟩) rfl rfl rfl rfl
          exact ⟨rfl, e2.any.trans ext1, h2⟩
        | succ m =>
          refine iteDn (by omega) ?_
          walk_at "rd"
          refine ⟨rfl, .refl, ?_⟩
          have e : trip ⟨last, wait, true, some (m + 1), fl, wr, sy⟩ = ⟨last, wait, true, some (m + 1), fl, wr, sy⟩ := by
            unfold trip
            simp
          rw [e]
          exact h
  · rintro σ H' ⟨rfl, e, h'⟩
    have ht : (trip d).on = true → (trip d).left ≠ some 0 := fun h1 h2 => by
      unfold trip at h1 h2
      by_cases c : (d.on && decide (d.left = some 0)) = true
      · rw [if_pos c] at h1; cases h1
      · rw [if_neg c] at h1 h2
        exact c (by rw [h1, h2]; rfl)
    have eo : oper d = if (trip d).on = true then { trip d with left := (trip d).left.map (· - 1) } else trip d := rfl
    generalize trip d = t at h' eo ht
    obtain ⟨last, wait, on, left, fl, wr, sy⟩ := t
    have hw' := h'.ex
    rw [wdF_ok] at hw'
    walk_at "rd"
    cases on with
    | false =>
      rw [if_neg (by simp)] at eo
      rw [eo] at q
      walk_at "rd"
      exact q H' e h'
    | true =>
      rw [if_pos rfl] at eo
      rw [eo] at q
      walk_at "rd"
      cases left with
      | none =>
        refine rd_notNn ?_
        walk_at "rd"
        exact q H' e h'
      | some m =>
        have hn : m ≠ 0 := fun z => ht rfl (by rw [z])
        refine rd_notNi ?_
        walk_at "rd"
        refine rd_rSub (i := (m : Int)) (j := 1) ?_
        rw [show (m : Int) - 1 = ((m - 1 : Nat) : Int) by omega]
        walk_at "rd"
        exact q _ (e.trans ext1) (h'.recd (d' := ⟨last, wait, true, some (m - 1), fl, wr, sy⟩) rfl rfl rfl rfl)
end
/-! ### the law's deeds -/
/-- all that is there -/
structure All (K : PySem.W.Frag) (n : Nat) (M : List Addr) (H : Hp) (p l s la se wa w wl ww wc : Addr) (d : Dk) : Prop where
  st : StAt H p l
  dk : DkAt K M H s la se wa d
  wd : WdAt SEC n M H w wl ww wc d
  al : Al M H
  mem : p ∈ M
  len : d.last.length = n
  sz : 2 ≤ n ∧ n ≤ 10000 ∧ d.wr ≤ 10000
  ix : ∀ t ∈ d.wait, t.1 < n
  off : d.on = false → d.left = none
  ne : (la ≠ ww ∧ la ≠ wc ∧ la ≠ p ∧ la ≠ l) ∧ (se ≠ ww ∧ se ≠ wc ∧ se ≠ p ∧ se ≠ l) ∧ (wa ≠ ww ∧ wa ≠ wc ∧ wa ≠ p ∧ wa ≠ l) ∧ (ww ≠ p ∧ ww ≠ l ∧ wc ≠ p ∧ wc ≠ l)
  sec : (∀ x ∈ d.last, x.length = SEC) ∧ ∀ t ∈ d.wait, t.2.length = SEC
theorem seenOf_mem {x : List Nat} : ∀ (wait : List (Nat × List Nat)) {last : List (List Nat)}, x ∈ seenOf last wait → x ∈ last ∨ ∃ t ∈ wait, t.2 = x
  | [], _, h => .inl h
  | t :: wait, last, h => by
    rcases seenOf_mem wait (last := last.set t.1 t.2) h with h | ⟨u, hu, e⟩
    · rcases List.mem_or_eq_of_mem_set h with h | rfl
      · exact .inl h
      · exact .inr ⟨t, List.mem_cons_self .., rfl⟩
    · exact .inr ⟨u, List.mem_cons_of_mem _ hu, e⟩
theorem laid_mem {x : List Nat} : ∀ (ts : List (Bool × (Nat × List Nat))) {last : List (List Nat)}, x ∈ laid last ts → x ∈ last ∨ ∃ t ∈ ts, t.2.2 = x
  | [], _, h => .inl h
  | t :: ts, last, h => by
    have h' : x ∈ laid (if t.1 = true then last.set t.2.1 t.2.2 else last) ts := h
    rcases laid_mem ts h' with h | ⟨u, hu, e⟩
    · split at h
      · rcases List.mem_or_eq_of_mem_set h with h | rfl
        · exact .inl h
        · exact .inr ⟨t, List.mem_cons_self .., rfl⟩
      · exact .inl h
    · exact .inr ⟨u, List.mem_cons_of_mem _ hu, e⟩
theorem All.secS {K : PySem.W.Frag} {n : Nat} {M : List Addr} {H : Hp} {p l s la se wa w wl ww wc : Addr} {d : Dk} (h : All K n M H p l s la se wa w wl ww wc d) : ∀ x ∈ d.seen, x.length = SEC := fun x hx => by
  rcases seenOf_mem _ hx with hx | ⟨t, ht, rfl⟩
  · exact h.sec.1 x hx
  · exact h.sec.2 t ht
theorem All.ki {K : PySem.W.Frag} {n : Nat} {M : List Addr} {H : Hp} {p l s la se wa w wl ww wc : Addr} {d : Dk} (h : All K n M H p l s la se wa w wl ww wc d) :
    (s ≠ w ∧ s ≠ wl ∧ s ≠ ww ∧ s ≠ wc ∧ s ≠ p ∧ s ≠ l) ∧ (la ≠ w ∧ la ≠ wl) ∧ (se ≠ w ∧ se ≠ wl) ∧ (wa ≠ w ∧ wa ≠ wl) ∧ (w ≠ p ∧ w ≠ l) ∧ (wl ≠ p ∧ wl ≠ l) := by
  obtain ⟨dx, hs⟩ := h.dk.ex
  obtain ⟨x1, h1, _⟩ := h.dk.xla
  obtain ⟨x2, h2, _⟩ := h.dk.xse
  obtain ⟨x3, h3, _⟩ := h.dk.xwa
  have h4 := h.wd.ex
  obtain ⟨ls, h5, _⟩ := h.wd.xwl
  obtain ⟨x6, h6, _⟩ := h.wd.xww
  have h7 := h.wd.xwc
  obtain ⟨⟨ns, i, m, s0, h8, h9, _⟩, _⟩ := h.st
  refine ⟨⟨?_, ?_, ?_, ?_, ?_, ?_⟩, ⟨?_, ?_⟩, ⟨?_, ?_⟩, ⟨?_, ?_⟩, ⟨?_, ?_⟩, ⟨?_, ?_⟩⟩ <;> intro z <;> subst z
  · rw [h4] at hs; cases hs
  · rw [h5] at hs; cases hs
  · rw [h6] at hs; cases hs
  · rw [h7] at hs; cases hs
  · rw [h8] at hs; cases hs
  · rw [h9] at hs; cases hs
  · rw [h4] at h1; cases h1
  · rw [h5] at h1; cases h1
  · rw [h4] at h2; cases h2
  · rw [h5] at h2; cases h2
  · rw [h4] at h3; cases h3
  · rw [h5] at h3; cases h3
  · rw [h4] at h8; cases h8
  · rw [h4] at h9; cases h9
  · rw [h5] at h8; cases h8
  · rw [h5] at h9; cases h9
def sp_sector : Sp := fun vs H Q _ => ∃ (M : List Addr) (n : Nat) (w wl ww wc : Addr) (d : Dk) (i : Nat), vs = [.ref w, .int i] ∧ Al M H ∧ WdAt SEC n M H w wl ww wc d ∧ i < d.last.length ∧ ∀ (a : Addr) H', Ext [] H H' → Is M H' (.ref a) (nats (d.seen.getD i [])) → Q (.ref a) H'
section
variable {P : Program} {w : World} {K : PySem.W.Frag} {mg : Str → Option Value} {base : Heap}
theorem ok_law_sector (T : Txt K mg) : Cal P w K mg base 1 "_law_sector" sp_sector [] := by
  refine T.f_law_sector.cal sc_law_sector bd_law_sector (fun vs H Q E h => ?_) fun f cdv A outer s0 H vs Q E hr h => ?_
  · obtain ⟨M, n, w, wl, ww, wc, d, i, rfl, _⟩ := h; rfl
  obtain ⟨M, n, w, wl, ww, wc, d, i, rfl, aM, h, hi, q⟩ := h
  have hw := h.ex
  obtain ⟨ls, hl, hls, _⟩ := h.xwl
  obtain ⟨xw, hww, rww⟩ := h.xww
  refine ⟨_, (pss_cons (ps_set (i := 2) sc_law_sector.nd rfl (Or.inl rfl) (pe_dget2 (hu_of hr) (pe_dget (hu_of hr) (pv 0) pe_str (fun _ _ => rfl)) (pv 1) (pe_op op_rep (pe_lst (pa_cons pe_int pa_nil)) pe_int) ⟨rfl, rfl, rfl, rfl⟩))
      (pss_cons (ps_for PassesOwn.never rfl (pi_listK K (pe_dget (hu_of hr) (pv 0) pe_str (fun _ _ => rfl))) (pg_tupK K (n := 2) rfl (pgs_cons (pg_name (i := 3) sc_law_sector.nd rfl (Or.inl rfl)) (pgs_cons (pg_name (i := 4) sc_law_sector.nd rfl (Or.inl rfl)) pgs_nil)))
      (pss_one (ps_if (pt_cmpR op_eq (pv 3) (pv 1) (nomark _)) (pss_one (ps_set (i := 2) sc_law_sector.nd rfl (Or.inl rfl) (pv 4))) pss_nil)))
      (pss_one (ps_ret (pv 2))))), ?_⟩
  walk_at "k"
  rw [wdF_ok] at hw
  walk_at "rd"
  refine rd_dget2 ?_
  walk_at "rd"
  refine ⟨wl, rfl, .inl ⟨ls, .inl hl⟩, ?_⟩
  walk_at "rd"
  refine rd_newL (M := M) aM (by walk_at "all") (by simp) fun p H1 hp e1 h1 _ => ?_
  walk_at "rd"
  refine rd_nrep1 (M := M) (n := 0) (k := ((SEC : Nat) : Int)) (j := SEC) (aM.ext e1) h1 rfl (by decide) (by decide) fun p2 H2 hp2 e2 i2 => ?_
  have e02 := e1.trans e2
  have hl2 := e02.keep _ _ (by simp) hl
  have hgi : d.last[i]? = some (d.last.getD i []) := by rw [List.getD_eq_getElem?_getD, List.getElem?_eq_getElem hi]; rfl
  obtain ⟨v, hv, iv⟩ : ∃ v, (valV ls (.inl (i : Int))).getD (.ref p2) = v ∧ Is M H2 v (nats (d.last.getD i [])) := by
    rcases hls i _ hgi with ⟨v, z1, z2⟩ | ⟨z1, z2⟩
    · exact ⟨v, by rw [z1]; rfl, z2.mono e02.any⟩
    · exact ⟨.ref p2, by rw [z1]; rfl, by rw [z2]; exact i2⟩
  refine ⟨valV ls (.inl (i : Int)), DGet.k (k := .inl (i : Int)) hl2, ?_⟩
  rw [hv]
  have hw2 := e02.keep _ _ (by simp) hw
  have iw2 : IsAll M H2 xw (d.wait.map wtd) := rww.mono e02.any
  have hww2 := e02.keep _ _ (by simp) hww
  walk_at "rd"
  have hlt : ∀ k, i < (seenOf d.last (d.wait.take k)).length := fun k => by rw [seen_len]; exact hi
  refine for_list (xs := xw) (fun j σ H' => ∃ (v : V) (u3 u4 : Option V), σ = [some (.ref w), some (.int (i : Int)), some v, u3, u4] ∧ H' = H2 ∧ Is M H2 v (nats ((seenOf d.last (d.wait.take j)).getD i []))) ⟨v, none, none, rfl, rfl, iv⟩ (fun j σ H' _ ⟨_, _, _, _, e, _⟩ => by rw [e]; exact SqL.of hww2) (fun j x σ H' hx pv => ?_) fun σ H' pv => ?_
  · obtain ⟨v, u3, u4, rfl, rfl, iv⟩ := pv
    obtain ⟨dt, hdt, ix⟩ := iw2.got hx
    rw [List.getElem?_map] at hdt
    obtain ⟨⟨t1, t2⟩, ht, rfl⟩ : ∃ t, d.wait[j]? = some t ∧ dt = wtd t := by
      cases ht : d.wait[j]? with
      | none => rw [ht] at hdt; cases hdt
      | some t => rw [ht] at hdt; exact ⟨t, rfl, (Option.some.inj hdt).symm⟩
    obtain ⟨px, us, rfl, npx, hpx, rpx⟩ := ix.tupleV
    cases rpx with
    | @cons v1 vr _ _ k1 rpx =>
    cases rpx with
    | @cons v2 vr _ _ k2 rpx =>
    cases rpx
    cases k1
    walk_at "rd"
    have es := seen_step (last := d.last) ht
    rw [es, getD_set (hlt j)]
    refine rd_ite (fun c => ?_) (fun c => ?_)
    · have c' := of_decide_eq_true c
      walk_at "rd"
      exact ⟨_, _, _, rfl, rfl, by rw [if_pos (show t1 = i by omega)]; exact k2⟩
    · have c' := of_decide_eq_false c
      walk_at "rd"
      exact ⟨_, _, _, rfl, rfl, by rw [if_neg (show ¬ t1 = i by omega)]; exact iv⟩
  · obtain ⟨v, u3, u4, rfl, rfl, iv⟩ := pv
    have et : d.wait.take xw.length = d.wait := List.take_of_length_le (by rw [iw2.length, List.length_map]; exact Nat.le_refl _)
    rw [et] at iv
    obtain ⟨a, zs, rfl, _⟩ := iv.listV
    walk_at "rd"
    exact q a _ e02 iv
end
/-! ### everything goes along -/
section
variable {K : PySem.W.Frag} {n : Nat} {N M M' : List Addr} {H H' : Hp} {p l s la se wa w wl ww wc r : Addr} {d d' : Dk}
/-- all names -/
abbrev nms (p l s la se wa w wl ww wc : Addr) : List Addr := [p, l, s, la, se, wa, w, wl, ww, wc]
theorem All.go (h : All K n M H p l s la se wa w wl ww wc d) (g : Gro N M H M' H') (hN : ∀ b ∈ N, b ∈ M) (hn : ∀ b ∈ N, b ∉ nms p l s la se wa w wl ww wc) : All K n M' H' p l s la se wa w wl ww wc d := by
  have f : ∀ b ∈ nms p l s la se wa w wl ww wc, b ∉ N := fun b hb z => hn b z hb
  exact ⟨h.st.ext g.ext (f _ (by simp)) (f _ (by simp)), h.dk.go g hN (f _ (by simp)) (f _ (by simp)) (f _ (by simp)) (f _ (by simp)), h.wd.go g hN (f _ (by simp)) (f _ (by simp)) (f _ (by simp)) (f _ (by simp)), g.al, g.sub _ h.mem, h.len, h.sz, h.ix, h.off, h.ne, h.sec⟩
theorem All.new (h : All K n M H p l s la se wa w wl ww wc d) (e : Ext [] H H') : All K n M H' p l s la se wa w wl ww wc d := h.go (Gro.of e h.al) (by simp) (by simp)
theorem All.pd (h : All K n M H p l s la se wa w wl ww wc d) (S : StAt H' p l) (e : Ext [p] H H') : All K n M H' p l s la se wa w wl ww wc d := by
  obtain ⟨⟨k1, k2, k3, k4, k5, k6⟩, ⟨k7, k8⟩, ⟨k9, k10⟩, ⟨k11, k12⟩, ⟨k13, k14⟩, ⟨k15, k16⟩⟩ := h.ki
  obtain ⟨⟨a1, a2, a3, a4⟩, ⟨b1, b2, b3, b4⟩, ⟨c1, c2, c3, c4⟩, ⟨d1, d2, d3, d4⟩⟩ := h.ne
  have g : Gro [p] M H M H' := Gro.of e h.al
  have hp : ∀ b ∈ [p], b ∈ M := by simpa using h.mem
  exact ⟨S, h.dk.go g hp (by simpa using k5) (by simpa using a3) (by simpa using b3) (by simpa using c3), h.wd.go g hp (by simpa using k13) (by simpa using k15) (by simpa using d1) (by simpa using d3), g.al, h.mem, h.len, h.sz, h.ix, h.off, h.ne, h.sec⟩
theorem All.fresh (h : All K n M H p l s la se wa w wl ww wc d) (hr : H r = none) : r ∉ nms p l s la se wa w wl ww wc := by
  have q : ∀ {b o}, H b = some o → b ≠ r := fun h => ne_of_none h hr
  obtain ⟨dx, hs⟩ := h.dk.ex
  obtain ⟨x1, h1, _⟩ := h.dk.xla
  obtain ⟨x2, h2, _⟩ := h.dk.xse
  obtain ⟨x3, h3, _⟩ := h.dk.xwa
  have h4 := h.wd.ex
  obtain ⟨ls, h5, _⟩ := h.wd.xwl
  obtain ⟨x6, h6, _⟩ := h.wd.xww
  have h7 := h.wd.xwc
  obtain ⟨⟨ns, i, m, s0, h8, h9, _⟩, _⟩ := h.st
  intro z
  simp only [List.mem_cons, List.not_mem_nil, or_false] at z
  rcases z with z | z | z | z | z | z | z | z | z | z
  · exact q h8 z.symm
  · exact q h9 z.symm
  · exact q hs z.symm
  · exact q h1 z.symm
  · exact q h2 z.symm
  · exact q h3 z.symm
  · exact q h4 z.symm
  · exact q h5 z.symm
  · exact q h6 z.symm
  · exact q h7 z.symm
theorem Gro.one (a : Al M H) (e : Ext [] H H') (hr : H r = none) (hr' : H' r ≠ none) : Gro [] M H (r :: M) H' := ⟨fun b h => List.mem_cons_of_mem _ h, fun b h => by
  rcases List.mem_cons.mp h with rfl | h
  · exact .inr hr
  · exact .inl h, e, .cons hr' (a.ext e)⟩
theorem All.grow (h : All K n M H p l s la se wa w wl ww wc d) (e : Ext [] H H') (hr : H r = none) (hr' : H' r ≠ none) : All K n (r :: M) H' p l s la se wa w wl ww wc d :=
  h.go (Gro.one h.al e hr hr') (by simp) (by simp)
/-- what is nobody's may change -/
theorem All.own {o : HO} (h : All K n M H p l s la se wa w wl ww wc d) (hr : r ∈ M) (hf : r ∉ nms p l s la se wa w wl ww wc) : All K n M (upd H r o) p l s la se wa w wl ww wc d :=
  h.go (N := [r]) (Gro.of (.set (List.mem_cons_self ..)) h.al) (by simpa using hr) (by simpa using hf)
theorem keepP {H H' : Hp} {p q : Addr} {o : HO} (e : Ext [p] H H') (hne : q ≠ p) (h : H q = some o) : H' q = some o := e.keep _ _ (by simpa using hne) h
theorem oper_off (h : d.on = false → d.left = none) : (oper d).on = false → (oper d).left = none := by
  obtain ⟨last, wait, on, left, fl, wr, sy⟩ := d
  cases on with
  | false =>
    intro _
    have := h rfl
    unfold oper trip lose
    simpa using this
  | true =>
    unfold oper trip lose
    cases left with
    | none => simp
    | some m =>
      cases m with
      | zero => simp
      | succ m => simp
theorem oper_wr (d : Dk) : (oper d).wr = d.wr ∧ (oper d).sy = d.sy := by
  unfold oper trip
  split <;> split <;> exact ⟨rfl, rfl⟩
theorem oper_seen (d : Dk) : (oper d).seen = d.seen := by
  unfold Dk.seen
  rw [(oper_last d).1, (oper_last d).2]
end
def sp_deed (K : PySem.W.Frag) : Sp := fun vs H Q _ => ∃ (n : Nat) (M : List Addr) (p l s la se wa w wl ww wc : Addr) (d : Dk), vs = [.ref p, .ref w, .ref s] ∧ All K n M H p l s la se wa w wl ww wc d ∧ d.wr + 1 ≤ 10000 ∧
  ∀ M' la' se' wa' ww' d' H', All K n M' H' p l s la' se' wa' w wl ww' wc d' → d'.wr ≤ d.wr + 1 → Q (.bl true) H'
section
variable {P : Program} {w : World} {K : PySem.W.Frag} {mg : Str → Option Value} {base : Heap}
theorem ok_law_write (T : Txt K mg) : Cal P w K mg base 4 "_law_write" (sp_deed K) [] := by
  refine T.f_law_write.cal sc_law_write bd_law_write (fun vs H Q E h => ?_) fun f cdv A outer s0 H vs Q E hr h => ?_
  · obtain ⟨n, M, p, l, s, la, se, wa, w, wl, ww, wc, d, rfl, _⟩ := h; rfl
  obtain ⟨n, M, p, l, s, la, se, wa, w, wl, ww, wc, d, rfl, h, hwr, q⟩ := h
  obtain ⟨z1, z2, _⟩ := h.sz
  have hw := h.wd.ex
  rw [wdF_ok] at hw
  refine ⟨_, (pss_cons (ps_set (i := 3) sc_law_write.nd rfl (Or.inl rfl) (pe_ix (ix_listK K) (pe_lst (pa_cons pe_int (pa_cons pe_int (pa_cons (pe_op op_sub (pe_dget (hu_of hr) (pv 1) pe_str (fun _ _ => rfl)) pe_int) (pa_cons (pe_c (ok_law_next T) hr (by decide) rfl (pa_cons (pv 0) (pa_cons (pe_dget (hu_of hr) (pv 1) pe_str (fun _ _ => rfl)) pa_nil))) pa_nil))))) (pe_c (ok_law_next T) hr (by decide) rfl (pa_cons (pv 0) (pa_cons pe_int pa_nil))) (fun _ _ => rfl)))
      (pss_cons (ps_set (i := 4) sc_law_write.nd rfl (Or.inr rfl) (pe_c (ok_law_next T) hr (by decide) rfl (pa_cons (pv 0) (pa_cons pe_int pa_nil))))
      (pss_cons (ps_set (i := 5) sc_law_write.nd rfl (Or.inr rfl) (pe_c (ok_law_next T) hr (by decide) rfl (pa_cons (pv 0) (pa_cons pe_int pa_nil))))
      (pss_cons (ps_setLc (i := 6) (own := [("k", 7)]) (g := gName 7) (tt := tYes) rfl sc_law_write.nd rfl rfl (sw_true rfl rfl rfl (by decide +kernel)) (pi_range1 rfl T.z_range (pa_cons pe_int pa_nil)) (blkOk_by (own := [("k", 7)]) (N := nm_law_write) (sc := defScope s_law_write) (by decide +kernel)) (fun _ _ _ _ _ => (pg_name (i := 7) sc_law_write.nd rfl (Or.inl rfl))) (fun _ _ _ _ _ => pts_nil) (fun _ _ _ _ _ => (pe_op op_mod (pe_op op_add (pv 4) (pe_op op_mul (pv 5) (pv 7))) pe_int)))
      (pss_cons (ps_asg (pe_c (ok_law_next T) hr (by decide) rfl (pa_cons (pv 0) (pa_cons pe_int pa_nil))) (pg_sub (pv 6) (pe_c (ok_law_next T) hr (by decide) rfl (pa_cons (pv 0) (pa_cons pe_int pa_nil))) set_list))
      (pss_cons (ps_set (i := 8) sc_law_write.nd rfl (Or.inl rfl) (pe_c (ok_law_operate T) hr (by decide) rfl (pa_cons (pv 1) pa_nil)))
      (pss_cons (ps_set (i := 9) sc_law_write.nd rfl (Or.inl rfl) (pe_callTy (call_listK K) (by rfl) T.z_list (by decide +kernel) (pa_cons (pv 6) pa_nil)))
      (pss_cons (ps_try_only rfl rfl ⟨rfl, by decide, .inl T.g_PowerOff⟩ takes0 (fun W pn xe tk _ => (pss_one (ps_set (i := 10) sc_law_write.nd rfl (Or.inl rfl) (pe_cmpR op_isNq (pe_mtW (ok_Disk_write T) hr (by decide) tk (pv 2) (pa_cons (pv 3) (pa_cons (pv 9) pa_nil))) pe_non (nomark _)))))
      (fun a oe cls d pn hz hf => (pss_given (p := cls = .ref (He.ga K "PowerOff") ∧ d = none) fun q => (pss_one (ps_ret (pe_not (pv 8)))))))
      (pss_cons (ps_if (pt_cmpR (op_neDK K hr.units) (pv 9) (pv 6) (nomark _)) (pss_one (ps_ret pe_bl)) pss_nil)
      (pss_cons (ps_asg (pe_op op_mod (pe_op op_add (pe_ix (ix_listK K) (pv 9) pe_int (fun _ _ => rfl)) pe_int) pe_int) (pg_sub (pv 9) pe_int set_list))
      (pss_cons (ps_expr (pe_bm PySem.F.plainAttrs_list PySem.F.slot_list_append PySem.F.type_list_append mt_append (pe_dget (hu_of hr) (pv 1) pe_str (fun _ _ => rfl)) (pa_cons (pe_tup (pa_cons (pv 3) (pa_cons (pv 6) pa_nil))) pa_nil)))
      (pss_cons (ps_augS (pe_dget (hu_of hr) (pv 1) pe_str (fun _ _ => rfl)) pe_int (get_listK K) pe_int ip_add set_list)
      (pss_one (ps_ret (pe_and (pv 10) (pe_one (pv 8))))))))))))))))), ?_⟩
  walk_at "k"
  walk_at "rd"
  refine rd_next h.st (by omega) (lim_small (by omega) (by omega)) fun v H1 hv s1 e1 => ?_
  have A1 := h.pd s1 e1
  walk_at "rd"
  refine rd_newL (M := []) .nil (by walk_at "all") (by simp) fun r1 H2 hr1 e2 h2 _ => ?_
  have A2 := A1.new e2
  walk_at "rd"
  refine rd_next A2.st (by decide) (by decide) fun v3 H3 hv3 s3 e3 => ?_
  have A3 := A2.pd s3 e3
  have h3 := keepP e3 (s1.ne_new hr1) h2
  walk_at "rd"
  refine rd_pickV (P := fun x => ∃ i : Nat, x = .int i ∧ i < n) h3 (j := v3) rfl (by simp; omega) (fun x hx => ?_) ?_
  · simp only [List.mem_cons, List.not_mem_nil, or_false] at hx
    rcases hx with rfl | rfl | rfl | rfl
    · exact ⟨0, rfl, by omega⟩
    · exact ⟨1, rfl, by omega⟩
    · exact ⟨n - 1, by congr 1; omega, by omega⟩
    · exact ⟨v, rfl, by omega⟩
  rintro x ⟨i, rfl, hi⟩
  walk_at "rd"
  refine rd_next A3.st (by decide) (by decide) fun a H4 ha s4 e4 => ?_
  have A4 := A3.pd s4 e4
  walk_at "rd"
  refine rd_next A4.st (by decide) (by decide) fun b H5 hb s5 e5 => ?_
  have A5 := A4.pd s5 e5
  clear A1 A2 A3 A4 e1 e2 e3 e4 e5 s1 s3 s4 h2 h3 hr1
  walk_at "rd"
  intro D hD
  refine q_lcR (M := M) (fun i => .int (((a + b * i) % 256 : Nat) : Int)) A5.al hD (by decide) (fun _ => rfl) (fun i H' hi _ _ R kk => ?_) fun H6 e6 r6 => ?_
  · walk_at "rd"
    have z := kk (.int (((a + b * i) % 256 : Nat) : Int)) _ .refl (Is.int _)
    rw [show ((a : Int) + (b : Int) * (0 + (i : Int))) % 256 = (((a + b * i) % 256 : Nat) : Int) by rw [Int.zero_add]; norm_cast]
    exact z
  have A6 := A5.new e6
  have f5 := A5.fresh hD
  have a5 := A5.mem
  obtain ⟨x0, hx0, r6'⟩ : ∃ x0 : List Nat, x0.length = 64 ∧ Is M H6 (.ref D) (nats x0) := ⟨(List.range 64).map fun i => (a + b * i) % 256, by simp, by rw [nats, List.map_map]; exact r6⟩
  clear r6
  walk_at "rd"
  refine rd_next A6.st (by decide) (by decide) fun c H7 hc s7 e7 => ?_
  have A7 := A6.pd s7 e7
  have r7 := r6'.mono (e7.more (by simpa using A6.mem))
  walk_at "rd"
  refine rd_next A7.st (by decide) (by decide) fun g H8 hg s8 e8 => ?_
  have A8 := A7.pd s8 e8
  have r8 := r7.mono (e8.more (by simpa using A7.mem))
  have hD8 := natsV' r8
  obtain ⟨_, hDM, _⟩ := r8.list
  walk_at "rd"
  refine rd_setL (j := g) hD8 (ixN_nat (by simp; omega)) ?_
  have e59 : Ext [p] H5 (upd H8 D (.lst ((nV x0).set g (.int (c : Int))))) := ((e6.any.trans e7).trans e8).mut hD
  have s9 := A5.st.updN (o := .lst ((nV x0).set g (.int (c : Int)))) hD s8
  have A9 := A5.pd s9 e59
  have hx1 : (nV x0).set g (.int (c : Int)) = nV (x0.set g c) := by rw [nV, nV, List.map_set]
  have hD9 : (upd H8 D (.lst ((nV x0).set g (.int (c : Int))))) D = some (.lst (nV (x0.set g c))) := by rw [hx1]; exact upd_same
  have l1 : (x0.set g c).length = 64 := by rw [List.length_set]; exact hx0
  generalize upd H8 D (.lst ((nV x0).set g (.int (c : Int)))) = H9 at A9 hD9 ⊢
  generalize x0.set g c = x1 at hD9 l1
  clear s9 e59 hx1 hD8 s8 e8 s7 e7 e6 r8 r6' r7 A8 A7 A6 A5 hD f5 a5 hw
  have aM := A9.al
  have ki := A9.ki
  have hw := A9.wd.ex
  walk_at "rd"
  refine ⟨M, n, w, wl, ww, wc, d, rfl, aM, A9.wd, fun H10 e10 w10 => ?_⟩
  have wM := A9.wd.mem.1
  have hD10 := e10.keep D _ (by simpa using fun z => hDM (by rw [z]; exact wM)) hD9
  have g10 : Gro [w] M H9 M H10 := Gro.of e10 aM
  have dk10 := A9.dk.go g10 (by simpa using wM) (by simpa using ki.1.1) (by simpa using ki.2.1.1) (by simpa using ki.2.2.1.1) (by simpa using ki.2.2.2.1.1)
  have s10 := A9.st.ext e10 (by simpa using ki.2.2.2.2.1.1.symm) (by simpa using ki.2.2.2.2.1.2.symm)
  have al10 := aM.ext e10
  walk_at "rd"
  refine rd_listL (SqL.of hD10) fun pa hpa => ?_
  have e11 : Ext [] H10 (upd H10 pa (.lst (nV x1))) := .new hpa
  have hP : (upd H10 pa (.lst (nV x1))) pa = some (.lst (nV x1)) := upd_same
  generalize upd H10 pa (.lst (nV x1)) = H11 at e11 hP ⊢
  have g11 := Gro.one al10 e11 hpa (some_ne hP)
  have dk11 := dk10.go g11 (by simp) (by simp) (by simp) (by simp) (by simp)
  have wd11 := w10.go g11 (by simp) (by simp) (by simp) (by simp) (by simp)
  have s11 := s10.ext0 e11
  have hD11 := e11.keep D _ (by simp) hD10
  obtain ⟨dx, hx⟩ := dk11.ex
  rw [dkF_ok] at hx
  walk_at "rd"
  have fP := A9.fresh (e10.free hpa)
  have ol := oper_last d
  have ow := oper_wr d
  have os := oper_seen d
  have hwl : d.wait.length ≤ d.wr := by
    obtain ⟨ls, _, _, z⟩ := A9.wd.xwl
    omega
  have sM := A9.dk.mem
  obtain ⟨⟨ki1, ki2, ki3, ki4, ki5, ki6⟩, ⟨ki7, ki8⟩, ⟨ki9, ki10⟩, ⟨ki11, ki12⟩, ⟨ki13, ki14⟩, ⟨ki15, ki16⟩⟩ := ki
  obtain ⟨⟨a1, a2, a3, a4⟩, ⟨b1, b2, b3, b4⟩, ⟨c1, c2, c3, c4⟩, ⟨d1, d2, d3, d4⟩⟩ := A9.ne
  refine ⟨pa :: M, s, la, se, wa, d, i, pa, x1, rfl, g11.al, dk11, hP, fun z => fP (by simp [z]), fun z => fP (by simp [z]), fun z => fP (by simp [z]), by rw [A9.len]; exact hi, by omega, fun H12 hon e12 k12 => ?_, fun H12 hoff e12 k12 => ?_⟩
  · have g12 : Gro [s, se, wa] (pa :: M) H11 (pa :: M) H12 := Gro.of e12 g11.al
    have hN : ∀ b ∈ [s, se, wa], b ∈ pa :: M := by simp [sM.1, sM.2.2.1, sM.2.2.2]
    have wd12 := wd11.go g12 hN (by simp [ki1.symm, ki9.symm, ki11.symm]) (by simp [ki2.symm, ki10.symm, ki12.symm]) (by simp [ki3.symm, b1.symm, c1.symm]) (by simp [ki4.symm, b2.symm, c2.symm])
    have s12 := s11.ext e12 (by simp [ki5.symm, b3.symm, c3.symm]) (by simp [ki6.symm, b4.symm, c4.symm])
    have hP12 := e12.keep pa _ (by simp at fP ⊢; simp [fP]) hP
    have hD12 := e12.keep D _ (fun z => by
      have := hN _ z
      rcases List.mem_cons.mp this with rfl | z
      · rw [hpa] at hD10; cases hD10
      · exact hDM z) hD11
    have rD12 : Is (pa :: M) H12 (.ref D) (nats x1) := .lst (fun z => by
      rcases List.mem_cons.mp z with rfl | z
      · rw [hpa] at hD10; cases hD10
      · exact hDM z) hD12 (nats_V x1)
    rw [hon]
    walk_at "rd"
    refine rd_neD (M := []) (M' := []) (.lst (by simp) hP12 (nats_V x1)) (.lst (by simp) hD12 (nats_V x1)) (sh_nats (n := 0) x1).ok (sh_nats (n := 0) x1).ok ?_
    rw [eqv_nats, decide_eq_true rfl]
    obtain ⟨y, yr, exy⟩ : ∃ y yr, x1 = y :: yr := by
      cases x1 with
      | nil => cases l1
      | cons y yr => exact ⟨y, yr, rfl⟩
    have hPy : H12 pa = some (.lst (.int (y : Int) :: nV yr)) := by rw [hP12, exy]; rfl
    walk_at "rd"
    refine rd_ixL (SqL.of hPy) (atI_nat (xs := V.int (y : Int) :: nV yr) (j := 0) (v := .int (y : Int)) rfl) ?_
    walk_at "rd"
    refine rd_setL (j := 0) hPy (ixN_nat (i := 0) (by simp)) ?_
    have g13 : Gro [pa] (pa :: M) H12 (pa :: M) (upd H12 pa (.lst ((V.int (y : Int) :: nV yr).set 0 (.int (((y : Int) + 1) % 256))))) := Gro.of ext1 g12.al
    have hNp : ∀ b ∈ [pa], b ∈ pa :: M := by simp
    simp only [List.mem_cons, List.not_mem_nil, or_false, not_or] at fP
    obtain ⟨fP1, fP2, fP3, fP4, fP5, fP6, fP7, fP8, fP9, fP10⟩ := fP
    have k13 := k12.go g13 hNp (by simpa using fun z => fP3 z.symm) (by simpa using fun z => fP4 z.symm) (by simpa using fun z => fP5 z.symm) (by simpa using fun z => fP6 z.symm)
    have wd13 := wd12.go g13 hNp (by simpa using fun z => fP7 z.symm) (by simpa using fun z => fP8 z.symm) (by simpa using fun z => fP9 z.symm) (by simpa using fun z => fP10 z.symm)
    have s13 := s12.ext g13.ext (by simpa using fun z => fP1 z.symm) (by simpa using fun z => fP2 z.symm)
    have rD13 := g13.is hNp rD12
    have al13 := g13.al
    generalize upd H12 pa (.lst ((V.int (y : Int) :: nV yr).set 0 (.int (((y : Int) + 1) % 256)))) = H13 at k13 wd13 s13 rD13 al13 ⊢
    have hw13 := wd13.ex
    rw [wdF_ok] at hw13
    obtain ⟨xw, hww, rww⟩ := wd13.xww
    obtain ⟨ls, hls, lok, hll⟩ := wd13.xwl
    walk_at "rd"
    refine rd_app hww ?_
    walk_at "rd"
    refine rd_newT (M := pa :: M) al13 (by walk_at "all") (by simp) fun t H14 ht e14 _ i14 => ?_
    refine ⟨xw, e14.keep _ _ (by simp) hww, szl' (by rw [rww.length, List.length_map, ol.2]; omega), ?_⟩
    have kd := wd13.kinds
    have kn := wd13.ne
    have hww14 := e14.keep _ _ (by simp) hww
    have hw15 : (upd H14 ww (.lst (xw ++ [.ref t]))) w = _ := (upd_ne kd.1.symm).trans (e14.keep _ _ (by simp) hw13)
    have hc15 : (upd H14 ww (.lst (xw ++ [.ref t]))) wc = _ := (upd_ne kn.2.symm).trans (e14.keep _ _ (by simp) wd13.xwc)
    walk_at "rd"
    show Q (.bl true) (upd (upd H14 ww (.lst (xw ++ [.ref t]))) wc (.lst [V.int (((oper d).wr : Int) + 1), .int ((oper d).sy : Int)]))
    have e16 : Ext [ww, wc] H13 (upd (upd H14 ww (.lst (xw ++ [.ref t]))) wc (.lst [V.int (((oper d).wr : Int) + 1), .int ((oper d).sy : Int)])) := (e14.any.trans (ext1.more (by simp))).trans (ext1.more (by simp))
    have g16 := Gro.of e16 al13
    have wm := wd13.mem
    have hN16 : ∀ b ∈ [ww, wc], b ∈ pa :: M := List.forall_mem_cons.mpr ⟨wm.2.2.1, List.forall_mem_cons.mpr ⟨wm.2.2.2, by simp⟩⟩
    have k16 := k13.go g16 hN16 (by simp [ki3, ki4]) (by simp [a1, a2]) (by simp [b1, b2]) (by simp [c1, c2])
    have s16 := s13.ext e16 (by simp [d1.symm, d3.symm]) (by simp [d2.symm, d4.symm])
    have e14m : Ext (pa :: M) H14 (upd (upd H14 ww (.lst (xw ++ [.ref t]))) wc (.lst [V.int (((oper d).wr : Int) + 1), .int ((oper d).sy : Int)])) := Ext.trans (.set wm.2.2.1) (.set wm.2.2.2)
    have wd16 : WdAt SEC n (pa :: M) (upd (upd H14 ww (.lst (xw ++ [.ref t]))) wc (.lst [V.int (((oper d).wr : Int) + 1), .int ((oper d).sy : Int)])) w wl ww wc (wrt (oper d) i x1) := by
      refine ⟨(upd_ne kd.2.1.symm).trans hw15, ⟨ls, ?_, ?_, ?_⟩, ⟨_, (upd_ne kn.2).trans upd_same, ?_⟩, ?_, wm, kn⟩
      · rw [upd_ne kd.2.2.2.symm, upd_ne kd.2.2.1.symm]
        exact e14.keep _ _ (by simp) hls
      · exact lok.mono (e16.more hN16)
      · show ls.length + ((oper d).wait ++ [(i, x1)]).length ≤ (oper d).wr + 1
        rw [List.length_append, List.length_singleton]
        omega
      · show IsAll _ _ (xw ++ [.ref t]) (((oper d).wait ++ [(i, x1)]).map wtd)
        rw [List.map_append]
        exact (rww.mono (e16.more hN16)).append (.one (i14.mono e14m))
      · rw [upd_same]
        rfl
    have hin0 : (oper d).last.length = n := by rw [ol.1, A9.len]
    refine q (pa :: M) la se wa ww (wrt (oper d) i x1) _ ⟨s16, k16, wd16, g16.al, List.mem_cons_of_mem _ A9.mem, hin0, ?_, ?_, ?_, A9.ne, ?_⟩ ?_
    · exact ⟨z1, z2, by show (oper d).wr + 1 ≤ 10000; omega⟩
    · intro t ht
      rcases List.mem_append.mp ht with ht | ht
      · rw [ol.2] at ht
        exact A9.ix t ht
      · rw [List.mem_singleton.mp ht]
        exact hi
    · exact fun z => oper_off A9.off z
    · refine ⟨fun x hx => A9.sec.1 x (by rw [← ol.1]; exact hx), fun t ht => ?_⟩
      rcases List.mem_append.mp ht with ht | ht
      · rw [ol.2] at ht
        exact A9.sec.2 t ht
      · rw [List.mem_singleton.mp ht]
        exact l1
    · show (oper d).wr + 1 ≤ _
      omega
  · rw [hoff]
    refine ⟨true, T.e_PowerOff_PowerOff, fun _ a ha => ?_, fun z => nomatch z⟩
    refine ⟨⟨rfl, rfl⟩, ?_⟩
    walk_at "rd"
    have g12 : Gro [s] (pa :: M) H11 (pa :: M) H12 := Gro.of e12 g11.al
    have hN : ∀ b ∈ [s], b ∈ pa :: M := by simp [sM.1]
    have wd12 := wd11.go g12 hN (by simp [ki1.symm]) (by simp [ki2.symm]) (by simp [ki3.symm]) (by simp [ki4.symm])
    have s12 := s11.ext e12 (by simp [ki5.symm]) (by simp [ki6.symm])
    exact q (pa :: M) la se wa ww (oper d) H12 ⟨s12, k12, wd12, g12.al, List.mem_cons_of_mem _ A9.mem, by rw [ol.1]; exact A9.len, by rw [ow.1]; exact A9.sz, by rw [ol.2]; exact A9.ix, oper_off A9.off, A9.ne, by rw [ol.1, ol.2]; exact A9.sec⟩ (by rw [ow.1]; omega)
end
def sp_dsy (K : PySem.W.Frag) : Sp := fun vs H Q _ => ∃ (n : Nat) (M : List Addr) (p l s la se wa w wl ww wc : Addr) (d : Dk), vs = [.ref w, .ref s] ∧ All K n M H p l s la se wa w wl ww wc d ∧ d.wr + 1 ≤ 10000 ∧
  ∀ M' la' se' wa' ww' d' H', All K n M' H' p l s la' se' wa' w wl ww' wc d' → d'.wr ≤ d.wr + 1 → Q (.bl true) H'
section
variable {P : Program} {w : World} {K : PySem.W.Frag} {mg : Str → Option Value} {base : Heap}
theorem ok_law_sync (T : Txt K mg) : Cal P w K mg base 4 "_law_sync" (sp_dsy K) [] := by
  refine T.f_law_sync.cal sc_law_sync bd_law_sync (fun vs H Q E h => ?_) fun f cdv A outer s0 H vs Q E hr h => ?_
  · obtain ⟨n, M, p, l, s, la, se, wa, w, wl, ww, wc, d, rfl, _⟩ := h; rfl
  obtain ⟨n, M, p, l, s, la, se, wa, w, wl, ww, wc, d, rfl, A9, hwr, q⟩ := h
  obtain ⟨z1, z2, _⟩ := A9.sz
  have aM := A9.al
  have ki := A9.ki
  have wM := A9.wd.mem.1
  have ol := oper_last d
  have ow := oper_wr d
  have os := oper_seen d
  have sM := A9.dk.mem
  have hwl : d.wait.length ≤ d.wr := by
    obtain ⟨ls, _, _, z⟩ := A9.wd.xwl
    omega
  obtain ⟨⟨ki1, ki2, ki3, ki4, ki5, ki6⟩, ⟨ki7, ki8⟩, ⟨ki9, ki10⟩, ⟨ki11, ki12⟩, ⟨ki13, ki14⟩, ⟨ki15, ki16⟩⟩ := ki
  obtain ⟨⟨a1, a2, a3, a4⟩, ⟨b1, b2, b3, b4⟩, ⟨c1, c2, c3, c4⟩, ⟨d1, d2, d3, d4⟩⟩ := A9.ne
  refine ⟨_, (pss_cons (ps_set (i := 2) sc_law_sync.nd rfl (Or.inl rfl) (pe_c (ok_law_operate T) hr (by decide) rfl (pa_cons (pv 0) pa_nil)))
      (pss_cons (ps_try_only rfl rfl ⟨rfl, by decide, .inl T.g_PowerOff⟩ takes0 (fun W pn xe tk _ => (pss_one (ps_set (i := 3) sc_law_sync.nd rfl (Or.inl rfl) (pe_cmpR op_isNq (pe_mtW0 (ok_Disk_sync T) hr (by decide) tk (pv 1)) pe_non (nomark _)))))
      (fun a oe cls d pn hz hf => (pss_given (p := cls = .ref (He.ga K "PowerOff") ∧ d = none) fun q => (pss_one (ps_ret (pe_not (pv 2)))))))
      (pss_cons (ps_for PassesOwn.never rfl (pi_listK K (pe_dget (hu_of hr) (pv 0) pe_str (fun _ _ => rfl))) (pg_tupK K (n := 2) rfl (pgs_cons (pg_name (i := 4) sc_law_sync.nd rfl (Or.inl rfl)) (pgs_cons (pg_name (i := 5) sc_law_sync.nd rfl (Or.inl rfl)) pgs_nil)))
      (pss_one (ps_dput (hu_of hr) (pe_dget (hu_of hr) (pv 0) pe_str (fun _ _ => rfl)) (pv 4) (pv 5) rfl)))
      (pss_cons (ps_dput (hu_of hr) (pv 0) pe_str (pe_lst pa_nil) rfl)
      (pss_cons (ps_augS (pe_dget (hu_of hr) (pv 0) pe_str (fun _ _ => rfl)) pe_int (get_listK K) pe_int ip_add set_list)
      (pss_one (ps_ret (pe_and (pv 3) (pe_one (pv 2)))))))))), ?_⟩
  walk_at "k"
  walk_at "rd"
  refine ⟨M, n, w, wl, ww, wc, d, rfl, aM, A9.wd, fun H1 e1 w1 => ?_⟩
  have g1 : Gro [w] M H M H1 := Gro.of e1 aM
  have dk1 := A9.dk.go g1 (by simpa using wM) (by simpa using ki1) (by simpa using ki7) (by simpa using ki9) (by simpa using ki11)
  have s1 := A9.st.ext e1 (by simpa using ki13.symm) (by simpa using ki14.symm)
  have al1 := aM.ext e1
  obtain ⟨dx, hx⟩ := dk1.ex
  rw [dkF_ok] at hx
  walk_at "rd"
  refine ⟨M, s, la, se, wa, d, rfl, al1, dk1, fun M' la' wa' H2 hon hla' hwa' hM' g2 k2 => ?_, fun H2 hoff e2 k2 => ?_⟩
  · rw [hon]
    have hN : ∀ b ∈ [s], b ∈ M := by simp [sM.1]
    have wd2 := w1.go g2 hN (by simp [ki1.symm]) (by simp [ki2.symm]) (by simp [ki3.symm]) (by simp [ki4.symm])
    have s2 := s1.ext g2.ext (by simp [ki5.symm]) (by simp [ki6.symm])
    have fla := A9.fresh (e1.free hla')
    have fwa := A9.fresh (e1.free hwa')
    have al2 := g2.al
    have hw2 := wd2.ex
    rw [wdF_ok] at hw2
    obtain ⟨xw, hww, rww⟩ := wd2.xww
    obtain ⟨ls, hls, lok, hll⟩ := wd2.xwl
    have kd := wd2.kinds
    have kn := wd2.ne
    have wm := wd2.mem
    walk_at "rd"
    have wlM : ∀ b ∈ [wl], b ∈ M' := by simpa using wm.2.1
    have lt' : ∀ j, (seenOf d.last (d.wait.take j)).length = n := fun j => by rw [seen_len]; exact A9.len
    refine for_list (xs := xw) (fun j σ H' => ∃ (u3 u4 : Option V) (ls' : List (Key × V)), σ = [some (.ref w), some (.ref s), some (.bl true), some (.bl true), u3, u4] ∧ Ext [wl] H2 H' ∧ H' wl = some (.dK ls') ∧ LsOK SEC M' H' ls' (seenOf d.last (d.wait.take j)) ∧ ls'.length ≤ ls.length + j) ⟨none, none, ls, rfl, .refl, hls, by rw [← ol.1]; exact lok, by omega⟩ (fun j σ H' _ ⟨_, _, _, _, e, _⟩ => SqL.of (e.keep _ _ (by simpa using kd.2.2.1) hww)) (fun j x σ H' hx pv => ?_) fun σ H' pv => ?_
    · obtain ⟨u3, u4, ls', rfl, e, hl', lok', hz'⟩ := pv
      obtain ⟨dt, hdt, ix⟩ := rww.got hx
      rw [List.getElem?_map, ol.2] at hdt
      obtain ⟨⟨t1, t2⟩, ht, rfl⟩ : ∃ t, d.wait[j]? = some t ∧ dt = wtd t := by
        cases ht : d.wait[j]? with
        | none => rw [ht] at hdt; cases hdt
        | some t => rw [ht] at hdt; exact ⟨t, rfl, (Option.some.inj hdt).symm⟩
      have ix' := ix.mono (e.more wlM)
      obtain ⟨px, us, rfl, npx, hpx, rpx⟩ := ix'.tupleV
      cases rpx with
      | @cons v1 vr _ _ k1 rpx =>
      cases rpx with
      | @cons v2 vr _ _ kk2 rpx =>
      cases rpx
      cases k1
      have hw' := e.keep _ _ (by simpa using kn.1) hw2
      have hj : j < d.wait.length := (List.getElem?_eq_some_iff.mp ht).1
      walk_at "rd"
      refine rd_dputI hl' (by omega) ?_
      refine ⟨_, _, _, rfl, e.trans ext1, upd_same, ?_, ?_⟩
      · rw [seen_step ht]
        exact (lok'.put kk2).mono (.set wm.2.1)
      · have := length_putK ls' (.inl (t1 : Int)) v2
        show (putK ls' (.inl (t1 : Int)) v2).length ≤ _
        omega
    · obtain ⟨u3, u4, ls', rfl, e, hl', lok', hz'⟩ := pv
      have et : d.wait.take xw.length = d.wait := List.take_of_length_le (by rw [rww.length, List.length_map, ol.2]; exact Nat.le_refl _)
      rw [et] at lok'
      have hw' := e.keep _ _ (by simpa using kn.1) hw2
      have hc' := e.keep _ _ (by simpa using kd.2.2.2) wd2.xwc
      have e3 : Gro [wl] M' H2 M' H' := Gro.of e al2
      walk_at "rd"
      refine rd_newL (M := M') e3.al .nil (by simp) fun v2 H4 hr e4 h4 _ => ?_
      have hw4 := e4.keep _ _ (by simp) hw'
      have hc4 := e4.keep _ _ (by simp) hc'
      walk_at "rd"
      have vf := e.free hr
      have vw : w ≠ v2 := ne_of_none hw' hr
      have vc : wc ≠ v2 := ne_of_none hc' hr
      have hc5 : (upd H4 w (.dK (wdF n wl v2 wc (syn (oper d))))) wc = some (.lst [.int ((oper d).wr : Int), .int ((oper d).sy : Int)]) := (upd_ne kd.2.1).trans hc4
      show rIxL K (.ref wc) (.int 1) (upd H4 w (.dK (wdF n wl v2 wc (syn (oper d))))) _
      refine rd_ixL (SqL.of hc5) (atI_nat (xs := [V.int ((oper d).wr : Int), .int ((oper d).sy : Int)]) (j := 1) (v := .int ((oper d).sy : Int)) rfl) ?_
      walk_at "rd"
      show rSetL (.ref wc) (.int 1) _ (upd H4 w (.dK (wdF n wl v2 wc (syn (oper d))))) _
      refine rd_setL (j := 1) hc5 (ixN_nat (i := 1) (by simp)) ?_
      walk_at "rd"
      show Q (.bl true) (upd (upd H4 w (.dK (wdF n wl v2 wc (syn (oper d))))) wc (.lst [.int ((oper d).wr : Int), .int (((oper d).sy : Int) + 1)]))
      have e4F : Ext [w, wc] H4 (upd (upd H4 w (.dK (wdF n wl v2 wc (syn (oper d))))) wc (.lst [.int ((oper d).wr : Int), .int (((oper d).sy : Int) + 1)])) := .trans (ext1.more (by simp)) (ext1.more (by simp))
      have f1 : (upd (upd H4 w (.dK (wdF n wl v2 wc (syn (oper d))))) wc (.lst [.int ((oper d).wr : Int), .int (((oper d).sy : Int) + 1)])) w = some (.dK (wdF n wl v2 wc (syn (oper d)))) := (upd_ne kd.2.1.symm).trans upd_same
      have f2 : (upd (upd H4 w (.dK (wdF n wl v2 wc (syn (oper d))))) wc (.lst [.int ((oper d).wr : Int), .int (((oper d).sy : Int) + 1)])) wc = some (.lst [.int ((oper d).wr : Int), .int (((oper d).sy : Int) + 1)]) := upd_same
      generalize upd (upd H4 w (.dK (wdF n wl v2 wc (syn (oper d))))) wc (.lst [.int ((oper d).wr : Int), .int (((oper d).sy : Int) + 1)]) = HF at e4F f1 f2 ⊢
      have f3 := e4F.keep v2 _ (by simp [vw.symm, vc.symm]) h4
      have f4 := e4F.keep wl _ (by simp [kn.1.symm, kd.2.2.2.symm]) (e4.keep _ _ (by simp) hl')
      have eF : Ext [w, wc] H' HF := e4.any.trans e4F
      have gF := Gro.cons e3.al eF hr (some_ne f3)
      have gG : Gro [wl, w, wc] M' H2 (v2 :: M') HF := Gro.cons al2 ((e.more (by simp)).trans (eF.more (by simp))) vf (some_ne f3)
      have hNF : ∀ b ∈ [w, wc], b ∈ M' := List.forall_mem_cons.mpr ⟨wm.1, List.forall_mem_cons.mpr ⟨wm.2.2.2, by simp⟩⟩
      have hNG : ∀ b ∈ [wl, w, wc], b ∈ M' := List.forall_mem_cons.mpr ⟨wm.2.1, hNF⟩
      simp only [List.mem_cons, List.not_mem_nil, or_false, not_or] at fla fwa
      obtain ⟨la1, la2, la3, la4, la5, la6, la7, la8, la9, la10⟩ := fla
      obtain ⟨wa1, wa2, wa3, wa4, wa5, wa6, wa7, wa8, wa9, wa10⟩ := fwa
      have kF := k2.go gG hNG (by simp [ki1, ki2, ki4]) (by simp [la7, la8, la10]) (by simp [ki9, ki10, b2]) (by simp [wa7, wa8, wa10])
      have sF := s2.ext gG.ext (by simp [ki13.symm, ki15.symm, d3.symm]) (by simp [ki14.symm, ki16.symm, d4.symm])
      have es : (syn (oper d)).last = seenOf d.last d.wait := os
      have ss : (syn (oper d)).seen = d.seen := os
      have wF : WdAt SEC n (v2 :: M') HF w wl v2 wc (syn (oper d)) := by
        refine ⟨f1, ⟨ls', f4, ?_, ?_⟩, ⟨[], f3, .nil⟩, f2, ⟨by simp [wm.1], by simp [wm.2.1], by simp, by simp [wm.2.2.2]⟩, ⟨kn.1, vc.symm⟩⟩
        · rw [es]
          exact lok'.go gF hNF
        · show ls'.length + 0 ≤ (oper d).wr
          rw [rww.length, List.length_map] at hz'
          omega
      obtain ⟨_, y1, _⟩ := k2.xla
      obtain ⟨_, y2, _⟩ := k2.xse
      obtain ⟨_, y3, _⟩ := k2.xwa
      refine q (v2 :: M') la' se wa' v2 (syn (oper d)) HF ⟨sF, kF, wF, gG.al, List.mem_cons_of_mem _ (g2.sub _ A9.mem), by rw [es]; exact (seen_len _ _).trans A9.len, ⟨z1, z2, by show (oper d).wr ≤ 10000; omega⟩, (fun t ht => nomatch ht), (fun z => oper_off A9.off z), ⟨⟨ne_of_none y1 vf, la10, la1, la2⟩, ⟨ne_of_none y2 vf, b2, b3, b4⟩, ⟨ne_of_none y3 vf, wa10, wa1, wa2⟩, ⟨s2.ne_new vf, fun z => s2.al2 (by rw [← z]; exact vf), d3, d4⟩⟩, ⟨fun x hx => A9.secS x (by rw [← ss]; exact hx), fun t ht => nomatch ht⟩⟩ (by show (oper d).wr ≤ _; omega)
  · rw [hoff]
    refine ⟨true, T.e_PowerOff_PowerOff, fun _ a ha => ?_, fun z => nomatch z⟩
    refine ⟨⟨rfl, rfl⟩, ?_⟩
    walk_at "rd"
    have g2 : Gro [s] M H1 M H2 := Gro.of e2 al1
    have hN : ∀ b ∈ [s], b ∈ M := by simp [sM.1]
    have wd2 := w1.go g2 hN (by simp [ki1.symm]) (by simp [ki2.symm]) (by simp [ki3.symm]) (by simp [ki4.symm])
    have s2 := s1.ext e2 (by simp [ki5.symm]) (by simp [ki6.symm])
    exact q M la se wa ww (oper d) H2 ⟨s2, k2, wd2, g2.al, A9.mem, by rw [ol.1]; exact A9.len, by rw [ow.1]; exact A9.sz, by rw [ol.2]; exact A9.ix, oper_off A9.off, A9.ne, by rw [ol.1, ol.2]; exact A9.sec⟩ (by rw [ow.1]; omega)
end
section
variable {P : Program} {w : World} {K : PySem.W.Frag} {mg : Str → Option Value} {base : Heap}
theorem ok_law_fail (T : Txt K mg) : Cal P w K mg base 4 "_law_fail" (sp_deed K) [] := by
  refine T.f_law_fail.cal sc_law_fail bd_law_fail (fun vs H Q E h => ?_) fun f cdv A outer s0 H vs Q E hr h => ?_
  · obtain ⟨n, M, p, l, s, la, se, wa, w, wl, ww, wc, d, rfl, _⟩ := h; rfl
  obtain ⟨n, M, p, l, s, la, se, wa, w, wl, ww, wc, d, rfl, h, hwr, q⟩ := h
  refine ⟨_, (pss_cons (ps_set (i := 3) sc_law_fail.nd rfl (Or.inl rfl) (pe_c (ok_law_next T) hr (by decide) rfl (pa_cons (pv 0) (pa_cons (pe_ix (ix_listK K) (pe_lst (pa_cons pe_int (pa_cons pe_int (pa_cons pe_int pa_nil)))) (pe_c (ok_law_next T) hr (by decide) rfl (pa_cons (pv 0) (pa_cons pe_int pa_nil))) (fun _ _ => rfl)) pa_nil))))
      (pss_cons (ps_try_only rfl rfl ⟨rfl, by decide, .inl T.g_PowerOff⟩ takes0 (fun W pn xe tk _ => (pss_one (ps_set (i := 4) sc_law_fail.nd rfl (Or.inl rfl) (pe_mtW (ok_Disk_fail_after T) hr (by decide) tk (pv 2) (pa_cons (pv 3) pa_nil)))))
      (fun a oe cls d pn hz hf => (pss_given (p := cls = .ref (He.ga K "PowerOff") ∧ d = none) fun q => (pss_one (ps_ret (pe_not (pe_dget (hu_of hr :) (pv 1) pe_str (fun _ _ => rfl))))))))
      (pss_cons (ps_if (PW.pt (pw_or (pt_not (pt_val (pe_dget (hu_of hr) (pv 1) pe_str (fun _ _ => rfl)))) (pw_or1 (pt_cmpR op_notNq (pv 4) pe_non (nomark _))))) (pss_one (ps_ret pe_bl)) pss_nil)
      (pss_cons (ps_dput (hu_of hr) (pv 1) pe_str (pv 3) rfl)
      (pss_one (ps_ret pe_bl)))))), ?_⟩
  walk_at "k"
  walk_at "rd"
  refine rd_newL (M := []) .nil (by walk_at "all") (by simp) fun r1 H2 hr1 e2 h2 _ => ?_
  have A2 := h.new e2
  walk_at "rd"
  refine rd_next A2.st (by decide) (by decide) fun v3 H3 hv3 s3 e3 => ?_
  have A3 := A2.pd s3 e3
  have h3 := keepP e3 (h.st.ne_new hr1) h2
  walk_at "rd"
  refine rd_pickV (P := fun x => ∃ i : Nat, x = .int i ∧ 0 < i ∧ i < 100) h3 (j := v3) rfl (by simp; omega) (fun x hx => ?_) ?_
  · simp only [List.mem_cons, List.not_mem_nil, or_false] at hx
    rcases hx with rfl | rfl | rfl
    · exact ⟨7, rfl, by omega⟩
    · exact ⟨7, rfl, by omega⟩
    · exact ⟨90, rfl, by omega⟩
  rintro x ⟨i, rfl, hi1, hi2⟩
  walk_at "rd"
  refine rd_next A3.st (by omega) (lim_small (by omega) (by omega)) fun m H4 hm s4 e4 => ?_
  have A4 := A3.pd s4 e4
  obtain ⟨dx, hx⟩ := A4.dk.ex
  rw [dkF_ok] at hx
  have hw := A4.wd.ex
  rw [wdF_ok] at hw
  have ki := A4.ki
  obtain ⟨⟨ki1, ki2, ki3, ki4, ki5, ki6⟩, ⟨ki7, ki8⟩, ⟨ki9, ki10⟩, ⟨ki11, ki12⟩, ⟨ki13, ki14⟩, ⟨ki15, ki16⟩⟩ := ki
  have sM := A4.dk.mem
  have wM := A4.wd.mem
  walk_at "rd"
  refine ⟨M, s, la, se, wa, d, m, rfl, A4.dk, fun hon H5 e5 k5 => ?_, fun hoff => ?_⟩
  · have g5 : Gro [s] M H4 M H5 := Gro.of e5 A4.al
    have hN : ∀ b ∈ [s], b ∈ M := by simp [sM.1]
    have w5 := A4.wd.go g5 hN (by simp [ki1.symm]) (by simp [ki2.symm]) (by simp [ki3.symm]) (by simp [ki4.symm])
    have s5 := A4.st.ext e5 (by simp [ki5.symm]) (by simp [ki6.symm])
    have hw5 := w5.ex
    rw [wdF_ok] at hw5
    walk_at "rd"
    rw [hon]
    walk_at "rd"
    have g6 : Gro [w] M H5 M (upd H5 w (.dK (wdF n wl ww wc { d with left := some m }))) := Gro.of ext1 g5.al
    have hN6 : ∀ b ∈ [w], b ∈ M := by simp [wM.1]
    show Q (.bl true) (upd H5 w (.dK (wdF n wl ww wc { d with left := some m })))
    exact q M la se wa ww { d with left := some m } _ ⟨s5.ext g6.ext (by simp [ki13.symm]) (by simp [ki14.symm]), k5.go g6 hN6 (by simp [ki1]) (by simp [ki7]) (by simp [ki9]) (by simp [ki11]), w5.recd (d' := { d with left := some m }) rfl rfl rfl rfl, g6.al, A4.mem, A4.len, A4.sz, A4.ix, (fun z => absurd (hon.symm.trans z) (by simp)), A4.ne, A4.sec⟩ (Nat.le_succ _)
  · refine ⟨true, T.e_PowerOff_PowerOff, fun _ a ha => ?_, fun z => nomatch z⟩
    refine ⟨⟨rfl, rfl⟩, ?_⟩
    walk_at "rd"
    rw [hoff]
    exact q M la se wa ww d H4 A4 (Nat.le_succ _)
theorem ok_law_power (T : Txt K mg) : Cal P w K mg base 4 "_law_power" (sp_deed K) [] := by
  refine T.f_law_power.cal sc_law_power bd_law_power (fun vs H Q E h => ?_) fun f cdv A outer s0 H vs Q E hr h => ?_
  · obtain ⟨n, M, p, l, s, la, se, wa, w, wl, ww, wc, d, rfl, _⟩ := h; rfl
  obtain ⟨n, M, p, l, s, la, se, wa, w, wl, ww, wc, d, rfl, h, hwr, q⟩ := h
  have hw0 := h.wd.ex
  rw [wdF_ok] at hw0
  obtain ⟨xw0, hww0, rww0⟩ := h.wd.xww
  have hxl : xw0.length = d.wait.length := by rw [rww0.length, List.length_map]
  have hwl : d.wait.length ≤ d.wr := by
    obtain ⟨ls, _, _, z⟩ := h.wd.xwl
    omega
  refine ⟨_, (pss_cons (ps_setLc (i := 3) (own := [("k", 4)]) (g := gName 4) (tt := tYes) rfl sc_law_power.nd rfl rfl (sw_true rfl rfl rfl (by decide +kernel)) (pi_range1 rfl T.z_range (pa_cons (pe_c (ok_law_next T) hr (by decide) rfl (pa_cons (pv 0) (pa_cons (pe_op op_add (pe_callB (call_lenK K) (by rfl) T.z_len (by decide +kernel) (pa_cons (pe_dget (hu_of hr) (pv 1) pe_str (fun _ _ => rfl)) pa_nil)) pe_int) pa_nil))) pa_nil)) (blkOk_by (own := [("k", 4)]) (N := nm_law_power) (sc := defScope s_law_power) (by decide +kernel)) (fun _ _ _ _ _ => (pg_name (i := 4) sc_law_power.nd rfl (Or.inl rfl))) (fun _ _ _ _ _ => pts_nil) (fun _ _ _ _ _ => (pe_cmpR op_eq (pe_c (ok_law_next T) hr (by decide) rfl (pa_cons (pv 0) (pa_cons pe_int pa_nil))) pe_int (nomark _))))
      (pss_cons (ps_set (i := 5) sc_law_power.nd rfl (Or.inl rfl) (pe_callTy (call_listK K) (by rfl) T.z_list (by decide +kernel) (pa_cons (pv 3) pa_nil)))
      (pss_cons (ps_if (PW.pt (pw_or (pt_cmpR op_notNq (pe_mt (ok_Disk_power T) hr (by decide) (pv 2) (pa_cons (pv 5) pa_nil)) pe_non (nomark _)) (pw_or1 (pt_cmpR (op_neDK K hr.units) (pv 5) (pv 3) (nomark _))))) (pss_one (ps_ret pe_bl)) pss_nil)
      (pss_cons (ps_daug (hu_of hr) (pv 1) pe_str (pe_callTy call_int1q (by rfl) T.z_int (by decide +kernel) (pa_cons (pe_dget (hu_of hr) (pv 1) pe_str (fun _ _ => rfl)) pa_nil)) in_add (fun _ _ _ => rfl))
      (pss_cons (ps_for PassesOwn.never rfl (pi_range1 rfl T.z_range (pa_cons (pe_callB (call_min2q rfl) (by rfl) T.z_min (by decide +kernel) (pa_cons (pe_callB (call_lenK K) (by rfl) T.z_len (by decide +kernel) (pa_cons (pv 3) pa_nil)) (pa_cons (pe_callB (call_lenK K) (by rfl) T.z_len (by decide +kernel) (pa_cons (pe_dget (hu_of hr) (pv 1) pe_str (fun _ _ => rfl)) pa_nil)) pa_nil))) pa_nil)) (pg_name (i := 4) sc_law_power.nd rfl (Or.inl rfl))
      (pss_one (ps_if (pt_val (pe_ix (ix_listK K) (pv 3) (pv 4) (fun _ _ => rfl))) (pss_one (ps_dput (hu_of hr) (pe_dget (hu_of hr) (pv 1) pe_str (fun _ _ => rfl)) (pe_ix (ix_tupK K) (pe_ix (ix_listK K) (pe_dget (hu_of hr) (pv 1) pe_str (fun _ _ => rfl)) (pv 4) (fun _ _ => rfl)) pe_int (fun _ _ => rfl)) (pe_ix (ix_tupK K) (pe_ix (ix_listK K) (pe_dget (hu_of hr) (pv 1) pe_str (fun _ _ => rfl)) (pv 4) (fun _ _ => rfl)) pe_int (fun _ _ => rfl)) rfl)) pss_nil)))
      (pss_cons (ps_expr (pe_bm PySem.F.plainAttrs_dict PySem.F.slot_dict_update PySem.F.type_dict_update mt_update (pv 1) (pa_cons (pe_disp (pps_cons pe_str (pe_lst pa_nil) (pps_cons pe_str pe_bl (pps_cons pe_str pe_non pps_nil))) (by rfl) (by rfl) (fun z => by cases z) (by decide)) pa_nil)))
      (pss_one (ps_ret pe_bl)))))))), ?_⟩
  walk_at "k"
  walk_at "rd"
  refine rd_next h.st (by omega) (lim_small (by omega) (by omega)) fun m H1 hm s1 e1 => ?_
  have A1 := h.pd s1 e1
  walk_at "rd"
  intro D hD
  refine q_lcAR (N := [p]) (M := M) (fun A => StAt A p l) (fun _ e => ∃ b, e = PyData.bool b ∧ True) (by simpa using A1.mem) A1.al hD (by omega) (fun _ => rfl) s1 (fun A o sA => s1.updN hD sA) (fun i H' hi sD e sA _ R kk => ?_) fun H2 es e2 s2 r2 i2 => ?_
  · walk_at "rd"
    refine rd_next sA (by decide) (by decide) fun v3 H3 hv3 s3 e3 => ?_
    walk_at "rd"
    exact kk _ _ _ e3 s3 (.bl _) ⟨_, rfl, trivial⟩
  obtain ⟨bs, rfl, r3⟩ := r2.pick
  have A2 := A1.pd s2 e2
  have hD2 := blsV i2
  have al2 := A2.al
  walk_at "rd"
  refine rd_listL (SqL.of hD2) fun pa hpa => ?_
  have fP := A2.fresh hpa
  have e3 : Ext [] H2 (upd H2 pa (.lst (bs.map V.bl))) := .new hpa
  have hP3 : (upd H2 pa (.lst (bs.map V.bl))) pa = some (.lst (bs.map V.bl)) := upd_same
  generalize upd H2 pa (.lst (bs.map V.bl)) = H3 at e3 hP3 ⊢
  have A3 := A2.new e3
  have hD3 := e3.keep D _ (by simp) hD2
  have fD := A1.fresh hD
  obtain ⟨dx, hx⟩ := A3.dk.ex
  rw [dkF_ok] at hx
  walk_at "rd"
  refine ⟨M, s, la, se, wa, d, pa, bs, rfl, A3.al, A3.dk, hP3, fun z => fP (by simp [z]), fun z => fP (by simp [z]), fun t ht => by rw [A3.len]; exact A3.ix t ht, fun M' se' wa' H4 hse hwa hM' g4 k4 => ?_⟩
  have sM := A3.dk.mem
  have wM := A3.wd.mem
  have hN : ∀ b ∈ [s, la], b ∈ M := by simp [sM.1, sM.2.1]
  have ki := A3.ki
  obtain ⟨⟨ki1, ki2, ki3, ki4, ki5, ki6⟩, ⟨ki7, ki8⟩, ⟨ki9, ki10⟩, ⟨ki11, ki12⟩, ⟨ki13, ki14⟩, ⟨ki15, ki16⟩⟩ := ki
  obtain ⟨⟨a1, a2, a3, a4⟩, ⟨b1, b2, b3, b4⟩, ⟨c1, c2, c3, c4⟩, ⟨d1, d2, d3, d4⟩⟩ := A3.ne
  have w4 := A3.wd.go g4 hN (by simp [ki1.symm, ki7.symm]) (by simp [ki2.symm, ki8.symm]) (by simp [ki3.symm, a1.symm]) (by simp [ki4.symm, a2.symm])
  have s4 := A3.st.ext g4.ext (by simp [ki5.symm, a3.symm]) (by simp [ki6.symm, a4.symm])
  have hP4 := g4.ext.keep pa _ (by simp at fP ⊢; simp [fP]) hP3
  have hD4 := g4.ext.keep D _ (by simp at fD ⊢; simp [fD]) hD3
  have hw4 := w4.ex
  rw [wdF_ok] at hw4
  obtain ⟨xw, hww, rww⟩ := w4.xww
  obtain ⟨ls, hls, lok, hll⟩ := w4.xwl
  have kd := w4.kinds
  have kn := w4.ne
  have wm := w4.mem
  walk_at "rd"
  refine rd_neD (M := []) (M' := []) (.lst (by simp) hP4 (bls_V bs)) (.lst (by simp) hD4 (bls_V bs)) (sh_bls (n := 0) bs).ok (sh_bls (n := 0) bs).ok ?_
  rw [(sh_bls (n := 0) bs).refl]
  walk_at "rd"
  have efl : ((d.fl : Int) + if d.on = true then 1 else 0) = (((pwr d bs).fl : Nat) : Int) := by
    rw [pwr_fl]
    split <;> simp
  rw [efl]
  show qLen K _ (upd H4 w (.dK (wdF n wl ww wc { d with fl := (pwr d bs).fl }))) _
  have w5 := w4.recd (d' := { d with fl := (pwr d bs).fl }) rfl rfl rfl rfl
  have e5 : Ext [w] H4 (upd H4 w (.dK (wdF n wl ww wc { d with fl := (pwr d bs).fl }))) := ext1
  have g5 : Gro [w] M' H4 M' (upd H4 w (.dK (wdF n wl ww wc { d with fl := (pwr d bs).fl }))) := Gro.of e5 g4.al
  have fD4 : D ≠ w := by simp at fD; simp [fD]
  have hD5 := e5.keep D _ (by simpa using fD4) hD4
  have hww5 := e5.keep ww _ (by simpa using kd.1) hww
  have hls5 := e5.keep wl _ (by simpa using kn.1.symm) hls
  have k5 := k4.go g5 (by simpa using wm.1) (by simp [ki1]) (by simp [ki7]) (by
    have := A3.fresh hse
    simp at this
    simp [this]) (by
    have := A3.fresh hwa
    simp at this
    simp [this])
  have s5 := s4.ext e5 (by simp [ki13.symm]) (by simp [ki14.symm])
  have rww5 := g5.isAll (by simpa using wm.1) rww
  have lok5 := lok.go g5 (by simpa using wm.1)
  have hw5 := w5.ex
  generalize upd H4 w (.dK (wdF n wl ww wc { d with fl := (pwr d bs).fl })) = H5 at w5 g5 hD5 hww5 hls5 k5 s5 rww5 lok5 hw5 ⊢
  rw [wdF_ok] at hw5
  clear hP4 hD4 hw4 hww hls lok rww e5
  have bl : bs.length ≤ d.wait.length + 2 := by
    have z := r3.length
    rw [List.length_range] at z
    omega
  walk_at "rd"
  refine ⟨_, _, rfl, ?_⟩
  rw [rww5.length, List.length_map, List.length_map]
  walk_at "rd"
  have eN : (if (d.wait.length : Int) < bs.length then (d.wait.length : Int) else bs.length).toNat = (bs.zip d.wait).length := by
    rw [List.length_zip]
    split <;> omega
  rw [eN]
  have wlM : ∀ b ∈ [wl], b ∈ M' := by simpa using wm.2.1
  refine q_range (fun j σ H' => ∃ (u4 : Option V) (ls' : List (Key × V)), σ = [some (.ref p), some (.ref w), some (.ref s), some (.ref D), u4, some (.ref pa)] ∧ Ext [wl] H5 H' ∧ H' wl = some (.dK ls') ∧ LsOK SEC M' H' ls' (laid d.last ((bs.zip d.wait).take j)) ∧ ls'.length ≤ ls.length + j) ⟨none, ls, rfl, .refl, hls5, lok5, by omega⟩ ?_ ?_
  · rintro j σ H' hj ⟨u4, ls', rfl, e, hl', lok', hz'⟩
    obtain ⟨⟨b, t1, t2⟩, hz⟩ : ∃ t, (bs.zip d.wait)[j]? = some t := ⟨_, List.getElem?_eq_getElem hj⟩
    obtain ⟨hb, ht⟩ := List.getElem?_zip_eq_some.mp hz
    have hw' := e.keep _ _ (by simpa using kn.1) hw5
    have hww' := e.keep _ _ (by simpa using kd.2.2.1) hww5
    have hD' := e.keep D _ (by simp at fD; simp [fD]) hD5
    have rw' := rww5.mono (e.more wlM)
    obtain ⟨v, gv, iv⟩ := rw'.get (show (d.wait.map wtd)[j]? = some (wtd (t1, t2)) by rw [List.getElem?_map, ht]; rfl)
    obtain ⟨px, us, rfl, npx, hpx, rpx⟩ := iv.tupleV
    cases rpx with
    | @cons v1 vr _ _ k1 rpx =>
    cases rpx with
    | @cons v2 vr _ _ kk2 rpx =>
    cases rpx
    cases k1
    have hj2 : j < d.wait.length := (List.getElem?_eq_some_iff.mp ht).1
    rw [Int.zero_add]
    walk_at "rd"
    refine rd_ixL (SqL.of hD') (atI_nat (show (bs.map V.bl)[j]? = some (.bl b) by rw [List.getElem?_map, hb]; rfl)) ?_
    walk_at "rd"
    have es := laid_snoc d.last ((bs.zip d.wait).take j) (b, t1, t2)
    rw [← take_snoc hz] at es
    cases b with
    | false =>
      walk_at "rd"
      exact ⟨_, ls', rfl, e, hl', by rw [es]; exact lok', by omega⟩
    | true =>
      walk_at "rd"
      refine rd_ixL (SqL.of hww') (atI_nat gv) ?_
      walk_at "rd"
      refine rd_ixL (SqL.of hww') (atI_nat gv) ?_
      walk_at "rd"
      refine rd_dputI hl' (by omega) ?_
      refine ⟨_, _, rfl, e.trans ext1, upd_same, ?_, ?_⟩
      · rw [es]
        exact (lok'.put kk2).mono (.set wm.2.1)
      · have := length_putK ls' (.inl (t1 : Int)) v2
        show (putK ls' (.inl (t1 : Int)) v2).length ≤ _
        omega
  · rintro σ H' ⟨u4, ls', rfl, e, hl', lok', hz'⟩
    rw [List.take_length] at lok'
    have hw' := e.keep _ _ (by simpa using kn.1) hw5
    have hc' := e.keep _ _ (by simpa using kd.2.2.2) w5.xwc
    have al' := g5.al.ext e
    walk_at "rd"
    refine ⟨.inr (.inr (.inl ⟨rfl, .inl ⟨_, hw'⟩⟩)), ?_⟩
    walk_at "rd"
    refine rd_disp fun pd hpd => ?_
    have pw : w ≠ pd := ne_of_none hw' hpd
    have e6 : Ext [] H' (upd H' pd (.dK [])) := .new hpd
    refine rd_pairs1 ?_
    walk_at "rd"
    refine rd_newL (M := M') (al'.ext e6) .nil (by simp) fun v2 H7 hr7 e7 h7 _ => ?_
    have hr6 := e6.free hr7
    have hd7 := e7.keep pd _ (by simp) upd_same
    walk_at "rd"
    refine rd_pairs1 ?_
    walk_at "rd"
    refine rd_pairs1 ?_
    walk_at "rd"
    refine rd_pairs0 ?_
    refine ⟨hd7, [(.inr "waiting", .ref v2), (.inr "on", .bl true), (.inr "left", .non)], rfl, Nat.le_of_ble_eq_true rfl, ?_⟩
    have e07 : Ext [] H' (upd H7 pd (.dK (mergeK [] [(.inr "waiting", .ref v2), (.inr "on", .bl true), (.inr "left", .non)]))) := (e6.trans e7).mut hpd
    have hw8 := e07.keep w _ (by simp) hw'
    have hp8 : (upd H7 pd (.dK (mergeK [] [(.inr "waiting", .ref v2), (.inr "on", .bl true), (.inr "left", .non)]))) pd = _ := upd_same
    have hv8 : (upd H7 pd (.dK (mergeK [] [(.inr "waiting", .ref v2), (.inr "on", .bl true), (.inr "left", .non)]))) v2 = some (.lst []) := (upd_ne (fun z => by rw [z, hd7] at h7; cases h7)).trans h7
    generalize upd H7 pd (.dK (mergeK [] [(.inr "waiting", .ref v2), (.inr "on", .bl true), (.inr "left", .non)])) = H8 at e07 hw8 hp8 hv8 ⊢
    walk_at "rd"
    refine ⟨w, pd, _, _, rfl, rfl, hw8, hp8, pw, Nat.le_of_ble_eq_true rfl, ?_⟩
    walk_at "rd"
    have epl := pwr_left d bs A3.off
    have eD : ∀ F : List (Key × V), F = wdF n wl v2 wc { pwr d bs with left := none } → F = wdF n wl v2 wc (pwr d bs) := fun F z => by rw [z, wdF_ok, wdF_ok, epl]
    rw [eD (mergeK _ _) rfl]
    have vw : w ≠ v2 := ne_of_none hw' hr6
    have vc : wc ≠ v2 := ne_of_none hc' hr6
    have e8F : Ext [w] H8 (upd H8 w (.dK (wdF n wl v2 wc (pwr d bs)))) := ext1
    have f1 : (upd H8 w (.dK (wdF n wl v2 wc (pwr d bs)))) w = _ := upd_same
    generalize upd H8 w (.dK (wdF n wl v2 wc (pwr d bs))) = HF at e8F f1 ⊢
    have f2 := e8F.keep wc _ (by simpa using kd.2.1) (e07.keep _ _ (by simp) hc')
    have f3 := e8F.keep v2 _ (by simpa using vw.symm) hv8
    have f4 := e8F.keep wl _ (by simpa using kn.1.symm) (e07.keep _ _ (by simp) hl')
    have eF : Ext [w] H' HF := e07.any.trans e8F
    have gF := Gro.cons al' eF hr6 (some_ne f3)
    have v5 := e.free hr6
    have gG : Gro [wl, w] M' H5 (v2 :: M') HF := Gro.cons g5.al ((e.more (by simp)).trans (eF.more (by simp))) v5 (some_ne f3)
    have hNF : ∀ b ∈ [w], b ∈ M' := by simpa using wm.1
    have hNG : ∀ b ∈ [wl, w], b ∈ M' := List.forall_mem_cons.mpr ⟨wm.2.1, hNF⟩
    have fse := A3.fresh hse
    have fwa := A3.fresh hwa
    simp only [List.mem_cons, List.not_mem_nil, or_false, not_or] at fse fwa
    obtain ⟨la1, la2, la3, la4, la5, la6, la7, la8, la9, la10⟩ := fse
    obtain ⟨wa1, wa2, wa3, wa4, wa5, wa6, wa7, wa8, wa9, wa10⟩ := fwa
    have kF := k5.go gG hNG (by simp [ki1, ki2]) (by simp [ki7, ki8]) (by simp [la7, la8]) (by simp [wa7, wa8])
    have sF := s5.ext gG.ext (by simp [ki13.symm, ki15.symm]) (by simp [ki14.symm, ki16.symm])
    have wF : WdAt SEC n (v2 :: M') HF w wl v2 wc (pwr d bs) := by
      refine ⟨f1, ⟨ls', f4, ?_, ?_⟩, ⟨[], f3, .nil⟩, ?_, ⟨by simp [wm.1], by simp [wm.2.1], by simp, by simp [wm.2.2.2]⟩, ⟨kn.1, vc.symm⟩⟩
      · exact lok'.go gF hNF
      · have : (pwr d bs).wr = d.wr := by unfold pwr; split <;> rfl
        show ls'.length + 0 ≤ (pwr d bs).wr
        rw [List.length_zip] at hz'
        omega
      · rw [f2]
        unfold pwr
        split <;> rfl
    obtain ⟨_, y1, _⟩ := k5.xla
    obtain ⟨_, y2, _⟩ := k5.xse
    obtain ⟨_, y3, _⟩ := k5.xwa
    have ewr : (pwr d bs).wr = d.wr := by unfold pwr; split <;> rfl
    refine q (v2 :: M') la se' wa' v2 (pwr d bs) HF ⟨sF, kF, wF, gG.al, List.mem_cons_of_mem _ (g4.sub _ A3.mem), (laid_len _ _).trans A3.len, ⟨A3.sz.1, A3.sz.2.1, by rw [ewr]; omega⟩, (fun t ht => nomatch ht), (fun z => nomatch z), ⟨⟨ne_of_none y1 v5, a2, a3, a4⟩, ⟨ne_of_none y2 v5, la10, la1, la2⟩, ⟨ne_of_none y3 v5, wa10, wa1, wa2⟩, ⟨s5.ne_new v5, fun z => s5.al2 (by rw [← z]; exact v5), d3, d4⟩⟩, ?_⟩ (by rw [ewr]; omega)
    refine ⟨fun x hx => ?_, fun t ht => nomatch ht⟩
    rcases laid_mem _ hx with hx | ⟨t, ht, rfl⟩
    · exact A3.sec.1 x hx
    · exact A3.sec.2 _ (List.of_mem_zip (a := t.1) (b := t.2) ht).2
end
section
variable {P : Program} {w : World} {K : PySem.W.Frag} {mg : Str → Option Value} {base : Heap}
theorem ok_law_deed (T : Txt K mg) : Cal P w K mg base 5 "_law_deed" (sp_deed K) [] := by
  refine T.f_law_deed.cal sc_law_deed bd_law_deed (fun vs H Q E h => ?_) fun f cdv A outer s0 H vs Q E hr h => ?_
  · obtain ⟨n, M, p, l, s, la, se, wa, w, wl, ww, wc, d, rfl, _⟩ := h; rfl
  obtain ⟨n, M, p, l, s, la, se, wa, w, wl, ww, wc, d, rfl, h, hwr, q⟩ := h
  refine ⟨_, (pss_cons (ps_set (i := 3) sc_law_deed.nd rfl (Or.inl rfl) (pe_c (ok_law_next T) hr (by decide) rfl (pa_cons (pv 0) (pa_cons pe_int pa_nil))))
      (pss_cons (ps_if (pt_cmpR op_lt (pv 3) pe_int (nomark _)) (pss_one (ps_ret (pe_c (ok_law_write T) hr (by decide) rfl (pa_cons (pv 0) (pa_cons (pv 1) (pa_cons (pv 2) pa_nil)))))) pss_nil)
      (pss_cons (ps_if (pt_cmpR op_lt (pv 3) pe_int (nomark _)) (pss_one (ps_ret (pe_c (ok_law_sync T) hr (by decide) rfl (pa_cons (pv 1) (pa_cons (pv 2) pa_nil))))) pss_nil)
      (pss_cons (ps_if (pt_cmpR op_lt (pv 3) pe_int (nomark _)) (pss_one (ps_ret (pe_c (ok_law_fail T) hr (by decide) rfl (pa_cons (pv 0) (pa_cons (pv 1) (pa_cons (pv 2) pa_nil)))))) pss_nil)
      (pss_one (ps_ret (pe_c (ok_law_power T) hr (by decide) rfl (pa_cons (pv 0) (pa_cons (pv 1) (pa_cons (pv 2) pa_nil)))))))))), ?_⟩
  walk_at "k"
  walk_at "rd"
  refine rd_next h.st (by decide) (by decide) fun v H1 hv s1 e1 => ?_
  have A1 := h.pd s1 e1
  walk_at "rd"
  refine rd_ite (fun c => ?_) (fun c => ?_)
  · walk_at "rd"
    exact ⟨n, M, p, l, s, la, se, wa, w, wl, ww, wc, d, rfl, A1, hwr, q⟩
  walk_at "rd"
  refine rd_ite (fun c => ?_) (fun c => ?_)
  · walk_at "rd"
    exact ⟨n, M, p, l, s, la, se, wa, w, wl, ww, wc, d, rfl, A1, hwr, q⟩
  walk_at "rd"
  refine rd_ite (fun c => ?_) (fun c => ?_)
  · walk_at "rd"
    exact ⟨n, M, p, l, s, la, se, wa, w, wl, ww, wc, d, rfl, A1, hwr, q⟩
  walk_at "rd"
  exact ⟨n, M, p, l, s, la, se, wa, w, wl, ww, wc, d, rfl, A1, hwr, q⟩
theorem rd_iteZ {b : Bool} {X Y : Prop} (hy : Y) (hx : Y → X) : if b = true then X else Y := by
  split
  · exact hx hy
  · exact hy
def sp_right (K : PySem.W.Frag) : Sp := fun vs H Q _ => ∃ (n : Nat) (M : List Addr) (p l s la se wa w wl ww wc : Addr) (d : Dk), vs = [.ref p, .ref w, .ref s] ∧ All K n M H p l s la se wa w wl ww wc d ∧
  ∀ H', All K n M H' p l s la se wa w wl ww wc d → Q (.bl true) H'
theorem ok_law_is_right (T : Txt K mg) : Cal P w K mg base 5 "_law_is_right" (sp_right K) [] := by
  refine T.f_law_is_right.cal sc_law_is_right bd_law_is_right (fun vs H Q E h => ?_) fun f cdv A outer s0 H vs Q E hr h => ?_
  · obtain ⟨n, M, p, l, s, la, se, wa, w, wl, ww, wc, d, rfl, _⟩ := h; rfl
  obtain ⟨n, M, p, l, s, la, se, wa, w, wl, ww, wc, d, rfl, h, q⟩ := h
  obtain ⟨z1, z2, z3⟩ := h.sz
  obtain ⟨dx, hx⟩ := h.dk.ex
  rw [dkF_ok] at hx
  have hw := h.wd.ex
  rw [wdF_ok] at hw
  have c0 := T.c_Disk
  have c1 := T.n_Disk_in_use
  refine ⟨_, (pss_cons (ps_set (i := 3) sc_law_is_right.nd rfl (Or.inl rfl) (pe_lst (pa_cons (pe_mt0 (ok_Disk_size T) hr (by decide) (pv 2)) (pa_cons (pe_mt0 (ok_Disk_pending T) hr (by decide) (pv 2)) (pa_cons (pe_mt0 (ok_Disk_counts T) hr (by decide) (pv 2)) (pa_cons (pe_mt0 (ok_Disk_is_on T) hr (by decide) (pv 2)) (pa_cons (pe_mt0 (ok_Disk_losses T) hr (by decide) (pv 2)) pa_nil)))))))
      (pss_cons (ps_set (i := 4) sc_law_is_right.nd rfl (Or.inl rfl) (pe_lst (pa_cons (pe_dget (hu_of hr) (pv 1) pe_str (fun _ _ => rfl)) (pa_cons (pe_callB (call_lenK K) (by rfl) T.z_len (by decide +kernel) (pa_cons (pe_dget (hu_of hr) (pv 1) pe_str (fun _ _ => rfl)) pa_nil)) (pa_cons (pe_callTy (call_tupK K) (by rfl) T.z_tuple (by decide +kernel) (pa_cons (pe_dget (hu_of hr) (pv 1) pe_str (fun _ _ => rfl)) pa_nil)) (pa_cons (pe_dget (hu_of hr) (pv 1) pe_str (fun _ _ => rfl)) (pa_cons (pe_dget (hu_of hr) (pv 1) pe_str (fun _ _ => rfl)) pa_nil)))))))
      (pss_cons (ps_if (PW.pt (pw_or (pt_not (pt_val (pe_c (ok_law_same T 3) hr (by decide) rfl (pa_cons (pv 3) (pa_cons (pv 4) pa_nil))))) (pw_or1 (PW.pt (pw_and (pt_not (pt_val (pe_dget (hu_of hr) (pv 1) pe_str (fun _ _ => rfl)))) (pw_and1 (pt_cmpR op_isnot_bl (pe_fldK K (pv 2) rfl) pe_bl (nomark _)))))))) (pss_one (ps_ret pe_bl)) pss_nil)
      (pss_cons (ps_for PassesOwn.never rfl (pi_listK K (pe_op op_cat (pe_lc (own := [("place", 6), ("data", 7)]) (tt := tYes) rfl sc_law_is_right.nd (pi_listK K (pe_dget (hu_of hr) (pv 1) pe_str (fun _ _ => rfl))) (blkOk_by (own := [("place", 6), ("data", 7)]) (N := nm_law_is_right) (sc := defScope s_law_is_right) (by decide +kernel)) (fun _ _ _ _ _ => (pg_tupK K (n := 2) rfl (pgs_cons (pg_name (i := 6) sc_law_is_right.nd rfl (Or.inl rfl)) (pgs_cons (pg_name (i := 7) sc_law_is_right.nd rfl (Or.inl rfl)) pgs_nil)))) (fun _ _ _ _ _ => pts_nil) (fun _ _ _ _ _ => (pv 6))) (pe_lst (pa_cons (pe_c (ok_law_next T) hr (by decide) rfl (pa_cons (pv 0) (pa_cons (pe_dget (hu_of hr) (pv 1) pe_str (fun _ _ => rfl)) pa_nil))) (pa_cons pe_int (pa_cons pe_int pa_nil)))))) (pg_name (i := 5) sc_law_is_right.nd rfl (Or.inl rfl))
      (pss_cons (ps_set (i := 8) sc_law_is_right.nd rfl (Or.inl rfl) (pe_mt (ok_Disk_read T) hr (by decide) (pv 2) (pa_cons (pv 5) pa_nil)))
      (pss_cons (ps_if (pt_not (pt_val (pe_c (ok_law_same T 3) hr (by decide) rfl (pa_cons (pv 8) (pa_cons (pe_c (ok_law_sector T) hr (by decide) rfl (pa_cons (pv 1) (pa_cons (pv 5) pa_nil))) pa_nil))))) (pss_one (ps_ret pe_bl)) pss_nil)
      (pss_one (ps_asg pe_int (pg_sub (pv 8) pe_int set_list))))))
      (pss_one (ps_ret pe_bl)))))), ?_⟩
  walk_at "k"
  walk_at "rd"
  refine ⟨M, s, la, se, wa, d, rfl, h.dk, ?_⟩
  walk_at "rd"
  refine ⟨M, s, la, se, wa, d, rfl, h.dk, ?_⟩
  walk_at "rd"
  refine ⟨M, s, la, se, wa, d, rfl, h.al, h.dk, fun r H1 e1 i1 => ?_⟩
  have A1 := h.new e1
  have hx1 := e1.keep _ _ (by simp) hx
  walk_at "rd"
  refine ⟨M, s, la, se, wa, d, rfl, A1.dk, ?_⟩
  walk_at "rd"
  refine ⟨M, s, la, se, wa, d, rfl, A1.dk, ?_⟩
  walk_at "rd"
  refine rd_newL (M := M) A1.al (by walk_at "all") (by simp) fun r2 H2 hr2 e2 h2 i2 => ?_
  have A2 := A1.new e2
  have hw2 := A2.wd.ex
  rw [wdF_ok] at hw2
  obtain ⟨xw, hww, rww⟩ := A2.wd.xww
  have hwc := A2.wd.xwc
  walk_at "rd"
  show qTupleOf K [.ref wc] H2 _
  refine rd_dtuple (M := []) .nil (.lst (by simp) hwc (by walk_at "all")) fun t H3 ht e3 i3 => ?_
  have A3 := A2.new e3
  have hw3 := A3.wd.ex
  rw [wdF_ok] at hw3
  walk_at "rd"
  rw [rww.length, List.length_map]
  show qNewL [.int (n : Int), .int (d.wait.length : Int), .ref t, .bl d.on, .int (d.fl : Int)] H3 _
  refine rd_newL (M := []) .nil (by walk_at "all") (by simp) fun r4 H4 hr4 e4 h4 i4 => ?_
  have A4 := A3.new e4
  have i2' := i2.mono (e3.trans e4).any
  rw [h.len] at i2'
  obtain ⟨dx4, hx4⟩ := A4.dk.ex
  rw [dkF_ok] at hx4
  have hw4 := A4.wd.ex
  rw [wdF_ok] at hw4
  walk_at "rd"
  refine rd_same i2' i4 (Sh.list fun d hd => ?_) ?_
  · simp only [List.mem_cons, List.not_mem_nil, or_false] at hd
    rcases hd with rfl | rfl | rfl | rfl | rfl
    · exact Sh.int _
    · exact Sh.int _
    · refine Sh.tuple fun d hd => ?_
      simp only [List.mem_cons, List.not_mem_nil, or_false] at hd
      rcases hd with rfl | rfl <;> exact Sh.int _
    · exact Sh.bl _
    · exact Sh.int _
  walk_at "rd"
  refine rd_iteZ ?_ (fun z => ?_)
  rotate_left
  · walk_at "rd"
    exact ⟨false, false, rfl, rfl, by walk_at "rd"; exact z⟩
  clear hx hx1 i1 i2 i3 h2 h4 i4 hw hw2 hw3 hwc
  obtain ⟨xw4, hww4, rww4⟩ := A4.wd.xww
  walk_at "rd"
  intro D hD
  refine lc_list (xs := xw4) (fun j H' => Ext [] H4 H' ∧ H' D = some (.lst ((d.wait.take j).map fun t => V.int (t.1 : Int)))) ⟨.new hD, upd_same⟩ (fun j H' _ pv => SqL.of (pv.1.keep _ _ (by simp) hww4)) (fun j x H' hx pv => ?_) fun H' pv => ?_
  · obtain ⟨dt, hdt, ix⟩ := rww4.got hx
    rw [List.getElem?_map] at hdt
    obtain ⟨⟨t1, t2⟩, ht, rfl⟩ : ∃ t, d.wait[j]? = some t ∧ dt = wtd t := by
      cases ht : d.wait[j]? with
      | none => rw [ht] at hdt; cases hdt
      | some t => rw [ht] at hdt; exact ⟨t, rfl, (Option.some.inj hdt).symm⟩
    have ix' := ix.mono pv.1.any
    obtain ⟨px, us, rfl, npx, hpx, rpx⟩ := ix'.tupleV
    cases rpx with
    | @cons v1 vr _ _ k1 rpx =>
    cases rpx with
    | @cons v2 vr _ _ kk2 rpx =>
    cases rpx
    cases k1
    have hj : j < d.wait.length := (List.getElem?_eq_some_iff.mp ht).1
    have hwl : d.wait.length ≤ d.wr := by
      obtain ⟨ls, _, _, z⟩ := h.wd.xwl
      omega
    walk_at "rd"
    refine ⟨rfl, rd_yes ?_⟩
    refine iteT ?_
    walk_at "rd"
    refine ⟨_, pv.2, szl' (by rw [List.length_map, List.length_take]; omega), pv.1.mut hD, ?_⟩
    rw [take_snoc ht, List.map_append]
    exact upd_same
  obtain ⟨e5, hD5⟩ := pv
  rw [rww4.length, List.length_map, List.take_length] at hD5
  have A5 := A4.new e5
  have hDp : D ∉ [p] := by simpa using fun z => A4.fresh hD (by simp [z])
  have i5 : Is [p] H' (.ref D) (nats (d.wait.map Prod.fst)) := .lst hDp hD5 (by
    have z := nats_V (M := [p]) (H := H') (d.wait.map Prod.fst)
    rw [List.map_map] at z
    exact z)
  have hw5 := A5.wd.ex
  rw [wdF_ok] at hw5
  clear hD hD5 hDp e5 hww4 rww4 hw4 hx4 i2' A4 A3 A2 A1 hww rww e1 e2 e3 e4
  walk_at "rd"
  refine rd_next A5.st (by omega) (lim_small (by omega) (by omega)) fun v H6 hv s6 e6 => ?_
  have A6 := A5.pd s6 e6
  have i6 := i5.mono e6
  walk_at "rd"
  refine rd_newL (M := [p]) A6.st.als (by walk_at "all") (by simp) fun r7 H7 hr7 e7 h7 i7 => ?_
  have A7 := A6.new e7
  have i7' : Is [p] H7 (.ref r7) (nats [v, 0, 1]) := i7
  have i67 := i6.mono e7.any
  have hwl : d.wait.length ≤ d.wr := by
    obtain ⟨ls, _, _, z⟩ := h.wd.xwl
    omega
  refine rd_ncat (M := [p]) A7.st.als i67 i7' (by rw [List.length_map, List.length_cons, List.length_cons, List.length_cons, List.length_nil]; omega) fun c H8 hc e8 i8 => ?_
  have A8 := A7.new e8
  have hlt : ∀ m ∈ d.wait.map Prod.fst ++ [v, 0, 1], m < n := fun m hm => by
    rcases List.mem_append.mp hm with hm | hm
    · obtain ⟨t, ht, rfl⟩ := List.mem_map.mp hm
      exact h.ix t ht
    · simp only [List.mem_cons, List.not_mem_nil, or_false] at hm
      omega
  generalize d.wait.map Prod.fst ++ [v, 0, 1] = L at i8 hlt
  walk_at "rd"
  refine q_data i8 (fun j σ H' => ∃ (u5 u6 u7 u8 : Option V), σ = [some (.ref p), some (.ref w), some (.ref s), some (.ref r2), some (.ref r4), u5, u6, u7, u8] ∧ Ext [] H8 H') ⟨none, none, none, none, rfl, .refl⟩ (fun j σ H' ⟨_, _, _, _, _, e⟩ => e.any) (fun j dd x σ H' hdd ix pv => ?_) fun σ H' pv => ?_
  · obtain ⟨u5, u6, u7, u8, rfl, e9⟩ := pv
    obtain ⟨m, hm, rfl⟩ : ∃ m, L[j]? = some m ∧ dd = .int (m : Int) := by
      rw [List.getElem?_map] at hdd
      cases hm : L[j]? with
      | none => rw [hm] at hdd; cases hdd
      | some m => rw [hm] at hdd; exact ⟨m, rfl, (Option.some.inj hdd).symm⟩
    cases ix
    have hmn := hlt m (List.mem_of_getElem? hm)
    have A9 := A8.new e9
    obtain ⟨dx9, hx9⟩ := A9.dk.ex
    rw [dkF_ok] at hx9
    have hgi : d.seen[m]? = some (d.seen.getD m []) := by
      rw [List.getD_eq_getElem?_getD, List.getElem?_eq_getElem (show m < d.seen.length by unfold Dk.seen; rw [seen_len, h.len]; exact hmn)]
      rfl
    walk_at "rd"
    refine ⟨M, s, la, se, wa, d, m, _, rfl, A9.al, A9.dk, hgi, fun r H10 hr e10 h10 => ?_⟩
    have A10 := A9.new e10
    walk_at "rd"
    refine ⟨M, n, w, wl, ww, wc, d, m, rfl, A10.al, A10.wd, by rw [h.len]; exact hmn, fun a H11 e11 i11 => ?_⟩
    have h11 := e11.keep r _ (by simp) h10
    walk_at "rd"
    refine rd_same (M := []) (.lst (by simp) h11 (nats_V _)) i11 (sh_nats _) ?_
    have hl : (d.seen.getD m []).length = SEC := h.secS _ (List.mem_of_getElem? hgi)
    walk_at "rd"
    refine rd_setL (j := 5) h11 (ixN_nat (i := 5) (by rw [List.length_map, hl]; decide)) ?_
    exact ⟨_, _, _, _, rfl, ((e9.trans e10).trans e11).mut (e9.free hr)⟩
  · obtain ⟨u5, u6, u7, u8, rfl, e9⟩ := pv
    walk_at "rd"
    exact q _ (A8.new e9)
end
def sp_law (K : PySem.W.Frag) : Sp := fun vs H Q _ => ∃ (a : Addr) (ns : List Int), vs = [.ref a] ∧ SqL K H a (ns.map V.int) ∧ ns.length ≤ 63 ∧ Only H ∧ ∀ H', Q (.bl true) H'
section
variable {P : Program} {w : World} {K : PySem.W.Frag} {mg : Str → Option Value} {base : Heap}
theorem law_end {fa : Addr} (T : Txt K mg) (hmg : mg "law" = some (.ref fa)) :
    ∃ fd : FuncData, (∀ (s : Shared) (v : Value), BindsTo s fd ⟨[v], []⟩ [("script", v)]) ∧ ∀ base : Heap, FnOk P w K mg base CX0 6 fa fd ["script"] (sp_law K) := by
  refine T.f_law.law hmg sc_law bd_law (fun vs H Q E h => ?_) fun base f cdv A outer s H vs Q E hr h => ?_
  · obtain ⟨a, ns, rfl, _⟩ := h; rfl
  obtain ⟨a, ns, rfl, hS, hl63, hO, k⟩ := h
  have c0 := T.c_Disk
  have c1 := T.n_Disk_in_use
  refine ⟨_, (pss_cons (ps_set (i := 1) sc_law.nd rfl (Or.inl rfl) (pe_lst (pa_cons (pe_callTy (call_listK K) (by rfl) T.z_list (by decide +kernel) (pa_cons (pv 0) pa_nil)) (pa_cons pe_int (pa_cons pe_int (pa_cons pe_int pa_nil))))))
      (pss_cons (ps_for PassesOwn.never rfl (pi_listK K (pe_lst (pa_cons (pe_op op_sub pe_int (pe_c (ok_law_next T) hr (by decide) rfl (pa_cons (pv 1) (pa_cons pe_int pa_nil)))) (pa_cons (pe_op op_add pe_int (pe_c (ok_law_next T) hr (by decide) rfl (pa_cons (pv 1) (pa_cons pe_int pa_nil)))) (pa_cons pe_bl (pa_cons pe_str (pa_cons pe_non (pa_cons (pe_lst (pa_cons pe_int pa_nil)) pa_nil)))))))) (pg_name (i := 2) sc_law.nd rfl (Or.inl rfl))
      (pss_one (ps_if (pt_not (pt_val (pe_c (ok_law_refused T) hr (by decide) rfl (pa_cons (pv 2) pa_nil)))) (pss_one (ps_ret pe_bl)) pss_nil)))
      (pss_cons (ps_set (i := 2) sc_law.nd rfl (Or.inl rfl) (pe_ix (ix_listK K) (pe_lst (pa_cons pe_int (pa_cons pe_int (pa_cons pe_int (pa_cons (pe_op op_add pe_int (pe_c (ok_law_next T) hr (by decide) rfl (pa_cons (pv 1) (pa_cons pe_int pa_nil)))) pa_nil))))) (pe_c (ok_law_next T) hr (by decide) rfl (pa_cons (pv 1) (pa_cons pe_int pa_nil))) (fun _ _ => rfl)))
      (pss_cons (ps_set (i := 3) sc_law.nd rfl (Or.inl rfl) (pe_mkW (mk_Disk T) hr (by decide) takes0 rfl (pa_cons (pv 2) pa_nil)))
      (pss_cons (ps_set (i := 4) sc_law.nd rfl (Or.inl rfl) (pe_disp (pps_cons pe_str (pv 2) (pps_cons pe_str pe_dnewK (pps_cons pe_str (pe_lst pa_nil) (pps_cons pe_str pe_bl (pps_cons pe_str pe_non (pps_cons pe_str pe_int (pps_cons pe_str (pe_lst (pa_cons pe_int (pa_cons pe_int pa_nil))) pps_nil))))))) (by rfl) (by rfl) (fun z => by cases z) (by decide)))
      (pss_cons (ps_if (pt_cmpR op_isnot_bl (pe_fldK K (pv 3) rfl) pe_bl (nomark _)) (pss_one (ps_ret pe_bl)) pss_nil)
      (pss_cons (ps_for PassesOwn.never rfl (pi_range1 rfl T.z_range (pa_cons (pe_c (ok_law_next T) hr (by decide) rfl (pa_cons (pv 1) (pa_cons (pe_ix (ix_listK K) (pe_lst (pa_cons pe_int (pa_cons pe_int (pa_cons pe_int pa_nil)))) (pe_c (ok_law_next T) hr (by decide) rfl (pa_cons (pv 1) (pa_cons pe_int pa_nil))) (fun _ _ => rfl)) pa_nil))) pa_nil)) (pg_name (i := 5) sc_law.nd rfl (Or.inl rfl))
      (pss_one (ps_if (PW.pt (pw_or (pt_not (pt_val (pe_c (ok_law_is_right T) hr (by decide) rfl (pa_cons (pv 1) (pa_cons (pv 4) (pa_cons (pv 3) pa_nil)))))) (pw_or1 (pt_not (pt_val (pe_c (ok_law_deed T) hr (by decide) rfl (pa_cons (pv 1) (pa_cons (pv 4) (pa_cons (pv 3) pa_nil))))))))) (pss_one (ps_ret pe_bl)) pss_nil)))
      (pss_cons (ps_for PassesOwn.never rfl (pi_range1 rfl T.z_range (pa_cons (pv 2) pa_nil)) (pg_name (i := 6) sc_law.nd rfl (Or.inl rfl))
      (pss_one (ps_if (pt_cmpR (op_neDK K hr.units) (pe_mt (ok_Disk_read T) hr (by decide) (pv 3) (pa_cons (pv 6) pa_nil)) (pe_c (ok_law_sector T) hr (by decide) rfl (pa_cons (pv 4) (pa_cons (pv 6) pa_nil))) (nomark _)) (pss_one (ps_ret pe_bl)) pss_nil)))
      (pss_one (ps_ret (pe_c (ok_law_is_right T) hr (by decide) rfl (pa_cons (pv 1) (pa_cons (pv 4) (pa_cons (pv 3) pa_nil)))))))))))))), ?_⟩
  walk_at "k"
  walk_at "rd"
  refine rd_listL hS fun l0 hl0 => ?_
  walk_at "rd"
  refine ⟨szl (by simp), fun p hp => ?_⟩
  walk_at "rd"
  have hne : p ≠ l0 := fun e => by rw [e, upd_same] at hp; cases hp
  have s0 : StAt (upd (upd H l0 (.lst (ns.map V.int))) p (.lst [.ref l0, .int 0, .int 0, .int 1])) p l0 := ⟨⟨ns, 0, 0, 1, upd_same, by rw [upd_ne hne.symm, upd_same], by decide, by omega, by decide⟩, hne⟩
  generalize upd (upd H l0 (.lst (ns.map V.int))) p (.lst [.ref l0, .int 0, .int 0, .int 1]) = H0 at s0 ⊢
  refine rd_next s0 (by decide) (by decide) fun v1 H1 hv1 s1 e1 => ?_
  walk_at "rd"
  refine rd_next s1 (by decide) (by decide) fun v2 H2 hv2 s2 e2 => ?_
  walk_at "rd"
  refine rd_newL (M := [p]) s2.als (by walk_at "all") (by simp) fun r3 H3 hr3 e3 _ i3 => ?_
  have s3 := s2.ext0 e3
  walk_at "rd"
  refine rd_newL (M := [p]) s3.als (by walk_at "all") (by simp) fun r4 H4 hr4 e4 _ i4 => ?_
  have s4 := s3.ext0 e4
  walk_at "rd"
  refine q_data i4 (fun j σ H' => ∃ u, σ = [some (.ref a), some (.ref p), u, none, none, none, none] ∧ Ext [] H4 H') ⟨none, rfl, .refl⟩ (fun j σ H' ⟨_, _, e⟩ => e.any) (fun j dd x σ H' hdd ix pv => ?_) fun σ H' pv => ?_
  · obtain ⟨u, rfl, e5⟩ := pv
    have s5 := s4.ext0 e5
    walk_at "rd"
    refine ⟨[p], x, dd, rfl, s5.als, ix, ?_, fun H6 e6 => ?_⟩
    · have hm := List.mem_of_getElem? hdd
      simp only [List.mem_cons, List.not_mem_nil, or_false] at hm
      rcases hm with rfl | rfl | rfl | rfl | rfl | rfl
      · show (decide (FEW ≤ _) && decide (_ ≤ MOST)) = false
        unfold FEW MOST
        rw [Bool.and_eq_false_iff]
        exact .inl (decide_eq_false (by omega))
      · show (decide (FEW ≤ _) && decide (_ ≤ MOST)) = false
        unfold FEW MOST
        rw [Bool.and_eq_false_iff]
        exact .inr (decide_eq_false (by omega))
      · rfl
      · rfl
      · rfl
      · rfl
    · walk_at "rd"
      exact ⟨_, rfl, e5.trans e6⟩
  · obtain ⟨u, rfl, e5⟩ := pv
    have s5 := s4.ext0 e5
    walk_at "rd"
    refine rd_next s5 (by decide) (by decide) fun v6 H6 hv6 s6 e6 => ?_
    walk_at "rd"
    refine rd_newL (M := [p]) s6.als (by walk_at "all") (by simp) fun r7 H7 hr7 e7 h7 _ => ?_
    have s7 := s6.ext0 e7
    walk_at "rd"
    refine rd_next s7 (by decide) (by decide) fun v8 H8 hv8 s8 e8 => ?_
    have h8 := keepP e8 (s6.ne_new hr7) h7
    walk_at "rd"
    refine rd_pickV (P := fun x => ∃ n : Nat, x = .int n ∧ 60 ≤ n ∧ n ≤ 400) h8 (j := v8) rfl (by simp; omega) (fun x hx => ?_) ?_
    · simp only [List.mem_cons, List.not_mem_nil, or_false] at hx
      rcases hx with rfl | rfl | rfl | rfl
      · exact ⟨60, rfl, by omega, by omega⟩
      · exact ⟨61, rfl, by omega, by omega⟩
      · exact ⟨400, rfl, by omega, by omega⟩
      · exact ⟨60 + v6, by simp, by omega, by omega⟩
    rintro x ⟨n, rfl, hn1, hn2⟩
    clear h8 h7 e8 e7 e6 s7 s6 s5 s4 s3 s2 s1 s0 hr7 i3 i4 e5 e3 e4 hr3 hr4
    walk_at "rd"
    intro s dx hs hdx hsd
    have z1 : Ext [] H8 (upd H8 dx (.own s)) := .new hdx
    have hs1 : (upd H8 dx (.own s)) s = none := by rw [upd_ne hsd.symm]; exact hs
    have z2 : Ext [] (upd H8 dx (.own s)) (upd (upd H8 dx (.own s)) s (.ins (He.ga K "Disk") dx [])) := .new hs1
    have hx : (upd (upd H8 dx (.own s)) s (.ins (He.ga K "Disk") dx [])) s = some (.ins (He.ga K "Disk") dx []) := upd_same
    have z02 := z1.trans z2
    have s9 := s8.ext0 z02
    have ps : s ≠ p := s8.ne_new hs
    have lsn : s ≠ l0 := fun z => s8.al2 (by rw [← z]; exact hs)
    generalize upd (upd H8 dx (.own s)) s (.ins (He.ga K "Disk") dx []) = H9 at hx z02 s9 ⊢
    refine ⟨s :: [p], s, dx, .int (n : Int), .int (n : Int), rfl, hx, List.mem_cons_self .., .cons (some_ne hx) s9.als, .int _, fun z => ?_, fun n' hn' _ M' la se wa H10 hla hse hwa hM' gro dk => ?_⟩
    · exfalso
      have : isSz (.int (n : Int)) = true := by
        show (decide (FEW ≤ _) && decide (_ ≤ MOST)) = true
        unfold FEW MOST
        rw [decide_eq_true (by omega), decide_eq_true (by omega)]
        rfl
      rw [this] at z
      cases z
    obtain rfl : n = n' := by cases hn'; rfl
    have s10 := s9.ext gro.ext (by simpa using ps.symm) (by simpa using lsn.symm)
    have al10 := gro.al
    refine ⟨rfl, ?_⟩
    walk_at "rd"
    refine rd_disp fun w hw => ?_
    have z1 : Ext [] H10 (upd H10 w (.dK [])) := .new hw
    refine rd_pairs1 ?_
    walk_at "rd"
    refine rd_pairs1 ?_
    walk_at "rd"
    intro wl hwl
    have z2 : Ext [] (upd H10 w (.dK [])) (upd (upd H10 w (.dK [])) wl (.dK [])) := .new hwl
    have fw : (upd (upd H10 w (.dK [])) wl (.dK [])) w = some (.dK []) := z2.keep _ _ (by simp) upd_same
    have fwl : (upd (upd H10 w (.dK [])) wl (.dK [])) wl = some (.dK []) := upd_same
    have hwl0 := z1.free hwl
    have z02 := z1.trans z2
    have al12 := al10.ext z02
    generalize upd (upd H10 w (.dK [])) wl (.dK []) = H12 at z02 fw fwl al12 ⊢
    walk_at "rd"
    refine rd_pairs1 ?_
    walk_at "rd"
    refine rd_newL (M := M') al12 .nil (by simp) fun ww H13 hww z13 fww _ => ?_
    walk_at "rd"
    refine rd_pairs1 ?_
    walk_at "rd"
    refine rd_pairs1 ?_
    walk_at "rd"
    refine rd_pairs1 ?_
    walk_at "rd"
    refine rd_pairs1 ?_
    walk_at "rd"
    refine rd_newL (M := M') (al12.ext z13) (by walk_at "all") (by simp) fun wc H14 hwc z14 fwc _ => ?_
    refine rd_pairs0 ?_
    have fw14 := z14.keep _ _ (by simp) (z13.keep _ _ (by simp) fw)
    refine ⟨fw14, wdF n wl ww wc (newD SEC n), rfl, Nat.le_of_ble_eq_true rfl, ?_⟩
    rw [show mergeK [] (wdF n wl ww wc (newD SEC n)) = wdF n wl ww wc (newD SEC n) from rfl]
    have hww0 := z02.free hww
    have hwc0 := z02.free (z13.free hwc)
    have zF := ((z02.trans z13).trans z14).mut (o := .dK (wdF n wl ww wc (newD SEC n))) hw
    have nw1 : wl ≠ w := fun z => by rw [z, upd_same] at hwl; cases hwl
    have nw2 : ww ≠ w := fun z => by rw [z, fw] at hww; cases hww
    have nw3 : wc ≠ w := fun z => by rw [z, z13.keep _ _ (by simp) fw] at hwc; cases hwc
    have nw4 : ww ≠ wc := fun z => by rw [← z, fww] at hwc; cases hwc
    have fF : (upd H14 w (.dK (wdF n wl ww wc (newD SEC n)))) w = some (.dK (wdF n wl ww wc (newD SEC n))) := upd_same
    have fF1 : (upd H14 w (.dK (wdF n wl ww wc (newD SEC n)))) wl = some (.dK []) := (upd_ne nw1).trans (z14.keep _ _ (by simp) (z13.keep _ _ (by simp) fwl))
    have fF2 : (upd H14 w (.dK (wdF n wl ww wc (newD SEC n)))) ww = some (.lst []) := (upd_ne nw2).trans (z14.keep _ _ (by simp) fww)
    have fF3 : (upd H14 w (.dK (wdF n wl ww wc (newD SEC n)))) wc = some (.lst [.int 0, .int 0]) := (upd_ne nw3).trans fwc
    generalize upd H14 w (.dK (wdF n wl ww wc (newD SEC n))) = HF at zF fF fF1 fF2 fF3 ⊢
    have gF : Gro [] M' H10 (wc :: ww :: wl :: w :: M') HF := ⟨fun b h => by simp [h], fun b h => by
      simp only [List.mem_cons] at h
      rcases h with rfl | rfl | rfl | rfl | h
      · exact .inr hwc0
      · exact .inr hww0
      · exact .inr hwl0
      · exact .inr hw
      · exact .inl h, zF, .cons (some_ne fF3) (.cons (some_ne fF2) (.cons (some_ne fF1) (.cons (some_ne fF) (al10.ext zF))))⟩
    obtain ⟨_, y1, _⟩ := dk.xla
    obtain ⟨_, y2, _⟩ := dk.xse
    obtain ⟨_, y3, _⟩ := dk.xwa
    have al0 := s9.al
    have al1 := s9.al2
    have q1 : ∀ {b o}, H10 b = some o → b ≠ ww := fun h => ne_of_none h hww0
    have q2 : ∀ {b o}, H10 b = some o → b ≠ wc := fun h => ne_of_none h hwc0
    have q3 : ∀ {b}, H9 b = none → b ≠ p := fun h z => al0 (by rw [← z]; exact h)
    have q4 : ∀ {b}, H9 b = none → b ≠ l0 := fun h z => al1 (by rw [← z]; exact h)
    have AF : All K n (wc :: ww :: wl :: w :: M') HF p l0 s la se wa w wl ww wc (newD SEC n) := by
      refine ⟨s10.ext0 zF, dk.go gF (by simp) (by simp) (by simp) (by simp) (by simp), ⟨fF, ⟨[], fF1, ?_, Nat.le_refl _⟩, ⟨[], fF2, .nil⟩, fF3, by simp, ⟨nw1.symm, nw4⟩⟩, gF.al, gF.sub _ (gro.sub _ (by simp)), List.length_replicate .., ⟨by omega, by omega, Nat.zero_le _⟩, (fun t ht => nomatch ht), (fun z => nomatch z), ⟨⟨q1 y1, q2 y1, q3 hla, q4 hla⟩, ⟨q1 y2, q2 y2, q3 hse, q4 hse⟩, ⟨q1 y3, q2 y3, q3 hwa, q4 hwa⟩, ⟨s10.ne_new hww0, fun z => s10.al2 (by rw [← z]; exact hww0), s10.ne_new hwc0, fun z => s10.al2 (by rw [← z]; exact hwc0)⟩⟩, ⟨fun x hx => ?_, fun t ht => nomatch ht⟩⟩
      · intro i x hx
        refine .inr ⟨rfl, ?_⟩
        obtain ⟨_, rfl⟩ := List.mem_replicate.mp (List.mem_of_getElem? hx)
        rfl
      · obtain ⟨_, rfl⟩ := List.mem_replicate.mp hx
        exact List.length_replicate ..
    obtain ⟨dxF, hxF⟩ := AF.dk.ex
    rw [dkF_ok] at hxF
    have hnn : (newD SEC n).wr ≤ 0 := Nat.le_refl _
    generalize newD SEC n = d at AF hxF hnn
    generalize wc :: ww :: wl :: w :: M' = M at AF
    clear fF fF1 fF2 fF3 zF gF y1 y2 y3 al0 al1 q1 q2 q3 q4 fw14 fwc fww hwc0 hww0 hwc hww hwl hwl0 hw fw fwl z14 z13 z02 z1 al12 al10 hx dk gro hla hse hwa hM' s10 s9 s8 hs hdx hsd hs1
    walk_at "rd"
    refine ⟨false, false, rfl, rfl, ?_⟩
    walk_at "rd"
    rw [show (!decide (false = false)) = false from rfl]
    walk_at "rd"
    refine rd_newL (M := [p]) AF.st.als (by walk_at "all") (by simp) fun r15 H15 hr15 e15 h15 _ => ?_
    have A15 := AF.new e15
    walk_at "rd"
    refine rd_next A15.st (by decide) (by decide) fun v16 H16 hv16 s16 e16 => ?_
    have A16 := A15.pd s16 e16
    have h16 := keepP e16 (AF.st.ne_new hr15) h15
    walk_at "rd"
    refine rd_pickV (P := fun x => ∃ n : Nat, x = .int n ∧ 0 < n ∧ n ≤ 120) h16 (j := v16) rfl (by simp; omega) (fun x hx => ?_) ?_
    · simp only [List.mem_cons, List.not_mem_nil, or_false] at hx
      rcases hx with rfl | rfl | rfl
      · exact ⟨51, rfl, by omega, by omega⟩
      · exact ⟨51, rfl, by omega, by omega⟩
      · exact ⟨120, rfl, by omega, by omega⟩
    rintro x ⟨m, rfl, hm1, hm2⟩
    walk_at "rd"
    refine rd_next A16.st (by omega) (lim_small (by omega) (by omega)) fun v17 H17 hv17 s17 e17 => ?_
    have A17 := A16.pd s17 e17
    clear hxF e15 e16 e17 h15 h16 A16 A15 AF s16 s17
    walk_at "rd"
    refine q_range (fun j σ H' => ∃ (u5 : Option V) (M : List Addr) (la se wa ww : Addr) (d : Dk), σ = [some (.ref a), some (.ref p), some (.int (n : Int)), some (.ref s), some (.ref w), u5, none] ∧ All K n M H' p l0 s la se wa w wl ww wc d ∧ d.wr ≤ j) ⟨none, M, la, se, wa, ww, d, rfl, A17, hnn⟩ ?_ ?_
    · rintro j σ H' hj ⟨u5, M, la, se, wa, ww, d, rfl, A, hd⟩
      walk_at "rd"
      refine ⟨n, M, p, l0, s, la, se, wa, w, wl, ww, wc, d, rfl, A, fun H2 A2 => ?_⟩
      walk_at "rd"
      refine ⟨n, M, p, l0, s, la, se, wa, w, wl, ww, wc, d, rfl, A2, by omega, fun M' la' se' wa' ww' d' H3 A3 hd' => ?_⟩
      walk_at "rd"
      exact ⟨_, M', la', se', wa', ww', d', rfl, A3, by omega⟩
    · clear A17 hnn
      rintro σ H' ⟨u5, M, la, se, wa, ww, d, rfl, A, hd⟩
      walk_at "rd"
      rw [Int.toNat_natCast]
      refine q_range (fun j σ H2 => ∃ (u6 : Option V), σ = [some (.ref a), some (.ref p), some (.int (n : Int)), some (.ref s), some (.ref w), u5, u6] ∧ Ext [] H' H2) ⟨none, rfl, .refl⟩ ?_ ?_
      · rintro j σ H2 hj ⟨u6, rfl, e2⟩
        have A2 := A.new e2
        obtain ⟨dx2, hx2⟩ := A2.dk.ex
        rw [dkF_ok] at hx2
        rw [Int.zero_add]
        have hgi : d.seen[j]? = some (d.seen.getD j []) := by
          rw [List.getD_eq_getElem?_getD, List.getElem?_eq_getElem (show j < d.seen.length by unfold Dk.seen; rw [seen_len, A.len]; exact hj)]
          rfl
        walk_at "rd"
        refine ⟨M, s, la, se, wa, d, j, _, rfl, A2.al, A2.dk, hgi, fun r H3 hr3 e3 h3 => ?_⟩
        have A3 := A2.new e3
        walk_at "rd"
        refine ⟨M, n, w, wl, ww, wc, d, j, rfl, A3.al, A3.wd, by rw [A.len]; exact hj, fun a H4 e4 i4 => ?_⟩
        have h4 := e4.keep r _ (by simp) h3
        walk_at "rd"
        refine rd_neD (M := []) (.lst (by simp) h4 (nats_V _)) i4 (sh_nats (n := 0) _).ok (sh_nats (n := 0) _).ok ?_
        rw [eqv_nats, decide_eq_true rfl]
        walk_at "rd"
        exact ⟨_, rfl, (e2.trans e3).trans e4⟩
      · rintro σ H2 ⟨u6, rfl, e2⟩
        walk_at "rd"
        exact ⟨n, M, p, l0, s, la, se, wa, w, wl, ww, wc, d, rfl, A.new e2, fun H3 A3 => k _⟩
end
def d_Disk__init_ : He.DefD := ⟨("Disk", some "__init__"), "__init__", "Disk.__init__", defArgs s_Disk__init_, defBody s_Disk__init_, defScope s_Disk__init_, [], []⟩
def d_Disk_size : He.DefD := ⟨("Disk", some "size"), "size", "Disk.size", defArgs s_Disk_size, defBody s_Disk_size, defScope s_Disk_size, [], []⟩
def d_Disk_read : He.DefD := ⟨("Disk", some "read"), "read", "Disk.read", defArgs s_Disk_read, defBody s_Disk_read, defScope s_Disk_read, [], []⟩
def d_Disk_pending : He.DefD := ⟨("Disk", some "pending"), "pending", "Disk.pending", defArgs s_Disk_pending, defBody s_Disk_pending, defScope s_Disk_pending, [], []⟩
def d_Disk_counts : He.DefD := ⟨("Disk", some "counts"), "counts", "Disk.counts", defArgs s_Disk_counts, defBody s_Disk_counts, defScope s_Disk_counts, [], []⟩
def d_Disk_lose_power : He.DefD := ⟨("Disk", some "lose_power"), "lose_power", "Disk.lose_power", defArgs s_Disk_lose_power, defBody s_Disk_lose_power, defScope s_Disk_lose_power, [], []⟩
def d_Disk_operate : He.DefD := ⟨("Disk", some "operate"), "operate", "Disk.operate", defArgs s_Disk_operate, defBody s_Disk_operate, defScope s_Disk_operate, [], []⟩
def d_Disk_write : He.DefD := ⟨("Disk", some "write"), "write", "Disk.write", defArgs s_Disk_write, defBody s_Disk_write, defScope s_Disk_write, [], []⟩
def d_Disk_sync : He.DefD := ⟨("Disk", some "sync"), "sync", "Disk.sync", defArgs s_Disk_sync, defBody s_Disk_sync, defScope s_Disk_sync, [], []⟩
def d_Disk_fail_after : He.DefD := ⟨("Disk", some "fail_after"), "fail_after", "Disk.fail_after", defArgs s_Disk_fail_after, defBody s_Disk_fail_after, defScope s_Disk_fail_after, [], []⟩
def d_Disk_power : He.DefD := ⟨("Disk", some "power"), "power", "Disk.power", defArgs s_Disk_power, defBody s_Disk_power, defScope s_Disk_power, [], []⟩
def d_Disk_is_on : He.DefD := ⟨("Disk", some "is_on"), "is_on", "Disk.is_on", defArgs s_Disk_is_on, defBody s_Disk_is_on, defScope s_Disk_is_on, [], []⟩
def d_Disk_losses : He.DefD := ⟨("Disk", some "losses"), "losses", "Disk.losses", defArgs s_Disk_losses, defBody s_Disk_losses, defScope s_Disk_losses, [], []⟩
def d_law_next : He.DefD := ⟨("_law_next", none), "_law_next", "_law_next", defArgs s_law_next, defBody s_law_next, defScope s_law_next, [], []⟩
def d_law_same : He.DefD := ⟨("_law_same", none), "_law_same", "_law_same", defArgs s_law_same, defBody s_law_same, defScope s_law_same, [], []⟩
def d_law_refused : He.DefD := ⟨("_law_refused", none), "_law_refused", "_law_refused", defArgs s_law_refused, defBody s_law_refused, defScope s_law_refused, [], []⟩
def d_law_operate : He.DefD := ⟨("_law_operate", none), "_law_operate", "_law_operate", defArgs s_law_operate, defBody s_law_operate, defScope s_law_operate, [], []⟩
def d_law_write : He.DefD := ⟨("_law_write", none), "_law_write", "_law_write", defArgs s_law_write, defBody s_law_write, defScope s_law_write, [], []⟩
def d_law_sync : He.DefD := ⟨("_law_sync", none), "_law_sync", "_law_sync", defArgs s_law_sync, defBody s_law_sync, defScope s_law_sync, [], []⟩
def d_law_fail : He.DefD := ⟨("_law_fail", none), "_law_fail", "_law_fail", defArgs s_law_fail, defBody s_law_fail, defScope s_law_fail, [], []⟩
def d_law_power : He.DefD := ⟨("_law_power", none), "_law_power", "_law_power", defArgs s_law_power, defBody s_law_power, defScope s_law_power, [], []⟩
def d_law_deed : He.DefD := ⟨("_law_deed", none), "_law_deed", "_law_deed", defArgs s_law_deed, defBody s_law_deed, defScope s_law_deed, [], []⟩
def d_law_sector : He.DefD := ⟨("_law_sector", none), "_law_sector", "_law_sector", defArgs s_law_sector, defBody s_law_sector, defScope s_law_sector, [], []⟩
def d_law_is_right : He.DefD := ⟨("_law_is_right", none), "_law_is_right", "_law_is_right", defArgs s_law_is_right, defBody s_law_is_right, defScope s_law_is_right, [], []⟩
def d_law : He.DefD := ⟨("law", none), "law", "law", defArgs s_law, defBody s_law, defScope s_law, [], []⟩
def fn : List He.DefD := [d_Disk__init_, d_Disk_size, d_Disk_read, d_Disk_pending, d_Disk_counts, d_Disk_lose_power, d_Disk_operate, d_Disk_write, d_Disk_sync, d_Disk_fail_after, d_Disk_power, d_Disk_is_on, d_Disk_losses, d_law_next, d_law_same, d_law_refused, d_law_operate, d_law_write, d_law_sync, d_law_fail, d_law_power, d_law_deed, d_law_sector, d_law_is_right, d_law]
def fa : List He.Fa := [.mkr "Disk", .meth "Disk" "size", .meth "Disk" "read", .meth "Disk" "pending", .meth "Disk" "counts", .meth "Disk" "lose_power", .meth "Disk" "operate", .meth "Disk" "write", .meth "Disk" "sync", .meth "Disk" "fail_after", .meth "Disk" "power", .meth "Disk" "is_on", .meth "Disk" "losses", .glo "_law_next", .glo "_law_same", .glo "_law_refused", .glo "_law_operate", .glo "_law_write", .glo "_law_sync", .glo "_law_fail", .glo "_law_power", .glo "_law_deed", .glo "_law_sector", .glo "_law_is_right", .glo "law", .glo "RuleError", .glo "InvalidArgument", .glo "PowerOff", .glo "Disk", .cls "Disk", .int "FEWEST" 60, .int "MOST" 400, .int "SECTOR" 64, .free "ValueError", .free "bool", .free "int", .free "isinstance", .free "len", .free "list", .free "min", .free "range", .free "str", .free "tuple", .free "zip"]
def exs : List (PySem.W.Frag → Bool) := [fun K => He.Fa.ok K (.cls "Disk"), fun K => He.Fa.ok K (.noat "Disk" "in_use"), fun K => He.Fa.ok K (.noat "Disk" "lasting"), fun K => He.Fa.ok K (.noat "Disk" "seen"), fun K => He.Fa.ok K (.noat "Disk" "waiting"), fun K => He.Fa.ok K (.noat "Disk" "powered"), fun K => He.Fa.ok K (.noat "Disk" "left"), fun K => He.Fa.ok K (.noat "Disk" "failures"), fun K => He.Fa.ok K (.noat "Disk" "writes"), fun K => He.Fa.ok K (.noat "Disk" "syncs"), fun K => He.Fa.ok K (.exc "RuleError"), fun K => xcB K "RuleError", fun K => kiVB K "RuleError", fun K => He.Fa.ok K (.exm "RuleError" "RuleError" true), fun K => kiB K "RuleError" "RuleError" true, fun K => He.Fa.ok K (.exm "RuleError" "InvalidArgument" false), fun K => kiB K "RuleError" "InvalidArgument" false, fun K => He.Fa.ok K (.exm "RuleError" "PowerOff" false), fun K => kiB K "RuleError" "PowerOff" false, fun K => He.Fa.ok K (.exc "InvalidArgument"), fun K => xcB K "InvalidArgument", fun K => kiVB K "InvalidArgument", fun K => He.Fa.ok K (.exm "InvalidArgument" "RuleError" true), fun K => kiB K "InvalidArgument" "RuleError" true, fun K => He.Fa.ok K (.exm "InvalidArgument" "InvalidArgument" true), fun K => kiB K "InvalidArgument" "InvalidArgument" true, fun K => He.Fa.ok K (.exm "InvalidArgument" "PowerOff" false), fun K => kiB K "InvalidArgument" "PowerOff" false, fun K => He.Fa.ok K (.exc "PowerOff"), fun K => xcB K "PowerOff", fun K => kiVB K "PowerOff", fun K => He.Fa.ok K (.exm "PowerOff" "RuleError" true), fun K => kiB K "PowerOff" "RuleError" true, fun K => He.Fa.ok K (.exm "PowerOff" "InvalidArgument" false), fun K => kiB K "PowerOff" "InvalidArgument" false, fun K => He.Fa.ok K (.exm "PowerOff" "PowerOff" true), fun K => kiB K "PowerOff" "PowerOff" true]
def ex (K : PySem.W.Frag) : Bool := exs.all fun f => f K
theorem txt_of {K : PySem.W.Frag} {h : Heap} {mg : Str → Option Value} (X : K.In h) (G : h.Ns mainGlobals mg) (c : He.SaysD fa fn K) (cx : ex K = true) : Txt K mg where
  f_Disk__init_ := by obtain ⟨fd, F⟩ := c.def_ 0 (d := d_Disk__init_) rfl; exact ⟨_, fd, F, He.mkr_ok (c.fact 0 (f := .mkr "Disk") rfl), He.glo_ok X G (c.fact 28 (f := .glo "Disk") rfl)⟩
  f_Disk_size := by obtain ⟨fd, F⟩ := c.def_ 1 (d := d_Disk_size) rfl; exact ⟨_, fd, F, He.cls_ok (c.fact 29 (f := .cls "Disk") rfl), He.meth_ok (c.fact 1 (f := .meth "Disk" "size") rfl)⟩
  f_Disk_read := by obtain ⟨fd, F⟩ := c.def_ 2 (d := d_Disk_read) rfl; exact ⟨_, fd, F, He.cls_ok (c.fact 29 (f := .cls "Disk") rfl), He.meth_ok (c.fact 2 (f := .meth "Disk" "read") rfl)⟩
  f_Disk_pending := by obtain ⟨fd, F⟩ := c.def_ 3 (d := d_Disk_pending) rfl; exact ⟨_, fd, F, He.cls_ok (c.fact 29 (f := .cls "Disk") rfl), He.meth_ok (c.fact 3 (f := .meth "Disk" "pending") rfl)⟩
  f_Disk_counts := by obtain ⟨fd, F⟩ := c.def_ 4 (d := d_Disk_counts) rfl; exact ⟨_, fd, F, He.cls_ok (c.fact 29 (f := .cls "Disk") rfl), He.meth_ok (c.fact 4 (f := .meth "Disk" "counts") rfl)⟩
  f_Disk_lose_power := by obtain ⟨fd, F⟩ := c.def_ 5 (d := d_Disk_lose_power) rfl; exact ⟨_, fd, F, He.cls_ok (c.fact 29 (f := .cls "Disk") rfl), He.meth_ok (c.fact 5 (f := .meth "Disk" "lose_power") rfl)⟩
  f_Disk_operate := by obtain ⟨fd, F⟩ := c.def_ 6 (d := d_Disk_operate) rfl; exact ⟨_, fd, F, He.cls_ok (c.fact 29 (f := .cls "Disk") rfl), He.meth_ok (c.fact 6 (f := .meth "Disk" "operate") rfl)⟩
  f_Disk_write := by obtain ⟨fd, F⟩ := c.def_ 7 (d := d_Disk_write) rfl; exact ⟨_, fd, F, He.cls_ok (c.fact 29 (f := .cls "Disk") rfl), He.meth_ok (c.fact 7 (f := .meth "Disk" "write") rfl)⟩
  f_Disk_sync := by obtain ⟨fd, F⟩ := c.def_ 8 (d := d_Disk_sync) rfl; exact ⟨_, fd, F, He.cls_ok (c.fact 29 (f := .cls "Disk") rfl), He.meth_ok (c.fact 8 (f := .meth "Disk" "sync") rfl)⟩
  f_Disk_fail_after := by obtain ⟨fd, F⟩ := c.def_ 9 (d := d_Disk_fail_after) rfl; exact ⟨_, fd, F, He.cls_ok (c.fact 29 (f := .cls "Disk") rfl), He.meth_ok (c.fact 9 (f := .meth "Disk" "fail_after") rfl)⟩
  f_Disk_power := by obtain ⟨fd, F⟩ := c.def_ 10 (d := d_Disk_power) rfl; exact ⟨_, fd, F, He.cls_ok (c.fact 29 (f := .cls "Disk") rfl), He.meth_ok (c.fact 10 (f := .meth "Disk" "power") rfl)⟩
  f_Disk_is_on := by obtain ⟨fd, F⟩ := c.def_ 11 (d := d_Disk_is_on) rfl; exact ⟨_, fd, F, He.cls_ok (c.fact 29 (f := .cls "Disk") rfl), He.meth_ok (c.fact 11 (f := .meth "Disk" "is_on") rfl)⟩
  f_Disk_losses := by obtain ⟨fd, F⟩ := c.def_ 12 (d := d_Disk_losses) rfl; exact ⟨_, fd, F, He.cls_ok (c.fact 29 (f := .cls "Disk") rfl), He.meth_ok (c.fact 12 (f := .meth "Disk" "losses") rfl)⟩
  f_law_next := by obtain ⟨fd, F⟩ := c.def_ 13 (d := d_law_next) rfl; exact ⟨_, fd, F, He.glo_ok X G (c.fact 13 (f := .glo "_law_next") rfl)⟩
  f_law_same := by obtain ⟨fd, F⟩ := c.def_ 14 (d := d_law_same) rfl; exact ⟨_, fd, F, He.glo_ok X G (c.fact 14 (f := .glo "_law_same") rfl)⟩
  f_law_refused := by obtain ⟨fd, F⟩ := c.def_ 15 (d := d_law_refused) rfl; exact ⟨_, fd, F, He.glo_ok X G (c.fact 15 (f := .glo "_law_refused") rfl)⟩
  f_law_operate := by obtain ⟨fd, F⟩ := c.def_ 16 (d := d_law_operate) rfl; exact ⟨_, fd, F, He.glo_ok X G (c.fact 16 (f := .glo "_law_operate") rfl)⟩
  f_law_write := by obtain ⟨fd, F⟩ := c.def_ 17 (d := d_law_write) rfl; exact ⟨_, fd, F, He.glo_ok X G (c.fact 17 (f := .glo "_law_write") rfl)⟩
  f_law_sync := by obtain ⟨fd, F⟩ := c.def_ 18 (d := d_law_sync) rfl; exact ⟨_, fd, F, He.glo_ok X G (c.fact 18 (f := .glo "_law_sync") rfl)⟩
  f_law_fail := by obtain ⟨fd, F⟩ := c.def_ 19 (d := d_law_fail) rfl; exact ⟨_, fd, F, He.glo_ok X G (c.fact 19 (f := .glo "_law_fail") rfl)⟩
  f_law_power := by obtain ⟨fd, F⟩ := c.def_ 20 (d := d_law_power) rfl; exact ⟨_, fd, F, He.glo_ok X G (c.fact 20 (f := .glo "_law_power") rfl)⟩
  f_law_deed := by obtain ⟨fd, F⟩ := c.def_ 21 (d := d_law_deed) rfl; exact ⟨_, fd, F, He.glo_ok X G (c.fact 21 (f := .glo "_law_deed") rfl)⟩
  f_law_sector := by obtain ⟨fd, F⟩ := c.def_ 22 (d := d_law_sector) rfl; exact ⟨_, fd, F, He.glo_ok X G (c.fact 22 (f := .glo "_law_sector") rfl)⟩
  f_law_is_right := by obtain ⟨fd, F⟩ := c.def_ 23 (d := d_law_is_right) rfl; exact ⟨_, fd, F, He.glo_ok X G (c.fact 23 (f := .glo "_law_is_right") rfl)⟩
  f_law := by obtain ⟨fd, F⟩ := c.def_ 24 (d := d_law) rfl; exact ⟨_, fd, F, He.glo_ok X G (c.fact 24 (f := .glo "law") rfl)⟩
  g_FEWEST := by obtain ⟨t, e⟩ := He.int_ok X G (c.fact 30 (f := .int "FEWEST" 60) rfl); exact ⟨_, e, t, rfl⟩
  g_MOST := by obtain ⟨t, e⟩ := He.int_ok X G (c.fact 31 (f := .int "MOST" 400) rfl); exact ⟨_, e, t, rfl⟩
  g_SECTOR := by obtain ⟨t, e⟩ := He.int_ok X G (c.fact 32 (f := .int "SECTOR" 64) rfl); exact ⟨_, e, t, rfl⟩
  z_ValueError := He.free_ok X G (c.fact 33 (f := .free "ValueError") rfl)
  z_bool := He.free_ok X G (c.fact 34 (f := .free "bool") rfl)
  z_int := He.free_ok X G (c.fact 35 (f := .free "int") rfl)
  z_isinstance := He.free_ok X G (c.fact 36 (f := .free "isinstance") rfl)
  z_len := He.free_ok X G (c.fact 37 (f := .free "len") rfl)
  z_list := He.free_ok X G (c.fact 38 (f := .free "list") rfl)
  z_min := He.free_ok X G (c.fact 39 (f := .free "min") rfl)
  z_range := He.free_ok X G (c.fact 40 (f := .free "range") rfl)
  z_str := He.free_ok X G (c.fact 41 (f := .free "str") rfl)
  z_tuple := He.free_ok X G (c.fact 42 (f := .free "tuple") rfl)
  z_zip := He.free_ok X G (c.fact 43 (f := .free "zip") rfl)
  g_RuleError := He.glo_ok X G (c.fact 25 (f := .glo "RuleError") rfl)
  g_InvalidArgument := He.glo_ok X G (c.fact 26 (f := .glo "InvalidArgument") rfl)
  g_PowerOff := He.glo_ok X G (c.fact 27 (f := .glo "PowerOff") rfl)
  g_Disk := He.glo_ok X G (c.fact 28 (f := .glo "Disk") rfl)
  c_Disk := He.cls_ok (ex_at (exs := exs) cx 0)
  n_Disk_in_use := He.noat_ok (ex_at (exs := exs) cx 1)
  n_Disk_lasting := He.noat_ok (ex_at (exs := exs) cx 2)
  n_Disk_seen := He.noat_ok (ex_at (exs := exs) cx 3)
  n_Disk_waiting := He.noat_ok (ex_at (exs := exs) cx 4)
  n_Disk_powered := He.noat_ok (ex_at (exs := exs) cx 5)
  n_Disk_left := He.noat_ok (ex_at (exs := exs) cx 6)
  n_Disk_failures := He.noat_ok (ex_at (exs := exs) cx 7)
  n_Disk_writes := He.noat_ok (ex_at (exs := exs) cx 8)
  n_Disk_syncs := He.noat_ok (ex_at (exs := exs) cx 9)
  x_RuleError := He.exc_ok (ex_at (exs := exs) cx 10)
  xc_RuleError := xcB_ok (ex_at (exs := exs) cx 11)
  kv_RuleError := kiVB_ok (ex_at (exs := exs) cx 12)
  e_RuleError_RuleError := He.exm_ok (ex_at (exs := exs) cx 13)
  k_RuleError_RuleError := kiB_ok (ex_at (exs := exs) cx 14)
  e_RuleError_InvalidArgument := He.exm_ok (ex_at (exs := exs) cx 15)
  k_RuleError_InvalidArgument := kiB_ok (ex_at (exs := exs) cx 16)
  e_RuleError_PowerOff := He.exm_ok (ex_at (exs := exs) cx 17)
  k_RuleError_PowerOff := kiB_ok (ex_at (exs := exs) cx 18)
  x_InvalidArgument := He.exc_ok (ex_at (exs := exs) cx 19)
  xc_InvalidArgument := xcB_ok (ex_at (exs := exs) cx 20)
  kv_InvalidArgument := kiVB_ok (ex_at (exs := exs) cx 21)
  e_InvalidArgument_RuleError := He.exm_ok (ex_at (exs := exs) cx 22)
  k_InvalidArgument_RuleError := kiB_ok (ex_at (exs := exs) cx 23)
  e_InvalidArgument_InvalidArgument := He.exm_ok (ex_at (exs := exs) cx 24)
  k_InvalidArgument_InvalidArgument := kiB_ok (ex_at (exs := exs) cx 25)
  e_InvalidArgument_PowerOff := He.exm_ok (ex_at (exs := exs) cx 26)
  k_InvalidArgument_PowerOff := kiB_ok (ex_at (exs := exs) cx 27)
  x_PowerOff := He.exc_ok (ex_at (exs := exs) cx 28)
  xc_PowerOff := xcB_ok (ex_at (exs := exs) cx 29)
  kv_PowerOff := kiVB_ok (ex_at (exs := exs) cx 30)
  e_PowerOff_RuleError := He.exm_ok (ex_at (exs := exs) cx 31)
  k_PowerOff_RuleError := kiB_ok (ex_at (exs := exs) cx 32)
  e_PowerOff_InvalidArgument := He.exm_ok (ex_at (exs := exs) cx 33)
  k_PowerOff_InvalidArgument := kiB_ok (ex_at (exs := exs) cx 34)
  e_PowerOff_PowerOff := He.exm_ok (ex_at (exs := exs) cx 35)
  k_PowerOff_PowerOff := kiB_ok (ex_at (exs := exs) cx 36)
def loose : List Str := (["RuleError", "InvalidArgument", "PowerOff", "FEWEST", "MOST", "SECTOR", "Disk", "_law_next", "_law_same", "_law_refused", "_law_operate", "_law_write", "_law_sync", "_law_fail", "_law_power", "_law_deed", "_law_sector", "_law_is_right"] : List Str)
abbrev R : PySem.W.OpenRow := PySem.W.OpenLaw.row PySem.Challenge.rw_steadwhole_k48_disk_keeps_what_was_synce
abbrev hk : PySem.W.Hook := hookX 5 fa fn ex
def ob (s : PySem.W.SharedT) : He.AlD × Bool := obsX 5 fa fn ex (HandSHeadRun.getT s)
theorem ob_eq (s : PySem.W.SharedT) : ob s = hk.obs s.abs := obsX_eq (HandSHeadRun.getT_eq s)
theorem run (w : World) : HandSHeadRun.RunEq R (PySem.W.view R.prog [21]) hk ob 2000 loose w := by
  intro os
  kernel_rfl
end Z
open PySem PySem.W PySem.Calls PyProof.Rows
theorem PySem.Challenge.cw_steadwhole_k48_disk_keeps_what_was_synce_holds : PySem.Challenge.rw_steadwhole_k48_disk_keeps_what_was_synce.Holds := by
  w_on; o_law
  refine HandSHeadRun.head_any (r := OpenLaw.row PySem.Challenge.rw_steadwhole_k48_disk_keeps_what_was_synce) (q := view (OpenLaw.row PySem.Challenge.rw_steadwhole_k48_disk_keeps_what_was_synce).prog [21]) (H := Z.hk) (ob := Z.ob) (M := 2000) (loose := Z.loose) (d := HandSHeadRun.topDef (OpenLaw.row PySem.Challenge.rw_steadwhole_k48_disk_keeps_what_was_synce).prog 21) (kwd := []) Z.ob_eq
    (by kernel_rfl) (fun s => by kernel_rfl) Z.run (by kernel_rfl) (by kernel_rfl) (by kernel_rfl) (by rfl) (by first | assumption | decide +kernel) (by decide +kernel) ⟨rfl, rfl, rfl, rfl, rfl, by decide +kernel⟩ ?hw ?hc
  case hw => w_witness2
  case hc =>
    refine L2.walk_ofE (l := PySem.Challenge.rw_steadwhole_k48_disk_keeps_what_was_synce) (n := 63) (k := 6) (x := "script") (CX := L2.CX0) rfl (by decide) (by kernel_rfl) ⟨rfl, by decide, by decide⟩ ?F (fun _ _ _ _ z => z)
    intro w mg fa h Y G hmg0
    obtain ⟨K, KX, c, cx⟩ := Y
    have hmg : mg ("law" : PySem.Str) = some (.ref fa) := by
      have e : (HandSHeadRun.topDef (OpenLaw.row PySem.Challenge.rw_steadwhole_k48_disk_keeps_what_was_synce).prog 21).name = ("law" : PySem.Str) := by kernel_rfl
      rw [← e]
      exact hmg0
    have T : Z.Txt K mg := Z.txt_of KX G c cx
    obtain ⟨fd, hb, hF⟩ := Z.law_end (P := (PySem.Challenge.rw_steadwhole_k48_disk_keeps_what_was_synce).prog) (w := w) T hmg
    exact ⟨K, fd, Z.sp_law K, KX, hb, fun H a ns hl hO hS => ⟨a, ns, rfl, hS, hl, hO, fun _ => rfl⟩, fun base _ _ => hF base⟩

