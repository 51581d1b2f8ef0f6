import PyProof.Rows.All
import Wide.All
import OpenK.AllK
import Wide.FinOn
import HandS.ForList
import HandS.Text
import HandS.Codes
import HandS.Defaults
import HandS.IsInst
import HandS.Head0
import HandS.Head1
import HandS.Head2
import HandS.HeadEnd
import HandS.HeadHook1
import HandS.HeadHook2
import PySem.Challenge.RW_steadwhole_k03_field_of_bytes
set_option Elab.async false
set_option linter.all false
set_option maxRecDepth 100000
set_option maxHeartbeats 4000000
namespace Z
/-! ### the layer of this claim: defs by names, short rules of reading -/
open PySem PySem.Spec PyProof.Rows L2
set_option autoImplicit false
abbrev BindAll (x qual : Str) (st : Stmt) (ps : List Str) : Prop := ∀ (kV doc pm : Value) (an : Option Addr) (cdv ct : Value) (us : List Value), us.length = ps.length →
  bindArgs (PySem.W.fnOf x qual (defArgs st) (defBody st) (defScope st) .none kV doc pm an cdv ct) ⟨us, []⟩ = pure (ps.zip us)
structure GFun (K : PySem.W.Frag) (mg : Str → Option Value) (x : Str) (st : Stmt) : Prop where
  ex : ∃ (f : Addr) (fd : FuncData), FunD K x x (defArgs st) (defBody st) (defScope st) [] [] f fd ∧ mg x = some (.ref f)
structure GMet (K : PySem.W.Frag) (C : Addr) (m qual : Str) (st : Stmt) : Prop where
  ex : ∃ (f : Addr) (fd : FuncData), FunD K m qual (defArgs st) (defBody st) (defScope st) [] [] f fd ∧ Cls K C ∧ Meth K C m f
/-- a def that may be called by its name (CX: what it may let out) -/
structure CalX (CX : CXT) (P : Program) (w : World) (K : PySem.W.Frag) (mg : Str → Option Value) (base : Heap) (k : Nat) (x : Str) (sp : Sp) (dvs : List V) : Prop where
  ex : ∃ (f : Addr) (fd : FuncData) (ps : List Str) (ds : List Value), FnOk P w K mg base CX k f fd ps sp ∧ mg x = some (.ref f) ∧ PySem.W.keepIn K (.ref f) = true ∧ Binds K fd ps ds ∧ Vals dvs ds
structure MetX (CX : CXT) (P : Program) (w : World) (K : PySem.W.Frag) (mg : Str → Option Value) (base : Heap) (k : Nat) (C : Addr) (m : Str) (sp : Sp) (dvs : List V) : Prop where
  ex : ∃ (f : Addr) (fd : FuncData) (ps : List Str) (ds : List Value), Cls K C ∧ Meth K C m f ∧ FnOk P w K mg base CX k f fd ps sp ∧ Binds K fd ps ds ∧ Vals dvs ds
structure MakX (CX : CXT) (P : Program) (w : World) (K : PySem.W.Frag) (mg : Str → Option Value) (base : Heap) (k : Nat) (x : Str) (C : Addr) (sp : Sp) (dvs : List V) : Prop where
  ex : ∃ (f : Addr) (fd : FuncData) (ps : List Str) (ds : List Value), Mk K C f ∧ FnOk P w K mg base CX k f fd ps sp ∧ mg x = some (.ref C) ∧ Binds K fd ps ds ∧ Vals dvs ds
abbrev Cal := CalX CX0
abbrev Met := MetX CX0
abbrev Mak := MakX CX0
section
variable {P : Program} {w : World} {K : PySem.W.Frag} {mg : Str → Option Value} {base : Heap} {x qual m : Str} {st : Stmt} {N ps : List Str} {k : Nat} {sp : Sp} {C : Addr}
theorem fnd_ok {f : Addr} {fd : FuncData} (F : FunD K x qual (defArgs st) (defBody st) (defScope st) [] [] f fd) (S : FnScope N ps (defScope st)) (len : ∀ vs H Q E, sp vs H Q E → vs.length = ps.length)
    (hbody : ∀ (cdv : Value) (A : Around) (outer : List Env) (s : Shared) (H : Hp) (vs : List V) (Q : VK) (E : XK), Room k (A.deeper (envOfC qual (defScope st) s.heap.objs.size f cdv)) → sp vs H Q E →
      ∃ t, PSs (cxOf CX0 P w K mg base N qual (defScope st) f cdv A outer s H E).nox (defBody st) t ∧ t { nx := fun _ H' => Q .non H', rt := Q } (start N vs) H) : FnOk P w K mg base CX0 (k + 1) f fd ps sp :=
  F.ok S len fun cdv A outer s H vs Q E hr h => by
    obtain ⟨t, h1, h2⟩ := hbody cdv A outer s H vs Q E hr h
    exact ⟨t, h1.nox, h2⟩
theorem GFun.cal (g : GFun K mg x st) (S : FnScope N ps (defScope st)) (b : BindAll x x st ps) (len : ∀ vs H Q E, sp vs H Q E → vs.length = ps.length)
    (hbody : ∀ (f : Addr) (cdv : Value) (A : Around) (outer : List Env) (s : Shared) (H : Hp) (vs : List V) (Q : VK) (E : XK), Room k (A.deeper (envOfC x (defScope st) s.heap.objs.size f cdv)) → sp vs H Q E →
      ∃ t, PSs (cxOf CX0 P w K mg base N x (defScope st) f cdv A outer s H E).nox (defBody st) t ∧ t { nx := fun _ H' => Q .non H', rt := Q } (start N vs) H) : Cal P w K mg base (k + 1) x sp [] := by
  obtain ⟨f, fd, F, hm⟩ := g.ex
  exact ⟨f, fd, ps, [], fnd_ok F S len (hbody f), hm, F.kp, F.bindsN b, .nil⟩
theorem GMet.met (g : GMet K C m qual st) (S : FnScope N ps (defScope st)) (b : BindAll m qual st ps) (len : ∀ vs H Q E, sp vs H Q E → vs.length = ps.length)
    (hbody : ∀ (f : Addr) (cdv : Value) (A : Around) (outer : List Env) (s : Shared) (H : Hp) (vs : List V) (Q : VK) (E : XK), Room k (A.deeper (envOfC qual (defScope st) s.heap.objs.size f cdv)) → sp vs H Q E →
      ∃ t, PSs (cxOf CX0 P w K mg base N qual (defScope st) f cdv A outer s H E).nox (defBody st) t ∧ t { nx := fun _ H' => Q .non H', rt := Q } (start N vs) H) : Met P w K mg base (k + 1) C m sp [] := by
  obtain ⟨f, fd, F, c, hm⟩ := g.ex
  exact ⟨f, fd, ps, [], c, hm, fnd_ok F S len (hbody f), F.bindsN b, .nil⟩
theorem GFun.law {fa : Addr} (g : GFun K mg "law" st) (hmg : mg "law" = some (.ref fa)) (S : FnScope N ["script"] (defScope st)) (b : BindAll "law" "law" st ["script"]) (len : ∀ vs H Q E, sp vs H Q E → vs.length = 1)
    (hbody : ∀ (base : Heap) (f : Addr) (cdv : Value) (A : Around) (outer : List Env) (s : Shared) (H : Hp) (vs : List V) (Q : VK) (E : XK), Room k (A.deeper (envOfC "law" (defScope st) s.heap.objs.size f cdv)) → sp vs H Q E →
      ∃ t, PSs (cxOf CX0 P w K mg base N "law" (defScope st) f cdv A outer s H E).nox (defBody st) t ∧ t { nx := fun _ H' => Q .non H', rt := Q } (start N vs) H) :
    ∃ fd : FuncData, (∀ (s : Shared) (v : Value), BindsTo s fd ⟨[v], []⟩ [("script", v)]) ∧ ∀ base : Heap, FnOk P w K mg base CX0 (k + 1) fa fd ["script"] sp := by
  obtain ⟨f, fd, F, hm⟩ := g.ex
  have e := hmg.symm.trans hm
  cases e
  exact ⟨fd, fun s v => F.bindsA (ps := ["script"]) b s [v] rfl, fun base => fnd_ok F S len (hbody base fa)⟩
end
section
variable {X : Cx} {k j : Nat} {C : Addr} {x m : Str} {sp : Sp} {dvs : List V} {p pos apos : Pos}
theorem pe_cX {CX : CXT} {E : XK} {e : Expr} {es : List Expr} {t : TA} (c : CalX CX X.prog X.w X.K X.mg X.base k x sp dvs) (hr : Room j X.A) (hk : k ≤ j) (hx : Passes CX X E) (hg : Gl X x) (ha : PA X (e :: es) t)
    (hdb : (x == ("__debug__" : Str)) = false := by decide) (he : starEach (e :: es) X.env = (false, eval e X.env) :: starEach es X.env := by rfl) (hpl : (backTo pos (starEach es X.env)).any (·.1) = false := by rfl) :
    PE X (.Call (.Name x p) (e :: es) [] pos) (tCall sp dvs E t) := by
  obtain ⟨f, fd, ps, ds, F, hm, kp, b, d⟩ := c.ex
  exact pe_call F (hr.mono hk) hg hm kp b d hx ha hdb he hpl
theorem pe_cX0 {CX : CXT} {E : XK} (c : CalX CX X.prog X.w X.K X.mg X.base k x sp dvs) (hr : Room j X.A) (hk : k ≤ j) (hx : Passes CX X E) (hg : Gl X x) (hdb : (x == ("__debug__" : Str)) = false := by decide) :
    PE X (.Call (.Name x p) [] [] pos) (tCall sp dvs E tNil) := by
  obtain ⟨f, fd, ps, ds, F, hm, kp, b, d⟩ := c.ex
  exact pe_call0 F (hr.mono hk) hg hm kp b d hx hdb
theorem pe_c {e : Expr} {es : List Expr} {t : TA} (c : Cal X.prog X.w X.K X.mg X.base k x sp dvs) (hr : Room j X.A) (hk : k ≤ j) (hg : Gl X x) (ha : PA X (e :: es) t)
    (hdb : (x == ("__debug__" : Str)) = false := by decide) (he : starEach (e :: es) X.env = (false, eval e X.env) :: starEach es X.env := by rfl) (hpl : (backTo pos (starEach es X.env)).any (·.1) = false := by rfl) :
    PE X (.Call (.Name x p) (e :: es) [] pos) (tCall sp dvs E0 t) := pe_cX c hr hk pass0 hg ha hdb he hpl
theorem pe_c0 (c : Cal X.prog X.w X.K X.mg X.base k x sp dvs) (hr : Room j X.A) (hk : k ≤ j) (hg : Gl X x) (hdb : (x == ("__debug__" : Str)) = false := by decide) :
    PE X (.Call (.Name x p) [] [] pos) (tCall sp dvs E0 tNil) := pe_cX0 c hr hk pass0 hg hdb
theorem pe_mkX {CX : CXT} {E : XK} {e : Expr} {es : List Expr} {t : TA} (c : MakX CX X.prog X.w X.K X.mg X.base k x C sp dvs) (hr : Room j X.A) (hk : k + 1 ≤ j) (hx : Passes CX X E) (hg : Gl X x) (ha : PA X (e :: es) t)
    (hdb : (x == ("__debug__" : Str)) = false := by decide) (he : starEach (e :: es) X.env = (false, eval e X.env) :: starEach es X.env := by rfl) (hpl : (backTo pos (starEach es X.env)).any (·.1) = false := by rfl) :
    PE X (.Call (.Name x p) (e :: es) [] pos) (tMake C sp dvs E t) := by
  obtain ⟨f, fd, ps, ds, M, F, hm, b, d⟩ := c.ex
  exact pe_make M F (hr.mono hk) hg hm b d hx ha hdb he hpl
theorem pe_mkX0 {CX : CXT} {E : XK} (c : MakX CX X.prog X.w X.K X.mg X.base k x C sp dvs) (hr : Room j X.A) (hk : k + 1 ≤ j) (hx : Passes CX X E) (hg : Gl X x) (hdb : (x == ("__debug__" : Str)) = false := by decide) :
    PE X (.Call (.Name x p) [] [] pos) (tMake C sp dvs E tNil) := by
  obtain ⟨f, fd, ps, ds, M, F, hm, b, d⟩ := c.ex
  exact pe_make0 M F (hr.mono hk) hg hm b d hx hdb
theorem pe_mk {e : Expr} {es : List Expr} {t : TA} (c : Mak X.prog X.w X.K X.mg X.base k x C sp dvs) (hr : Room j X.A) (hk : k + 1 ≤ j) (hg : Gl X x) (ha : PA X (e :: es) t)
    (hdb : (x == ("__debug__" : Str)) = false := by decide) (he : starEach (e :: es) X.env = (false, eval e X.env) :: starEach es X.env := by rfl) (hpl : (backTo pos (starEach es X.env)).any (·.1) = false := by rfl) :
    PE X (.Call (.Name x p) (e :: es) [] pos) (tMake C sp dvs E0 t) := pe_mkX c hr hk pass0 hg ha hdb he hpl
theorem pe_mk0 (c : Mak X.prog X.w X.K X.mg X.base k x C sp dvs) (hr : Room j X.A) (hk : k + 1 ≤ j) (hg : Gl X x) (hdb : (x == ("__debug__" : Str)) = false := by decide) :
    PE X (.Call (.Name x p) [] [] pos) (tMake C sp dvs E0 tNil) := pe_mkX0 c hr hk pass0 hg hdb
section
variable {e o : Expr} {es : List Expr} {ta : TE} {t : TA}
theorem pe_mtX {CX : CXT} {E : XK} {pl : Sem Bool} (c : MetX CX X.prog X.w X.K X.mg X.base k C m sp dvs) (hr : Room j X.A) (hk : k ≤ j) (hx : Passes CX X E) (he : PE X o ta) (ha : PA X (e :: es) t)
    (hst : starEach (e :: es) X.env = (false, eval e X.env) :: starEach es X.env := by rfl) (hpl : (backTo pos (starEach es X.env)).any (·.1) = false := by rfl)
    (ht : eval (.Call (.Attribute o m apos) (e :: es) [] pos) X.env = (do
      let ov ← eval o X.env
      standAt apos.atName
      let (f, first) ← holding [ov] (getMethod ov m pl)
      callWith pos f first (backTo pos (starEach (e :: es) X.env)) (backToKw pos (keywordEach [] X.env))) := by rfl) :
    PE X (.Call (.Attribute o m apos) (e :: es) [] pos) (tMeth C m sp dvs E ta t) := by
  obtain ⟨f, fd, ps, ds, hc, hm, F, b, d⟩ := c.ex
  exact pe_meth (pl := pl) he hc hm F (hr.mono hk) b d hx ha hst hpl ht
theorem pe_mtX0 {CX : CXT} {E : XK} {pl : Sem Bool} (c : MetX CX X.prog X.w X.K X.mg X.base k C m sp dvs) (hr : Room j X.A) (hk : k ≤ j) (hx : Passes CX X E) (he : PE X o ta)
    (ht : eval (.Call (.Attribute o m apos) [] [] pos) X.env = (do
      let ov ← eval o X.env
      standAt apos.atName
      let (f, first) ← holding [ov] (getMethod ov m pl)
      callWith pos f first (backTo pos (starEach [] X.env)) (backToKw pos (keywordEach [] X.env))) := by rfl) :
    PE X (.Call (.Attribute o m apos) [] [] pos) (tMeth C m sp dvs E ta tNil) := by
  obtain ⟨f, fd, ps, ds, hc, hm, F, b, d⟩ := c.ex
  exact pe_meth0 (pl := pl) he hc hm F (hr.mono hk) b d hx ht
theorem pe_mt {pl : Sem Bool} (c : Met X.prog X.w X.K X.mg X.base k C m sp dvs) (hr : Room j X.A) (hk : k ≤ j) (he : PE X o ta) (ha : PA X (e :: es) t)
    (hst : starEach (e :: es) X.env = (false, eval e X.env) :: starEach es X.env := by rfl) (hpl : (backTo pos (starEach es X.env)).any (·.1) = false := by rfl)
    (ht : eval (.Call (.Attribute o m apos) (e :: es) [] pos) X.env = (do
      let ov ← eval o X.env
      standAt apos.atName
      let (f, first) ← holding [ov] (getMethod ov m pl)
      callWith pos f first (backTo pos (starEach (e :: es) X.env)) (backToKw pos (keywordEach [] X.env))) := by rfl) :
    PE X (.Call (.Attribute o m apos) (e :: es) [] pos) (tMeth C m sp dvs E0 ta t) := pe_mtX (pl := pl) c hr hk pass0 he ha hst hpl ht
theorem pe_mt0 {pl : Sem Bool} (c : Met X.prog X.w X.K X.mg X.base k C m sp dvs) (hr : Room j X.A) (hk : k ≤ j) (he : PE X o ta)
    (ht : eval (.Call (.Attribute o m apos) [] [] pos) X.env = (do
      let ov ← eval o X.env
      standAt apos.atName
      let (f, first) ← holding [ov] (getMethod ov m pl)
      callWith pos f first (backTo pos (starEach [] X.env)) (backToKw pos (keywordEach [] X.env))) := by rfl) :
    PE X (.Call (.Attribute o m apos) [] [] pos) (tMeth C m sp dvs E0 ta tNil) := pe_mtX0 (pl := pl) c hr hk pass0 he ht
end
theorem pe_gc (hg : Gl X x) {v : V} (h : ∃ u, X.mg x = some u ∧ RelV v u) (hd : (x == ("__debug__" : Str)) = false := by decide) : PE X (.Name x p) (tC v) := by
  obtain ⟨u, e, r⟩ := h
  exact pe_glob hg e r hd
/-- xs[i], read ahead of xs[i] op= e -/
theorem get_list : PGet X (rIxL X.K) := by
  intro pins s σ H x y v u Q I rx ry h
  obtain ⟨p, xs, i, z, rfl, rfl, hq, he, q⟩ := h
  cases rx
  obtain ⟨t, rfl⟩ := ry
  obtain ⟨its, r, pl, hz⟩ := I.list hq
  obtain ⟨j, h1, h2, h3, h4, h5⟩ := atI_get he
  obtain ⟨w, ew, rw'⟩ := r.get h2
  have hl := r.length
  have hn := line63
  have fin : EP X pins σ Q w s := ⟨z, H, I, rw', q⟩
  by_cases h0 : 0 ≤ i
  · have hj : i.toNat = j := by
      rw [seqIndex_of h0 h5] at h1
      exact Option.some.inj h1
    exact wpAny_getItem_list pl.isList h0 (by omega) (by rw [hj]; simpa using ew) fin
  · have hj : (i + (its.toArray.size : Int)).toNat = j := by
      rw [seqIndex_neg (by omega) h4] at h1
      rw [List.size_toArray, ← hl]
      exact Option.some.inj h1
    exact wpAny_getItem_list_neg pl.isList (by omega) (by rw [List.size_toArray] <;> omega) (by omega) (by rw [hj]; simpa using ew) fin
end
section
variable {K : PySem.W.Frag} {σ : L2.St} {H : Hp} {Q : VK} {QB : Bool → Hp → Prop} {v x y : V} {ta tb te : TE} {t u : TT} {r : R2} {D : Ends} {QL : List V → Hp → Prop}
/-! ### readings, one step each -/
theorem rd_var {i : Nat} (h : σ[i]? = some (some v)) (q : Q v H) : tVar i σ H Q := ⟨v, h, q⟩
theorem rd_c (q : Q v H) : tC v σ H Q := q
theorem rd_op (q : ta σ H fun x H1 => tb σ H1 fun y H2 => r x y H2 Q) : tOp r ta tb σ H Q := q
theorem rd_i0 {g : Int → Int → V} {i j : Int} (q : Q (g i j) H) : rI0 g (.int i) (.int j) H Q := ⟨i, j, rfl, rfl, q⟩
theorem rd_i {C : Int → Int → Prop} {g : Int → Int → V} {i j : Int} (c : C i j) (q : Q (g i j) H) : rI C g (.int i) (.int j) H Q := ⟨i, j, rfl, rfl, c, q⟩
theorem rd_eq (h : scal x y = true) (q : Q (.bl (decide (x = y))) H) : rEq x y H Q := ⟨h, q⟩
theorem rd_ne (h : scal x y = true) (q : Q (.bl (!decide (x = y))) H) : rNe x y H Q := ⟨h, q⟩
theorem rd_eqi {i j : Int} (q : Q (.bl (decide (i = j))) H) : rEq (.int i) (.int j) H Q := ⟨rfl, by rw [show decide (V.int i = V.int j) = decide (i = j) from decide_eq_decide.mpr (by simp)]; exact q⟩
theorem rd_nei {i j : Int} (q : Q (.bl (!decide (i = j))) H) : rNe (.int i) (.int j) H Q := ⟨rfl, by rw [show decide (V.int i = V.int j) = decide (i = j) from decide_eq_decide.mpr (by simp)]; exact q⟩
theorem rd_tb {b : Bool} {R : Bool → Prop} (q : R b) : ∃ k, V.bl b = .bl k ∧ R k := ⟨b, rfl, q⟩
theorem rd_tTest (q : te σ H fun x H' => ∃ k, x = .bl k ∧ QB k H') : tTest te σ H QB := q
theorem rd_tB (q : te σ H fun x H' => ∃ k, x = .bl k ∧ QB k H') : tB te σ H QB := q
theorem rd_and (q : t σ H fun c H1 => if c = true then u σ H1 QB else QB false H1) : tAnd t u σ H QB := q
theorem rd_or (q : t σ H fun c H1 => if c = true then QB true H1 else u σ H1 QB) : tOr t u σ H QB := q
theorem rd_not (q : t σ H fun c H1 => QB (!c) H1) : tNot t σ H QB := q
theorem rd_ite {b : Bool} {A B : Prop} (h1 : b = true → A) (h2 : b = false → B) : if b = true then A else B := by
  cases b with
  | true => exact iteT (h1 rfl)
  | false => exact iteF (h2 rfl)
theorem rd_nil (q : QL [] H) : tNil σ H QL := q
theorem rd_cons {tr : TA} (q : ta σ H fun x H1 => tr σ H1 fun xs H2 => QL (x :: xs) H2) : tCons ta tr σ H QL := q
theorem rd_call {sp : Sp} {dvs : List V} {E : XK} {ts : TA} (q : ts σ H fun vs H1 => sp (vs ++ dvs) H1 Q E) : tCall sp dvs E ts σ H Q := q
theorem rd_cb {rc : List V → Hp → VK → Prop} {ts : TA} (q : ts σ H fun vs H1 => rc vs H1 Q) : tCB rc ts σ H Q := q
theorem rd_un {ru : V → Hp → VK → Prop} (q : ta σ H fun x H1 => ru x H1 Q) : tUn ru ta σ H Q := q
theorem rd_ixL {p : Addr} {xs : List V} {i : Int} (h : SqL K H p xs) (ha : atI xs i = some v) (q : Q v H) : rIxL K (.ref p) (.int i) H Q := ⟨p, xs, i, v, rfl, rfl, h, ha, q⟩
theorem rd_ixT {p : Addr} {xs : List V} {i : Int} (h : SqT K H p xs) (ha : atI xs i = some v) (q : Q v H) : rIxT K (.ref p) (.int i) H Q := ⟨p, xs, i, v, rfl, rfl, h, ha, q⟩
theorem rd_seq {a b : TS} (q : a { D with nx := b D } σ H) : tSeq a b D σ H := q
theorem rd_nx (q : D.nx σ H) : tNext D σ H := q
theorem rd_asg {g : TG} (q : te σ H fun x H1 => g x σ H1 D.nx) : tAsg te g D σ H := q
theorem rd_gName {i : Nat} {R : L2.St → Hp → Prop} (q : R (σ.set i (some v)) H) : gName i v σ H R := q
theorem rd_gSub {to ti : TE} {s : TSet} {R : L2.St → Hp → Prop} (q : to σ H fun o H1 => ti σ H1 fun i H2 => s o i v H2 fun H3 => R σ H3) : gSub to ti s v σ H R := q
theorem rd_setL {p : Addr} {xs : List V} {k : Int} {j : Nat} {R : Hp → Prop} (h : H p = some (.lst xs)) (hj : ixN xs.length k = some j) (q : R (upd H p (.lst (xs.set j v)))) : rSetL (.ref p) (.int k) v H R := ⟨p, xs, k, j, rfl, rfl, h, hj, q⟩
theorem rd_ret (q : te σ H D.rt) : tRet te D σ H := q
theorem rd_retN (q : D.rt .non H) : tRetN D σ H := q
theorem rd_if {c : TT} {a b : TS} (q : c σ H fun z H1 => if z = true then a D σ H1 else b D σ H1) : tIfS c a b D σ H := q
theorem rd_drop (q : te σ H fun _ H1 => D.nx σ H1) : tDrop te D σ H := q
theorem rd_aug {i : Nat} {ti : TIp} (h : σ[i]? = some (some x)) (q : te σ H fun y H1 => ti x y H1 fun z H2 => D.nx (σ.set i (some z)) H2) : tAug i te ti D σ H := ⟨x, h, q⟩
theorem rd_ipI {f : Int → Int → Int} {i j : Int} (q : Q (.int (f i j)) H) : ipI f (.int i) (.int j) H Q := ⟨i, j, rfl, rfl, q⟩
theorem rd_augS {to ti te : TE} {tg : V → V → Hp → VK → Prop} {tp : TIp} {ts : TSet} (q : to σ H fun o H1 => ti σ H1 fun i H2 => tg o i H2 fun x H3 => te σ H3 fun y H4 => tp x y H4 fun z H5 => ts o i z H5 fun H6 => D.nx σ H6) : tAugS to ti te tg tp ts D σ H := q
theorem rd_tup {ts : TA} (q : ts σ H fun xs H1 => xs.length ≤ sizeLine ∧ ∀ p, H1 p = none → Q (.ref p) (upd H1 p (.tup xs))) : tTup ts σ H Q := q
theorem rd_lst {ts : TA} (q : ts σ H fun xs H1 => xs.length ≤ sizeLine ∧ ∀ p, H1 p = none → Q (.ref p) (upd H1 p (.lst xs))) : tLst ts σ H Q := q
theorem rd_bm0 {T : String} {m : V → List V → Hp → VK → Prop} {to : TE} (q : to σ H fun x H1 => tyV K T x H1 ∧ m x [] H1 Q) : tBM0 K T m to σ H Q := q
theorem rd_bm {T : String} {m : V → List V → Hp → VK → Prop} {to : TE} {ts : TA} (q : to σ H fun x H1 => tyV K T x H1 ∧ ts σ H1 fun xs H2 => m x xs H2 Q) : tBM K T m to ts σ H Q := q
theorem rd_chain {r r' : R2} {tc : TE} (q : ta σ H fun x H1 => tb σ H1 fun y H2 => r x y H2 fun z H3 => ∃ k, z = .bl k ∧ (if k = true then tc σ H3 fun w' H4 => r' y w' H4 Q else Q (.bl false) H3)) : tChain r r' ta tb tc σ H Q := q
theorem rd_andV (q : ta σ H fun x H1 => ∃ c, x = .bl c ∧ if c = true then tb σ H1 Q else Q (.bl false) H1) : tAndV ta tb σ H Q := q
theorem rd_orV (q : ta σ H fun x H1 => ∃ c, x = .bl c ∧ if c = true then Q (.bl true) H1 else tb σ H1 Q) : tOrV ta tb σ H Q := q
theorem rd_notV (q : ta σ H fun x H1 => ∃ c, x = .bl c ∧ Q (.bl (!c)) H1) : tNotV ta σ H Q := q
end
section
variable {K : PySem.W.Frag} {H : Hp} {Q : VK}
theorem rd_isi {x c : V} {t u : Value} {b : Bool} (k : ClsV c u) (ty : TyX K H x t) (e : PySem.W.kitOne K t u = some b) (q : Q (.bl b) H) : rIsi K [x, c] H Q := ⟨x, c, t, u, b, rfl, k, ty, e, q⟩
theorem isi_int_int {i : Int} (q : Q (.bl true) H) : rIsi K [(.int i), .ty "int"] H Q := rd_isi (.ty _) (.base (.int _)) (kit_ty (by decide +kernel)) q
theorem isi_int_bool {i : Int} (q : Q (.bl false) H) : rIsi K [(.int i), .ty "bool"] H Q := rd_isi (.ty _) (.base (.int _)) (kit_ty (by decide +kernel)) q
theorem isi_int_str {i : Int} (q : Q (.bl false) H) : rIsi K [(.int i), .ty "str"] H Q := rd_isi (.ty _) (.base (.int _)) (kit_ty (by decide +kernel)) q
theorem isi_int_list {i : Int} (q : Q (.bl false) H) : rIsi K [(.int i), .ty "list"] H Q := rd_isi (.ty _) (.base (.int _)) (kit_ty (by decide +kernel)) q
theorem isi_int_tuple {i : Int} (q : Q (.bl false) H) : rIsi K [(.int i), .ty "tuple"] H Q := rd_isi (.ty _) (.base (.int _)) (kit_ty (by decide +kernel)) q
theorem isi_int_dict {i : Int} (q : Q (.bl false) H) : rIsi K [(.int i), .ty "dict"] H Q := rd_isi (.ty _) (.base (.int _)) (kit_ty (by decide +kernel)) q
theorem isi_int_bytes {i : Int} (q : Q (.bl false) H) : rIsi K [(.int i), .ty "bytes"] H Q := rd_isi (.ty _) (.base (.int _)) (kit_ty (by decide +kernel)) q
theorem isi_bool_int {i : Bool} (q : Q (.bl true) H) : rIsi K [(.bl i), .ty "int"] H Q := rd_isi (.ty _) (.base (.bl _)) (kit_ty (by decide +kernel)) q
theorem isi_bool_bool {i : Bool} (q : Q (.bl true) H) : rIsi K [(.bl i), .ty "bool"] H Q := rd_isi (.ty _) (.base (.bl _)) (kit_ty (by decide +kernel)) q
theorem isi_bool_str {i : Bool} (q : Q (.bl false) H) : rIsi K [(.bl i), .ty "str"] H Q := rd_isi (.ty _) (.base (.bl _)) (kit_ty (by decide +kernel)) q
theorem isi_bool_list {i : Bool} (q : Q (.bl false) H) : rIsi K [(.bl i), .ty "list"] H Q := rd_isi (.ty _) (.base (.bl _)) (kit_ty (by decide +kernel)) q
theorem isi_bool_tuple {i : Bool} (q : Q (.bl false) H) : rIsi K [(.bl i), .ty "tuple"] H Q := rd_isi (.ty _) (.base (.bl _)) (kit_ty (by decide +kernel)) q
theorem isi_bool_dict {i : Bool} (q : Q (.bl false) H) : rIsi K [(.bl i), .ty "dict"] H Q := rd_isi (.ty _) (.base (.bl _)) (kit_ty (by decide +kernel)) q
theorem isi_bool_bytes {i : Bool} (q : Q (.bl false) H) : rIsi K [(.bl i), .ty "bytes"] H Q := rd_isi (.ty _) (.base (.bl _)) (kit_ty (by decide +kernel)) q
theorem isi_str_int {i : Str} (q : Q (.bl false) H) : rIsi K [(.str i), .ty "int"] H Q := rd_isi (.ty _) (.base (.str _)) (kit_ty (by decide +kernel)) q
theorem isi_str_bool {i : Str} (q : Q (.bl false) H) : rIsi K [(.str i), .ty "bool"] H Q := rd_isi (.ty _) (.base (.str _)) (kit_ty (by decide +kernel)) q
theorem isi_str_str {i : Str} (q : Q (.bl true) H) : rIsi K [(.str i), .ty "str"] H Q := rd_isi (.ty _) (.base (.str _)) (kit_ty (by decide +kernel)) q
theorem isi_str_list {i : Str} (q : Q (.bl false) H) : rIsi K [(.str i), .ty "list"] H Q := rd_isi (.ty _) (.base (.str _)) (kit_ty (by decide +kernel)) q
theorem isi_str_tuple {i : Str} (q : Q (.bl false) H) : rIsi K [(.str i), .ty "tuple"] H Q := rd_isi (.ty _) (.base (.str _)) (kit_ty (by decide +kernel)) q
theorem isi_str_dict {i : Str} (q : Q (.bl false) H) : rIsi K [(.str i), .ty "dict"] H Q := rd_isi (.ty _) (.base (.str _)) (kit_ty (by decide +kernel)) q
theorem isi_str_bytes {i : Str} (q : Q (.bl false) H) : rIsi K [(.str i), .ty "bytes"] H Q := rd_isi (.ty _) (.base (.str _)) (kit_ty (by decide +kernel)) q
theorem isi_NoneType_int  (q : Q (.bl false) H) : rIsi K [.non, .ty "int"] H Q := rd_isi (.ty _) (.base (.non)) (kit_ty (by decide +kernel)) q
theorem isi_NoneType_bool  (q : Q (.bl false) H) : rIsi K [.non, .ty "bool"] H Q := rd_isi (.ty _) (.base (.non)) (kit_ty (by decide +kernel)) q
theorem isi_NoneType_str  (q : Q (.bl false) H) : rIsi K [.non, .ty "str"] H Q := rd_isi (.ty _) (.base (.non)) (kit_ty (by decide +kernel)) q
theorem isi_NoneType_list  (q : Q (.bl false) H) : rIsi K [.non, .ty "list"] H Q := rd_isi (.ty _) (.base (.non)) (kit_ty (by decide +kernel)) q
theorem isi_NoneType_tuple  (q : Q (.bl false) H) : rIsi K [.non, .ty "tuple"] H Q := rd_isi (.ty _) (.base (.non)) (kit_ty (by decide +kernel)) q
theorem isi_NoneType_dict  (q : Q (.bl false) H) : rIsi K [.non, .ty "dict"] H Q := rd_isi (.ty _) (.base (.non)) (kit_ty (by decide +kernel)) q
theorem isi_NoneType_bytes  (q : Q (.bl false) H) : rIsi K [.non, .ty "bytes"] H Q := rd_isi (.ty _) (.base (.non)) (kit_ty (by decide +kernel)) q
theorem isi_list_int {p : Addr} {xs : List V} (h : H p = some (.lst xs)) (q : Q (.bl false) H) : rIsi K [(.ref p), .ty "int"] H Q := rd_isi (.ty _) (.base (.lst h)) (kit_ty (by decide +kernel)) q
theorem isi_list_bool {p : Addr} {xs : List V} (h : H p = some (.lst xs)) (q : Q (.bl false) H) : rIsi K [(.ref p), .ty "bool"] H Q := rd_isi (.ty _) (.base (.lst h)) (kit_ty (by decide +kernel)) q
theorem isi_list_str {p : Addr} {xs : List V} (h : H p = some (.lst xs)) (q : Q (.bl false) H) : rIsi K [(.ref p), .ty "str"] H Q := rd_isi (.ty _) (.base (.lst h)) (kit_ty (by decide +kernel)) q
theorem isi_list_list {p : Addr} {xs : List V} (h : H p = some (.lst xs)) (q : Q (.bl true) H) : rIsi K [(.ref p), .ty "list"] H Q := rd_isi (.ty _) (.base (.lst h)) (kit_ty (by decide +kernel)) q
theorem isi_list_tuple {p : Addr} {xs : List V} (h : H p = some (.lst xs)) (q : Q (.bl false) H) : rIsi K [(.ref p), .ty "tuple"] H Q := rd_isi (.ty _) (.base (.lst h)) (kit_ty (by decide +kernel)) q
theorem isi_list_dict {p : Addr} {xs : List V} (h : H p = some (.lst xs)) (q : Q (.bl false) H) : rIsi K [(.ref p), .ty "dict"] H Q := rd_isi (.ty _) (.base (.lst h)) (kit_ty (by decide +kernel)) q
theorem isi_list_bytes {p : Addr} {xs : List V} (h : H p = some (.lst xs)) (q : Q (.bl false) H) : rIsi K [(.ref p), .ty "bytes"] H Q := rd_isi (.ty _) (.base (.lst h)) (kit_ty (by decide +kernel)) q
theorem isi_tuple_int {p : Addr} {xs : List V} (h : H p = some (.tup xs)) (q : Q (.bl false) H) : rIsi K [(.ref p), .ty "int"] H Q := rd_isi (.ty _) (.base (.tup h)) (kit_ty (by decide +kernel)) q
theorem isi_tuple_bool {p : Addr} {xs : List V} (h : H p = some (.tup xs)) (q : Q (.bl false) H) : rIsi K [(.ref p), .ty "bool"] H Q := rd_isi (.ty _) (.base (.tup h)) (kit_ty (by decide +kernel)) q
theorem isi_tuple_str {p : Addr} {xs : List V} (h : H p = some (.tup xs)) (q : Q (.bl false) H) : rIsi K [(.ref p), .ty "str"] H Q := rd_isi (.ty _) (.base (.tup h)) (kit_ty (by decide +kernel)) q
theorem isi_tuple_list {p : Addr} {xs : List V} (h : H p = some (.tup xs)) (q : Q (.bl false) H) : rIsi K [(.ref p), .ty "list"] H Q := rd_isi (.ty _) (.base (.tup h)) (kit_ty (by decide +kernel)) q
theorem isi_tuple_tuple {p : Addr} {xs : List V} (h : H p = some (.tup xs)) (q : Q (.bl true) H) : rIsi K [(.ref p), .ty "tuple"] H Q := rd_isi (.ty _) (.base (.tup h)) (kit_ty (by decide +kernel)) q
theorem isi_tuple_dict {p : Addr} {xs : List V} (h : H p = some (.tup xs)) (q : Q (.bl false) H) : rIsi K [(.ref p), .ty "dict"] H Q := rd_isi (.ty _) (.base (.tup h)) (kit_ty (by decide +kernel)) q
theorem isi_tuple_bytes {p : Addr} {xs : List V} (h : H p = some (.tup xs)) (q : Q (.bl false) H) : rIsi K [(.ref p), .ty "bytes"] H Q := rd_isi (.ty _) (.base (.tup h)) (kit_ty (by decide +kernel)) q
theorem isi_dict_int {p : Addr} {xs : List (Key × V)} (h : H p = some (.dK xs)) (q : Q (.bl false) H) : rIsi K [(.ref p), .ty "int"] H Q := rd_isi (.ty _) (.base (.dK h)) (kit_ty (by decide +kernel)) q
theorem isi_dict_bool {p : Addr} {xs : List (Key × V)} (h : H p = some (.dK xs)) (q : Q (.bl false) H) : rIsi K [(.ref p), .ty "bool"] H Q := rd_isi (.ty _) (.base (.dK h)) (kit_ty (by decide +kernel)) q
theorem isi_dict_str {p : Addr} {xs : List (Key × V)} (h : H p = some (.dK xs)) (q : Q (.bl false) H) : rIsi K [(.ref p), .ty "str"] H Q := rd_isi (.ty _) (.base (.dK h)) (kit_ty (by decide +kernel)) q
theorem isi_dict_list {p : Addr} {xs : List (Key × V)} (h : H p = some (.dK xs)) (q : Q (.bl false) H) : rIsi K [(.ref p), .ty "list"] H Q := rd_isi (.ty _) (.base (.dK h)) (kit_ty (by decide +kernel)) q
theorem isi_dict_tuple {p : Addr} {xs : List (Key × V)} (h : H p = some (.dK xs)) (q : Q (.bl false) H) : rIsi K [(.ref p), .ty "tuple"] H Q := rd_isi (.ty _) (.base (.dK h)) (kit_ty (by decide +kernel)) q
theorem isi_dict_dict {p : Addr} {xs : List (Key × V)} (h : H p = some (.dK xs)) (q : Q (.bl true) H) : rIsi K [(.ref p), .ty "dict"] H Q := rd_isi (.ty _) (.base (.dK h)) (kit_ty (by decide +kernel)) q
theorem isi_dict_bytes {p : Addr} {xs : List (Key × V)} (h : H p = some (.dK xs)) (q : Q (.bl false) H) : rIsi K [(.ref p), .ty "bytes"] H Q := rd_isi (.ty _) (.base (.dK h)) (kit_ty (by decide +kernel)) q
end
/-! ### rules under names -/
def qIsN : R2 := fun x y H Q => y = .non ∧ Q (.bl (decide (x = .non))) H
def qNotN : R2 := fun x y H Q => y = .non ∧ Q (.bl (!decide (x = .non))) H
def qInt1 : List V → Hp → VK → Prop := fun xs H Q => (∃ i, xs = [.int i] ∧ Q (.int i) H) ∨ ∃ k, xs = [.bl k] ∧ Q (.int (if k then 1 else 0)) H
def qBool1 : List V → Hp → VK → Prop := fun xs H Q => (∃ i, xs = [.int i] ∧ Q (.bl (i != 0)) H) ∨ ∃ k, xs = [.bl k] ∧ Q (.bl k) H
def qLen (K : PySem.W.Frag) : List V → Hp → VK → Prop := fun xs H Q => ∃ p ys, xs = [.ref p] ∧ (SqL K H p ys ∨ SqT K H p ys) ∧ Q (.int ys.length) H
def qLenS : List V → Hp → VK → Prop := fun xs H Q => ∃ z, xs = [.str z] ∧ z.length ≤ sizeLine ∧ Q (.int z.length) H
def qListOf (K : PySem.W.Frag) : List V → Hp → VK → Prop := fun xs H Q => ∃ p ys, xs = [.ref p] ∧ (SqL K H p ys ∨ SqT K H p ys) ∧ ∀ l, H l = none → Q (.ref l) (upd H l (.lst ys))
def qMax2 : List V → Hp → VK → Prop := fun xs H Q => ∃ i j, xs = [.int i, .int j] ∧ Q (.int (if j > i then j else i)) H
def qMin2 : List V → Hp → VK → Prop := fun xs H Q => ∃ i j, xs = [.int i, .int j] ∧ Q (.int (if j < i then j else i)) H
section
variable {X : Cx} {K : PySem.W.Frag} {H : Hp} {Q : VK} {x : V}
theorem op_isNq : OpR X (compareOp .Is) qIsN := op_isN
theorem op_notNq : OpR X (compareOp .IsNot) qNotN := op_notN
theorem call_int1q : CallR X (.type "int") qInt1 := call_int1
theorem call_bool1q : CallR X (.type "bool") qBool1 := call_bool1
theorem call_lenq : CallR X (.builtin "len") (qLen X.K) := call_len_seq
theorem call_lenSq : CallR X (.builtin "len") qLenS := call_len_str
theorem call_listq : CallR X (.type "list") (qListOf X.K) := call_list_of
theorem call_max2q (hc : X.calm = true) : CallR X (.builtin "max") qMax2 := call_max2 hc
theorem call_min2q (hc : X.calm = true) : CallR X (.builtin "min") qMin2 := call_min2 hc
theorem rd_isNn (q : Q (.bl true) H) : qIsN .non .non H Q := ⟨rfl, q⟩
theorem rd_isNi {i : Int} (q : Q (.bl false) H) : qIsN (.int i) .non H Q := ⟨rfl, q⟩
theorem rd_isNb {i : Bool} (q : Q (.bl false) H) : qIsN (.bl i) .non H Q := ⟨rfl, q⟩
theorem rd_isNs {i : Str} (q : Q (.bl false) H) : qIsN (.str i) .non H Q := ⟨rfl, q⟩
theorem rd_isNr {i : Addr} (q : Q (.bl false) H) : qIsN (.ref i) .non H Q := ⟨rfl, q⟩
theorem rd_notNn (q : Q (.bl false) H) : qNotN .non .non H Q := ⟨rfl, q⟩
theorem rd_notNi {i : Int} (q : Q (.bl true) H) : qNotN (.int i) .non H Q := ⟨rfl, q⟩
theorem rd_notNb {i : Bool} (q : Q (.bl true) H) : qNotN (.bl i) .non H Q := ⟨rfl, q⟩
theorem rd_notNs {i : Str} (q : Q (.bl true) H) : qNotN (.str i) .non H Q := ⟨rfl, q⟩
theorem rd_notNr {i : Addr} (q : Q (.bl true) H) : qNotN (.ref i) .non H Q := ⟨rfl, q⟩
theorem rd_int1 {i : Int} (q : Q (.int i) H) : qInt1 [.int i] H Q := .inl ⟨i, rfl, q⟩
theorem rd_int1b {k : Bool} (q : Q (.int (if k then 1 else 0)) H) : qInt1 [.bl k] H Q := .inr ⟨k, rfl, q⟩
theorem rd_lenL {p : Addr} {xs : List V} (h : SqL K H p xs) (q : Q (.int xs.length) H) : qLen K [.ref p] H Q := ⟨p, xs, rfl, .inl h, q⟩
theorem rd_lenT {p : Addr} {xs : List V} (h : SqT K H p xs) (q : Q (.int xs.length) H) : qLen K [.ref p] H Q := ⟨p, xs, rfl, .inr h, q⟩
theorem rd_listL {p : Addr} {xs : List V} (h : SqL K H p xs) (q : ∀ l, H l = none → Q (.ref l) (upd H l (.lst xs))) : qListOf K [.ref p] H Q := ⟨p, xs, rfl, .inl h, q⟩
end
section
variable {K : PySem.W.Frag} {H : Hp} {Q : VK}
theorem rd_xor {a b : Nat} (q : Q (.int ((a ^^^ b : Nat) : Int)) H) : rI0 (fun i j => .int (Builtin.bitXor i j)) (.int (a : Int)) (.int (b : Int)) H Q :=
  rd_i0 (by rw [Bits.bitXor_pp (x := (a : Int)) (y := (b : Int)) (by omega) (by omega)]; exact q)
theorem iteNF {A B : Prop} (h : A) : if (!false) = true then A else B := by
  rw [if_pos (show (!false) = true from rfl)]
  exact h
theorem iteNT {A B : Prop} (h : B) : if (!true) = true then A else B := by
  rw [if_neg (by decide)]
  exact h
theorem iteNS' {c A B : Prop} [Decidable c] (hc : ¬ c) (h : A) : if (!decide c) = true then A else B := by
  rw [decide_eq_false hc]
  exact iteNF h
theorem iteD {c A B : Prop} [Decidable c] (hc : c) (h : A) : if decide c = true then A else B := by
  rw [decide_eq_true hc]
  exact iteT h
theorem iteDn {c A B : Prop} [Decidable c] (hc : ¬ c) (h : B) : if decide c = true then A else B := by
  rw [decide_eq_false hc]
  exact iteF h
theorem atI_int {ns : List Int} {i : Int} (h0 : 0 ≤ i) (h1 : i < ns.length) : ∃ z : Int, atI (ns.map V.int) i = some (.int z) ∧ ns[i.toNat]? = some z := by
  have hk : i.toNat < ns.length := by omega
  have e : ((i.toNat : Nat) : Int) = i := by omega
  refine ⟨ns[i.toNat], ?_, List.getElem?_eq_getElem hk⟩
  have q : atI (ns.map V.int) ((i.toNat : Nat) : Int) = some (.int ns[i.toNat]) := atI_nat (by rw [List.getElem?_map, List.getElem?_eq_getElem hk] <;> rfl)
  rw [e] at q
  exact q
theorem same_new {H : Hp} {p : Addr} (h : H p = none) (o : HO) : Same H (upd H p o) := fun b u q => by rw [upd_ne (ne_of_none q h)]; exact q
end
/-- a statement, then the rest, with a word between them: what follows is shown once -/
def qJoin (t u : TS) : TS := fun D σ H => ∃ Mid : L2.St → Hp → Prop, t { D with nx := Mid } σ H ∧ ∀ σ' H', Mid σ' H' → u D σ' H'
theorem pss_join {X : Cx} {st : Stmt} {rest : List Stmt} {t u : TS} (h1 : PS X st t) (h2 : PSs X rest u) : PSs X (st :: rest) (qJoin t u) := by
  refine ⟨fun pins s σ H D I h => ?_⟩
  obtain ⟨Mid, h, k⟩ := h
  refine wpAny_execs_cons (thn (h1.run pins s σ H { D with nx := Mid } I h) fun f s1 q => ?_)
  cases f with
  | next =>
    obtain ⟨σ', H', I', q⟩ := q
    exact h2.run pins s1 σ' H' D I' (k σ' H' q)
  | ret v => exact q
  | brk => exact q
  | cont => exact q
theorem cx_K {CX : CXT} {P : Program} {w : World} {K : PySem.W.Frag} {mg : Str → Option Value} {base : Heap} {N : List Str} {qual : Str} {sc : Scope} {f : Addr} {cd : Value} {A : Around} {outer : List Env} {s : Shared} {H : Hp} {E : XK} : (cxOf CX P w K mg base N qual sc f cd A outer s H E).nox.K = K := rfl
theorem cx_K2 {CX : CXT} {P : Program} {w : World} {K : PySem.W.Frag} {mg : Str → Option Value} {base : Heap} {N : List Str} {qual : Str} {sc : Scope} {f : Addr} {cd : Value} {A : Around} {outer : List Env} {s : Shared} {H : Hp} {E : XK} : (cxOf CX P w K mg base N qual sc f cd A outer s H E).K = K := rfl
theorem cx_w {CX : CXT} {P : Program} {w : World} {K : PySem.W.Frag} {mg : Str → Option Value} {base : Heap} {N : List Str} {qual : Str} {sc : Scope} {f : Addr} {cd : Value} {A : Around} {outer : List Env} {s : Shared} {H : Hp} {E : XK} : (cxOf CX P w K mg base N qual sc f cd A outer s H E).nox.w = w := rfl
def top (i : Nat) : Stmt := PySem.Challenge.pw_steadwhole_k03_field_of_bytes.main.body.getD i (.Pass ⟨0, 0, 0, 0⟩)
abbrev s_double : Stmt := top 4
abbrev s_product : Stmt := top 5
abbrev s_inverse : Stmt := top 6
abbrev s_law_next : Stmt := top 8
abbrev s_law_same : Stmt := top 9
abbrev s_law_times : Stmt := top 10
abbrev s_law_asks : Stmt := top 11
abbrev s_law : Stmt := top 12
abbrev nm_double : List Str := ["a"]
abbrev pm_double : List Str := ["a"]
theorem sc_double : FnScope nm_double pm_double (defScope s_double) := ⟨rfl, rfl, rfl, by decide +kernel, rfl, by decide +kernel, by decide +kernel⟩
theorem bd_double : BindAll "double" "double" s_double pm_double := fun _ _ _ _ _ _ us hl => match us, hl with | [_], _ => rfl
abbrev nm_product : List Str := ["a", "b", "total"]
abbrev pm_product : List Str := ["a", "b"]
theorem sc_product : FnScope nm_product pm_product (defScope s_product) := ⟨rfl, rfl, rfl, by decide +kernel, rfl, by decide +kernel, by decide +kernel⟩
theorem bd_product : BindAll "product" "product" s_product pm_product := fun _ _ _ _ _ _ us hl => match us, hl with | [_, _], _ => rfl
abbrev nm_inverse : List Str := ["a", "result", "_"]
abbrev pm_inverse : List Str := ["a"]
theorem sc_inverse : FnScope nm_inverse pm_inverse (defScope s_inverse) := ⟨rfl, rfl, rfl, by decide +kernel, rfl, by decide +kernel, by decide +kernel⟩
theorem bd_inverse : BindAll "inverse" "inverse" s_inverse pm_inverse := fun _ _ _ _ _ _ us hl => match us, hl with | [_], _ => rfl
abbrev nm_law_next : List Str := ["state", "limit", "cell", "value"]
abbrev pm_law_next : List Str := ["state", "limit"]
theorem sc_law_next : FnScope nm_law_next pm_law_next (defScope s_law_next) := ⟨rfl, rfl, rfl, by decide +kernel, rfl, by decide +kernel, by decide +kernel⟩
theorem bd_law_next : BindAll "_law_next" "_law_next" s_law_next pm_law_next := fun _ _ _ _ _ _ us hl => match us, hl with | [_, _], _ => rfl
abbrev nm_law_same : List Str := ["actual", "expected", "k"]
abbrev pm_law_same : List Str := ["actual", "expected"]
theorem sc_law_same : FnScope nm_law_same pm_law_same (defScope s_law_same) := ⟨rfl, rfl, rfl, by decide +kernel, rfl, by decide +kernel, by decide +kernel⟩
theorem bd_law_same : BindAll "_law_same" "_law_same" s_law_same pm_law_same := fun _ _ _ _ _ _ us hl => match us, hl with | [_, _], _ => rfl
abbrev nm_law_times : List Str := ["a", "b", "total", "k", "bound", "taken"]
abbrev pm_law_times : List Str := ["a", "b"]
theorem sc_law_times : FnScope nm_law_times pm_law_times (defScope s_law_times) := ⟨rfl, rfl, rfl, by decide +kernel, rfl, by decide +kernel, by decide +kernel⟩
theorem bd_law_times : BindAll "_law_times" "_law_times" s_law_times pm_law_times := fun _ _ _ _ _ _ us hl => match us, hl with | [_, _], _ => rfl
abbrev nm_law_asks : List Str := ["a", "b", "c", "other"]
abbrev pm_law_asks : List Str := ["a", "b", "c"]
theorem sc_law_asks : FnScope nm_law_asks pm_law_asks (defScope s_law_asks) := ⟨rfl, rfl, rfl, by decide +kernel, rfl, by decide +kernel, by decide +kernel⟩
theorem bd_law_asks : BindAll "_law_asks" "_law_asks" s_law_asks pm_law_asks := fun _ _ _ _ _ _ us hl => match us, hl with | [_, _, _], _ => rfl
abbrev nm_law : List Str := ["script", "state", "drawn", "k", "a", "b"]
abbrev pm_law : List Str := ["script"]
theorem sc_law : FnScope nm_law pm_law (defScope s_law) := ⟨rfl, rfl, rfl, by decide +kernel, rfl, by decide +kernel, by decide +kernel⟩
theorem bd_law : BindAll "law" "law" s_law pm_law := fun _ _ _ _ _ _ us hl => match us, hl with | [_], _ => rfl
/-- what the top has left -/
structure Txt (K : PySem.W.Frag) (mg : Str → Option Value) : Prop where
  f_double : GFun K mg "double" s_double
  f_product : GFun K mg "product" s_product
  f_inverse : GFun K mg "inverse" s_inverse
  f_law_next : GFun K mg "_law_next" s_law_next
  f_law_same : GFun K mg "_law_same" s_law_same
  f_law_times : GFun K mg "_law_times" s_law_times
  f_law_asks : GFun K mg "_law_asks" s_law_asks
  f_law : GFun K mg "law" s_law
  g_BITS : ∃ u, mg "BITS" = some u ∧ RelV (.int 8) u
  g_BYTES : ∃ u, mg "BYTES" = some u ∧ RelV (.int 256) u
  g_OVERFLOW : ∃ u, mg "OVERFLOW" = some u ∧ RelV (.int 285) u
  z_bool : mg "bool" = none
  z_int : mg "int" = none
  z_isinstance : mg "isinstance" = none
  z_len : mg "len" = none
  z_list : mg "list" = none
  z_range : mg "range" = none
  z_str : mg "str" = none
  z_tuple : mg "tuple" = none
local macro_rules | `(tactic| walk_at "k") => `(tactic| (try dsimp only [cx_K, cx_K2, cx_w]))
local macro_rules | `(tactic| walk_at "ne") => `(tactic| first | assumption | exact Ne.symm (by assumption) | exact ne_of_none (by assumption) (by assumption) | exact Ne.symm (ne_of_none (by assumption) (by assumption)) | exact ne_of (by assumption) (by assumption) (by intro z; cases z))
local macro_rules | `(tactic| walk_at "hp") => `(tactic| first | exact upd_same | assumption | exact SqL.of (by assumption) | exact SqT.of (by assumption) | exact SqL.of upd_same | exact SqT.of upd_same | (refine Eq.trans (upd_ne ?n) ?_ <;> first | (walk_at "hp"; done) | (walk_at "ne"; done)) | (refine SqL.of (Eq.trans (upd_ne ?n) ?_) <;> first | (walk_at "hp"; done) | (walk_at "ne"; done)))
local macro_rules | `(tactic| walk_at "ci") => `(tactic| first | exact .inl ⟨by decide, by decide⟩ | exact .inr ⟨by decide, by decide⟩ | exact .inl ⟨by omega, by omega⟩ | exact .inr ⟨by omega, by omega⟩ | (show (0 : Int) < _; omega) | (show (0 : Int) ≤ _; omega) | exact ⟨by omega, by omega⟩ | exact ⟨by omega, by omega, by omega⟩ | exact ⟨by decide, by decide, by decide⟩)
local macro_rules | `(tactic| walk_at "isi") => `(tactic| with_reducible (first | refine isi_int_int ?_ | refine isi_int_bool ?_ | refine isi_int_str ?_ | refine isi_int_list ?_ | refine isi_int_tuple ?_ | refine isi_int_dict ?_ | refine isi_int_bytes ?_ | refine isi_bool_int ?_ | refine isi_bool_bool ?_ | refine isi_bool_str ?_ | refine isi_bool_list ?_ | refine isi_bool_tuple ?_ | refine isi_bool_dict ?_ | refine isi_bool_bytes ?_ | refine isi_str_int ?_ | refine isi_str_bool ?_ | refine isi_str_str ?_ | refine isi_str_list ?_ | refine isi_str_tuple ?_ | refine isi_str_dict ?_ | refine isi_str_bytes ?_ | refine isi_NoneType_int ?_ | refine isi_NoneType_bool ?_ | refine isi_NoneType_str ?_ | refine isi_NoneType_list ?_ | refine isi_NoneType_tuple ?_ | refine isi_NoneType_dict ?_ | refine isi_NoneType_bytes ?_))
local macro_rules | `(tactic| walk_at "rd1") => `(tactic| first | (with_reducible (first | refine rd_seq ?_ | refine rd_var rfl ?_ | refine rd_c ?_ | refine rd_op ?_ | refine rd_asg ?_ | refine rd_gName ?_ | refine rd_xor ?_ | refine rd_i0 ?_ | refine rd_if ?_ | refine rd_tTest ?_ | refine rd_tB ?_ | refine rd_tb ?_ | refine rd_ret ?_ | refine rd_retN ?_ | refine rd_nx ?_ | refine rd_drop ?_ | refine rd_eqi ?_ | refine rd_nei ?_ | refine rd_eq rfl ?_ | refine rd_ne rfl ?_ | refine rd_call ?_ | refine rd_cons ?_ | refine rd_nil ?_ | refine rd_cb ?_ | refine rd_un ?_ | refine rd_and ?_ | refine rd_or ?_ | refine rd_not ?_ | refine rd_andV ?_ | refine rd_orV ?_ | refine rd_notV ?_ | refine rd_gSub ?_ | refine rd_augS ?_ | refine rd_aug rfl ?_ | refine rd_ipI ?_ | refine rd_tup ?_ | refine rd_lst ?_ | refine rd_bm0 ?_ | refine rd_bm ?_ | refine rd_chain ?_ | refine iteT ?_ | refine iteF ?_ | refine iteNT ?_ | refine iteNF ?_ | refine rd_int1 ?_ | refine rd_int1b ?_ | refine rd_isNn ?_ | refine rd_isNi ?_ | refine rd_isNb ?_ | refine rd_isNs ?_ | refine rd_isNr ?_ | refine rd_notNn ?_ | refine rd_notNi ?_ | refine rd_notNb ?_ | refine rd_notNs ?_ | refine rd_notNr ?_)) | ((with_reducible refine rd_i ?c ?_); (case c => walk_at "ci")) | ((with_reducible refine' rd_ixL ?h ?a ?_); (case h => walk_at "hp"); (case a => rfl)) | ((with_reducible refine' rd_setL ?h ?a ?_); (case h => walk_at "hp"); (case a => rfl)) | ((with_reducible refine' rd_lenL ?h ?_); (case h => walk_at "hp")) | walk_at "isi")
local macro_rules | `(tactic| walk_at "rd") => `(tactic| repeat (walk_at "rd1"))
/-! ### what the defs compute -/
def dbl (a : Nat) : Nat := if 2 * a < 256 then 2 * a else (2 * a) ^^^ 285
def prodF : Nat → Nat → Nat → Nat → Nat
  | 0, _, _, t => t
  | n + 1, a, b, t => prodF n (dbl a) (b / 2) (if b % 2 = 1 then t ^^^ a else t)
def prod (a b : Nat) : Nat := prodF 8 a b 0
def invF : Nat → Nat → Nat → Nat
  | 0, _, r => r
  | n + 1, a, r => invF n (prod a a) (prod r (prod a a))
def inv (a : Nat) : Nat := invF 7 a 1
def timA : Nat → Nat → Nat → Nat → Nat
  | 0, _, _, t => t
  | n + 1, a, b, t => timA n (2 * a) (b / 2) (if b % 2 = 1 then t ^^^ a else t)
def timB : Nat → Nat → Nat → Nat → Nat
  | 0, t, _, _ => t
  | n + 1, t, b, k => timB n (if b ≤ t then t ^^^ k else t) (b / 2) (k / 2)
def tim (a b : Nat) : Nat := timB 8 (timA 8 a b 0) 32768 36480
theorem dbl_lt {a : Nat} (h : a < 256) : dbl a < 256 := by
  have z : ((List.range 256).all fun a => decide (dbl a < 256)) = true := by decide +kernel
  exact of_decide_eq_true (List.all_eq_true.mp z a (List.mem_range.mpr h))
theorem xor_lt {a b : Nat} (h : a < 256) (k : b < 256) : a ^^^ b < 256 := Nat.xor_lt_two_pow (n := 8) h k
theorem prodF_lt : ∀ (n a b t : Nat), a < 256 → t < 256 → prodF n a b t < 256
  | 0, _, _, _, _, h => h
  | n + 1, a, b, t, ha, ht => by
    refine prodF_lt n _ _ _ (dbl_lt ha) ?_
    split
    · exact xor_lt ht ha
    · exact ht
theorem prod_lt {a b : Nat} (ha : a < 256) : prod a b < 256 := prodF_lt 8 a b 0 ha (by decide)
theorem prodF_zero : ∀ (n a t : Nat), prodF n a 0 t = t
  | 0, _, _ => rfl
  | n + 1, a, t => by
    show prodF n (dbl a) (0 / 2) (if 0 % 2 = 1 then t ^^^ a else t) = t
    rw [if_neg (by decide)]
    exact prodF_zero n _ t
/-! ### promises -/
def sp_double : Sp := fun vs H Q _ => ∃ a : Nat, vs = [.int a] ∧ a < 256 ∧ Q (.int (dbl a)) H
def sp_product : Sp := fun vs H Q _ => ∃ a b : Nat, vs = [.int a, .int b] ∧ a < 256 ∧ b < 256 ∧ Q (.int (prod a b)) H
section
variable {P : Program} {w : World} {K : PySem.W.Frag} {mg : Str → Option Value} {base : Heap}
theorem ok_double (T : Txt K mg) : Cal P w K mg base 1 "double" sp_double [] := by
  refine T.f_double.cal sc_double bd_double (fun vs H Q E h => ?_) fun f cdv A outer s H vs Q E hr h => ?_
  · obtain ⟨a, rfl, _⟩ := h; rfl
  obtain ⟨a, rfl, ha, k⟩ := h
  refine ⟨_, (pss_cons (ps_if (pt_cmpR op_lt (pe_op op_mul pe_int (pv 0)) (pe_gc (by rfl) T.g_BYTES) (nomark _)) (pss_one (ps_ret (pe_op op_mul pe_int (pv 0)))) pss_nil)
      (pss_one (ps_ret (pe_op op_xor (pe_op op_mul pe_int (pv 0)) (pe_gc (by rfl) T.g_OVERFLOW))))), ?_⟩
  walk_at "rd"
  refine rd_ite (fun c => ?_) (fun c => ?_)
  · have c' := of_decide_eq_true c
    walk_at "rd"
    have e : dbl a = 2 * a := if_pos (by omega)
    rw [e] at k
    exact k
  · have c' := of_decide_eq_false c
    walk_at "rd"
    have e : dbl a = (2 * a) ^^^ 285 := if_neg (by omega)
    have e2 : Builtin.bitXor (2 * (a : Int)) 285 = (((2 * a) ^^^ 285 : Nat) : Int) := Bits.bitXor_pp (x := 2 * (a : Int)) (y := 285) (by omega) (by omega)
    rw [e] at k
    rw [e2]
    exact k
theorem ok_product (T : Txt K mg) : Cal P w K mg base 2 "product" sp_product [] := by
  refine T.f_product.cal sc_product bd_product (fun vs H Q E h => ?_) fun f cdv A outer s H vs Q E hr h => ?_
  · obtain ⟨a, b, rfl, _⟩ := h; rfl
  obtain ⟨a, b, rfl, ha, hb, k⟩ := h
  refine ⟨_, (pss_cons (ps_set (i := 2) sc_product.nd rfl (Or.inl rfl) pe_int)
      (pss_cons (ps_while PassesOwn.never (pt_cmpR op_gt (pv 1) pe_int (nomark _)) (pss_cons (ps_if (pt_cmpR op_eq (pe_op op_mod (pv 1) pe_int) pe_int (nomark _)) (pss_one (ps_set (i := 2) sc_product.nd rfl (Or.inl rfl) (pe_op op_xor (pv 2) (pv 0)))) pss_nil)
      (pss_cons (ps_set (i := 0) sc_product.nd rfl (Or.inl rfl) (pe_c (ok_double T) hr (by decide) rfl (pa_cons (pv 0) pa_nil)))
      (pss_one (ps_set (i := 1) sc_product.nd rfl (Or.inl rfl) (pe_op op_fdiv (pv 1) pe_int))))))
      (pss_one (ps_ret (pv 2))))), ?_⟩
  walk_at "rd"
  refine ⟨fun m σ H' => ∃ n a' b' t' : Nat, σ = [some (.int a'), some (.int b'), some (.int t')] ∧ H' = H ∧ m = b' ∧ a' < 256 ∧ t' < 256 ∧ b' < 2 ^ n ∧ prodF n a' b' t' = prod a b, ⟨b, 8, a, b, 0, rfl, rfl, rfl, ha, by decide, hb, rfl⟩, ?_⟩
  rintro m σ H' ⟨n, a', b', t', rfl, rfl, rfl, ha', ht', hb', e⟩
  walk_at "rd"
  refine rd_ite (fun c => ?_) (fun c => ?_)
  · have c' := of_decide_eq_true c
    refine ⟨_, fun _ _ h => h, ?_⟩
    obtain ⟨n', rfl⟩ : ∃ n', n = n' + 1 := by
      cases n with
      | zero => simp at hb'; omega
      | succ n' => exact ⟨n', rfl⟩
    have hb2 : m / 2 < 2 ^ n' := by rw [Nat.pow_succ] at hb'; omega
    walk_at "rd"
    refine rd_ite (fun c => ?_) (fun c => ?_)
    · have c2 := of_decide_eq_true c
      walk_at "rd"
      refine ⟨a', rfl, ha', ?_⟩
      walk_at "rd"
      refine ⟨m / 2, by omega, n', dbl a', m / 2, t' ^^^ a', rfl, rfl, rfl, dbl_lt ha', xor_lt ht' ha', hb2, ?_⟩
      rw [← e]
      show _ = prodF n' (dbl a') (m / 2) (if m % 2 = 1 then t' ^^^ a' else t')
      rw [if_pos (by omega)]
    · have c2 := of_decide_eq_false c
      walk_at "rd"
      refine ⟨a', rfl, ha', ?_⟩
      walk_at "rd"
      refine ⟨m / 2, by omega, n', dbl a', m / 2, t', rfl, rfl, rfl, dbl_lt ha', ht', hb2, ?_⟩
      rw [← e]
      show _ = prodF n' (dbl a') (m / 2) (if m % 2 = 1 then t' ^^^ a' else t')
      rw [if_neg (by omega)]
  · have c' := of_decide_eq_false c
    have e0 : m = 0 := by omega
    subst e0
    walk_at "rd"
    rw [prodF_zero] at e
    rw [e]
    exact k
def sp_inverse : Sp := fun vs H Q _ => ∃ a : Nat, vs = [.int a] ∧ a < 256 ∧ Q (.int (inv a)) H
theorem ok_inverse (T : Txt K mg) : Cal P w K mg base 3 "inverse" sp_inverse [] := by
  refine T.f_inverse.cal sc_inverse bd_inverse (fun vs H Q E h => ?_) fun f cdv A outer s H vs Q E hr h => ?_
  · obtain ⟨a, rfl, _⟩ := h; rfl
  obtain ⟨a, rfl, ha, k⟩ := h
  refine ⟨_, (pss_cons (ps_set (i := 1) sc_inverse.nd rfl (Or.inl rfl) pe_int)
      (pss_cons (ps_for PassesOwn.never rfl (pi_range1 rfl T.z_range (pa_cons (pe_op op_sub (pe_gc (by rfl) T.g_BITS) pe_int) pa_nil)) (pg_name (i := 2) sc_inverse.nd rfl (Or.inl rfl))
      (pss_cons (ps_set (i := 0) sc_inverse.nd rfl (Or.inl rfl) (pe_c (ok_product T) hr (by decide) rfl (pa_cons (pv 0) (pa_cons (pv 0) pa_nil))))
      (pss_one (ps_set (i := 1) sc_inverse.nd rfl (Or.inl rfl) (pe_c (ok_product T) hr (by decide) rfl (pa_cons (pv 1) (pa_cons (pv 0) pa_nil)))))))
      (pss_one (ps_ret (pv 1))))), ?_⟩
  walk_at "rd"
  refine ⟨8, 1, rfl, rfl, 7, rfl, by decide, by decide, for_range (lo := 0) (n := 7) (fun i σ H' => ∃ (a' r : Nat) (kk : Option V), σ = [some (.int a'), some (.int r), kk] ∧ H' = H ∧ a' < 256 ∧ r < 256 ∧ invF (7 - i) a' r = inv a) ⟨a, 1, none, rfl, rfl, ha, by decide, rfl⟩ ?_ ?_⟩
  · rintro i σ H' hi ⟨a', r, kk, rfl, rfl, ha', hr', e⟩
    walk_at "rd"
    refine ⟨a', a', rfl, ha', ha', ?_⟩
    walk_at "rd"
    refine ⟨r, prod a' a', rfl, hr', prod_lt ha', ?_⟩
    walk_at "rd"
    refine ⟨prod a' a', prod r (prod a' a'), _, rfl, rfl, prod_lt ha', prod_lt hr', ?_⟩
    rw [← e, show 7 - i = (7 - (i + 1)) + 1 by omega]
    rfl
  · rintro σ H' ⟨a', r, kk, rfl, rfl, ha', hr', e⟩
    walk_at "rd"
    rw [← e] at k
    exact k
def sp_times : Sp := fun vs H Q _ => ∃ a b : Nat, vs = [.int a, .int b] ∧ Q (.int (tim a b)) H
theorem ok_law_times (T : Txt K mg) : Cal P w K mg base 1 "_law_times" sp_times [] := by
  refine T.f_law_times.cal sc_law_times bd_law_times (fun vs H Q E h => ?_) fun f cdv A outer s H vs Q E hr h => ?_
  · obtain ⟨a, b, rfl, _⟩ := h; rfl
  obtain ⟨a, b, rfl, k⟩ := h
  refine ⟨_, (pss_cons (ps_set (i := 2) sc_law_times.nd rfl (Or.inl rfl) pe_int)
      (pss_cons (ps_for PassesOwn.never rfl (pi_range1 rfl T.z_range (pa_cons pe_int pa_nil)) (pg_name (i := 3) sc_law_times.nd rfl (Or.inl rfl))
      (pss_cons (ps_if (pt_cmpR op_eq (pe_op op_mod (pe_callTy call_int1q (by rfl) T.z_int (by decide +kernel) (pa_cons (pv 1) pa_nil)) pe_int) pe_int (nomark _)) (pss_one (ps_set (i := 2) sc_law_times.nd rfl (Or.inl rfl) (pe_op op_xor (pv 2) (pv 0)))) pss_nil)
      (pss_cons (ps_set (i := 0) sc_law_times.nd rfl (Or.inl rfl) (pe_op op_mul pe_int (pv 0)))
      (pss_one (ps_set (i := 1) sc_law_times.nd rfl (Or.inl rfl) (pe_op op_fdiv (pv 1) pe_int))))))
      (pss_cons (ps_set (i := 4) sc_law_times.nd rfl (Or.inl rfl) pe_int)
      (pss_cons (ps_set (i := 5) sc_law_times.nd rfl (Or.inl rfl) pe_int)
      (pss_cons (ps_for PassesOwn.never rfl (pi_range1 rfl T.z_range (pa_cons pe_int pa_nil)) (pg_name (i := 3) sc_law_times.nd rfl (Or.inl rfl))
      (pss_cons (ps_if (pt_cmpR op_ge (pv 2) (pv 4) (nomark _)) (pss_one (ps_set (i := 2) sc_law_times.nd rfl (Or.inl rfl) (pe_op op_xor (pv 2) (pv 5)))) pss_nil)
      (pss_cons (ps_set (i := 4) sc_law_times.nd rfl (Or.inl rfl) (pe_op op_fdiv (pv 4) pe_int))
      (pss_one (ps_set (i := 5) sc_law_times.nd rfl (Or.inl rfl) (pe_op op_fdiv (pv 5) pe_int))))))
      (pss_one (ps_ret (pv 2)))))))), ?_⟩
  walk_at "rd"
  refine ⟨8, rfl, by decide, by decide, for_range (lo := 0) (n := 8) (fun i σ H' => ∃ (a' b' t : Nat) (kk : Option V), σ = [some (.int a'), some (.int b'), some (.int t), kk, none, none] ∧ H' = H ∧ timA (8 - i) a' b' t = timA 8 a b 0) ⟨a, b, 0, none, rfl, rfl, rfl⟩ ?_ ?_⟩
  · rintro i σ H' hi ⟨a', b', t, kk, rfl, rfl, e⟩
    rw [show 8 - i = (8 - (i + 1)) + 1 by omega] at e
    walk_at "rd"
    refine rd_ite (fun c => ?_) (fun c => ?_)
    · have c2 := of_decide_eq_true c
      walk_at "rd"
      refine ⟨2 * a', b' / 2, t ^^^ a', _, rfl, rfl, ?_⟩
      rw [← e]
      show _ = timA (8 - (i + 1)) (2 * a') (b' / 2) (if b' % 2 = 1 then t ^^^ a' else t)
      rw [if_pos (by omega)]
    · have c2 := of_decide_eq_false c
      walk_at "rd"
      refine ⟨2 * a', b' / 2, t, _, rfl, rfl, ?_⟩
      rw [← e]
      show _ = timA (8 - (i + 1)) (2 * a') (b' / 2) (if b' % 2 = 1 then t ^^^ a' else t)
      rw [if_neg (by omega)]
  · rintro σ H' ⟨a', b', t, kk, rfl, rfl, e⟩
    have e : t = timA 8 a b 0 := e
    walk_at "rd"
    refine ⟨8, rfl, by decide, by decide, for_range (lo := 0) (n := 8) (fun i σ H'' => ∃ (t bd tk : Nat) (kk : Option V), σ = [some (.int a'), some (.int b'), some (.int t), kk, some (.int bd), some (.int tk)] ∧ H'' = H' ∧ timB (8 - i) t bd tk = tim a b) ⟨t, 32768, 36480, kk, rfl, rfl, by rw [e]; rfl⟩ ?_ ?_⟩
    · rintro i σ H'' hi ⟨t, bd, tk, kk, rfl, rfl, e⟩
      rw [show 8 - i = (8 - (i + 1)) + 1 by omega] at e
      walk_at "rd"
      refine rd_ite (fun c => ?_) (fun c => ?_)
      · have c2 := of_decide_eq_true c
        walk_at "rd"
        refine ⟨t ^^^ tk, bd / 2, tk / 2, _, rfl, rfl, ?_⟩
        rw [← e]
        show _ = timB (8 - (i + 1)) (if bd ≤ t then t ^^^ tk else t) (bd / 2) (tk / 2)
        rw [if_pos (by omega)]
      · have c2 := of_decide_eq_false c
        walk_at "rd"
        refine ⟨t, bd / 2, tk / 2, _, rfl, rfl, ?_⟩
        rw [← e]
        show _ = timB (8 - (i + 1)) (if bd ≤ t then t ^^^ tk else t) (bd / 2) (tk / 2)
        rw [if_neg (by omega)]
    · rintro σ H'' ⟨t, bd, tk, kk, rfl, rfl, e⟩
      have e : t = tim a b := e
      walk_at "rd"
      rw [e]
      exact k
def sp_same : Sp := fun vs H Q _ => ∃ a b : Int, vs = [.int a, .int b] ∧ Q (.bl (decide (a = b))) H
theorem ok_law_same (T : Txt K mg) : Cal P w K mg base 1 "_law_same" sp_same [] := by
  refine T.f_law_same.cal sc_law_same bd_law_same (fun vs H Q E h => ?_) fun f cdv A outer s H vs Q E hr h => ?_
  · obtain ⟨a, b, rfl, _⟩ := h; rfl
  obtain ⟨a, b, rfl, k⟩ := h
  refine ⟨_, (pss_cons (ps_if (pt_cmpR op_isNq (pv 1) pe_non (nomark _)) (pss_one (ps_ret (pe_cmpR op_isNq (pv 0) pe_non (nomark _)))) pss_nil)
      (pss_cons (ps_if (pt_val (pe_callB call_isi (by rfl) T.z_isinstance (by decide +kernel) (pa_cons (pv 1) (pa_cons (pe_bltn (v := .ty "bool") (by rfl) T.z_bool (by decide +kernel) rfl) pa_nil)))) (pss_one ps_never) pss_nil)
      (pss_cons (ps_if (pt_val (pe_callB call_isi (by rfl) T.z_isinstance (by decide +kernel) (pa_cons (pv 1) (pa_cons (pe_bltn (v := .ty "int") (by rfl) T.z_int (by decide +kernel) rfl) pa_nil)))) (pss_one (ps_ret (pe_and (pe_callB call_isi (by rfl) T.z_isinstance (by decide +kernel) (pa_cons (pv 0) (pa_cons (pe_bltn (v := .ty "int") (by rfl) T.z_int (by decide +kernel) rfl) pa_nil))) (pe_and (pe_not (pe_callB call_isi (by rfl) T.z_isinstance (by decide +kernel) (pa_cons (pv 0) (pa_cons (pe_bltn (v := .ty "bool") (by rfl) T.z_bool (by decide +kernel) rfl) pa_nil)))) (pe_one (pe_cmpR op_eq (pv 0) (pv 1) (nomark _))))))) pss_nil)
      pss_never))), ?_⟩
  walk_at "rd"
  exact k
theorem rd_same {a b : Int} {H : Hp} {Q : VK} {E : XK} (h : a = b) (q : Q (.bl true) H) : sp_same ([.int a, .int b] ++ []) H Q E := ⟨a, b, rfl, by rw [decide_eq_true h]; exact q⟩
theorem rd_prod {a b : Nat} {H : Hp} {Q : VK} {E : XK} (ha : a < 256) (hb : b < 256) (q : Q (.int (prod a b)) H) : sp_product ([.int a, .int b] ++ []) H Q E := ⟨a, b, rfl, ha, hb, q⟩
theorem rd_prod0 {a : Nat} {H : Hp} {Q : VK} {E : XK} (ha : a < 256) (q : Q (.int (prod a 0)) H) : sp_product ([.int a, .int 0] ++ []) H Q E := ⟨a, 0, rfl, ha, by decide, q⟩
theorem rd_prod1 {a : Nat} {H : Hp} {Q : VK} {E : XK} (ha : a < 256) (q : Q (.int (prod 1 a)) H) : sp_product ([.int 1, .int a] ++ []) H Q E := ⟨1, a, rfl, by decide, ha, q⟩
theorem rd_dbl {a : Nat} {H : Hp} {Q : VK} {E : XK} (ha : a < 256) (q : Q (.int (dbl a)) H) : sp_double ([.int a] ++ []) H Q E := ⟨a, rfl, ha, q⟩
theorem rd_inv {a : Nat} {H : Hp} {Q : VK} {E : XK} (ha : a < 256) (q : Q (.int (inv a)) H) : sp_inverse ([.int a] ++ []) H Q E := ⟨a, rfl, ha, q⟩
theorem rd_tim {a b : Nat} {H : Hp} {Q : VK} {E : XK} (q : Q (.int (tim a b)) H) : sp_times ([.int a, .int b] ++ []) H Q E := ⟨a, b, rfl, q⟩
theorem rd_tim2 {a : Nat} {H : Hp} {Q : VK} {E : XK} (q : Q (.int (tim a 2)) H) : sp_times ([.int a, .int 2] ++ []) H Q E := ⟨a, 2, rfl, q⟩
structure Math : Prop where
  dbl2 : ∀ a, a < 256 → dbl a = tim a 2
  prodT : ∀ a b, a < 256 → b < 256 → prod a b = tim a b
  comm : ∀ a b, a < 256 → b < 256 → prod b a = tim a b
  dist : ∀ a b c, a < 256 → b < 256 → c < 256 → prod (a ^^^ c) b = tim a b ^^^ tim c b
  zero : ∀ a, a < 256 → prod a 0 = 0
  one : ∀ a, a < 256 → prod 1 a = a
  assoc : ∀ a b c, a < 256 → b < 256 → c < 256 → prod a (prod b c) = prod (prod a b) c
  inv1 : ∀ a, a < 256 → a ≠ 0 → tim a (inv a) = 1 ∧ 0 < inv a ∧ inv a < 256
/-! ### the field: what is found over all bytes, and what follows -/
def all1 (f : Nat → Bool) : Bool := (List.range 256).all f
theorem all1_at {f : Nat → Bool} (h : all1 f = true) {a : Nat} (ha : a < 256) : f a = true := List.all_eq_true.mp h a (List.mem_range.mpr ha)
theorem c_dbl2 : all1 (fun a => dbl a == tim a 2) = true := by decide +kernel
theorem c_zero : all1 (fun a => prod a 0 == 0) = true := by decide +kernel
theorem c_one : all1 (fun a => prod 1 a == a) = true := by decide +kernel
theorem c_inv : all1 (fun a => a == 0 || (tim a (inv a) == 1 && (Nat.blt 0 (inv a) && Nat.blt (inv a) 256))) = true := by decide +kernel
def pow2 : List Nat := [1, 2, 4, 8, 16, 32, 64, 128]
def parts (x : Nat) : List Nat := pow2.filter fun p => x / p % 2 == 1
def xors (l : List Nat) : Nat := l.foldr (fun a b => a ^^^ b) 0
theorem c_parts : all1 (fun a => xors (parts a) == a) = true := by decide +kernel
theorem c_assoc : (pow2.all fun a => pow2.all fun b => pow2.all fun c => prod a (prod b c) == prod (prod a b) c) = true := by decide +kernel
theorem c_tim : (pow2.all fun a => pow2.all fun b => prod a b == tim a b && prod b a == prod a b) = true := by decide +kernel
/-- a step of division: the top bit goes -/
theorem top_bit {m t : Nat} (h : t < 2 ^ (m + 1)) : (2 ^ m ≤ t) = (t / 2 ^ m = 1) := by
  have hp : 0 < 2 ^ m := Nat.two_pow_pos m
  rw [Nat.pow_succ] at h
  refine propext ⟨fun k => ?_, fun k => ?_⟩
  · exact Nat.div_eq_of_lt_le (by omega) (by omega)
  · have e := Nat.div_mul_le_self t (2 ^ m)
    rw [k] at e
    omega
theorem xor_div {a b : Nat} (m : Nat) : (a ^^^ b) / 2 ^ m = (a / 2 ^ m) ^^^ (b / 2 ^ m) := by
  rw [← Nat.shiftRight_eq_div_pow, ← Nat.shiftRight_eq_div_pow, ← Nat.shiftRight_eq_div_pow, Nat.shiftRight_xor_distrib]
theorem xor_div2 {a b : Nat} : (a ^^^ b) / 2 = (a / 2) ^^^ (b / 2) := xor_div 1
theorem xor_mod2 {a b : Nat} : (a ^^^ b) % 2 = (a % 2 + b % 2) % 2 := by
  have h : (a ^^^ b) % 2 = (a % 2) ^^^ (b % 2) := Nat.xor_mod_two_pow (n := 1)
  rw [h]
  rcases Nat.mod_two_eq_zero_or_one a with h1 | h1 <;> rcases Nat.mod_two_eq_zero_or_one b with h2 | h2 <;> rw [h1, h2] <;> rfl
theorem mul2_xor {a b : Nat} : 2 * (a ^^^ b) = (2 * a) ^^^ (2 * b) := by
  have h : ∀ x, 2 * x = x <<< 1 := fun x => by rw [Nat.shiftLeft_eq]; omega
  rw [h, h, h, Nat.shiftLeft_xor_distrib]
def red (m k t : Nat) : Nat := if 2 ^ m ≤ t then t ^^^ k else t
theorem red_add {m k t t' : Nat} (h : t < 2 ^ (m + 1)) (h' : t' < 2 ^ (m + 1)) : red m k (t ^^^ t') = red m k t ^^^ red m k t' := by
  have hx : t ^^^ t' < 2 ^ (m + 1) := Nat.xor_lt_two_pow h h'
  unfold red
  simp only [top_bit hx, top_bit h, top_bit h', xor_div]
  have b1 : t / 2 ^ m = 0 ∨ t / 2 ^ m = 1 := by
    have q : t / 2 ^ m < 2 := Nat.div_lt_of_lt_mul (by rw [Nat.pow_succ] at h; omega)
    generalize t / 2 ^ m = z at q
    omega
  have b2 : t' / 2 ^ m = 0 ∨ t' / 2 ^ m = 1 := by
    have q : t' / 2 ^ m < 2 := Nat.div_lt_of_lt_mul (by rw [Nat.pow_succ] at h'; omega)
    generalize t' / 2 ^ m = z at q
    omega
  rcases b1 with e1 | e1 <;> rcases b2 with e2 | e2 <;> rw [e1, e2]
  · rfl
  · show (t ^^^ t') ^^^ k = t ^^^ (t' ^^^ k); ac_rfl
  · show (t ^^^ t') ^^^ k = (t ^^^ k) ^^^ t'; ac_rfl
  · show t ^^^ t' = (t ^^^ k) ^^^ (t' ^^^ k)
    have : (t ^^^ k) ^^^ (t' ^^^ k) = (t ^^^ t') ^^^ (k ^^^ k) := by ac_rfl
    rw [this, Nat.xor_self, Nat.xor_zero]
theorem red_lt {m k t : Nat} (h : t < 2 ^ (m + 1)) (hk : 2 ^ m ≤ k) (hk' : k < 2 ^ (m + 1)) : red m k t < 2 ^ m := by
  unfold red
  by_cases c : 2 ^ m ≤ t
  · rw [if_pos c]
    have hx : t ^^^ k < 2 ^ (m + 1) := Nat.xor_lt_two_pow h hk'
    have e : (t ^^^ k) / 2 ^ m = 0 := by
      rw [xor_div, (top_bit h).mp c, (top_bit hk').mp hk]
      rfl
    have hp : 0 < 2 ^ m := Nat.two_pow_pos m
    rcases Nat.lt_or_ge (t ^^^ k) (2 ^ m) with l | l
    · exact l
    · rw [(top_bit hx).mp l] at e; cases e
  · rw [if_neg c]; omega
theorem dbl_red (a : Nat) : dbl a = red 8 285 (2 * a) := by
  unfold dbl red
  by_cases h : 2 * a < 256
  · rw [if_pos h, if_neg (by show ¬ 256 ≤ 2 * a; omega)]
  · rw [if_neg h, if_pos (by show 256 ≤ 2 * a; omega)]
theorem dbl_add {a b : Nat} (ha : a < 256) (hb : b < 256) : dbl (a ^^^ b) = dbl a ^^^ dbl b := by
  rw [dbl_red, dbl_red, dbl_red, mul2_xor, red_add (by show 2 * a < 512; omega) (by show 2 * b < 512; omega)]
/-- adding bits: the one that is taken -/
theorem pick {b b' t t' a a' : Nat} : (if (b ^^^ b') % 2 = 1 then (t ^^^ t') ^^^ a else t ^^^ t') = (if b % 2 = 1 then t ^^^ a else t) ^^^ (if b' % 2 = 1 then t' ^^^ a else t') := by
  rw [xor_mod2]
  rcases Nat.mod_two_eq_zero_or_one b with h1 | h1 <;> rcases Nat.mod_two_eq_zero_or_one b' with h2 | h2 <;> rw [h1, h2]
  · rfl
  · show (t ^^^ t') ^^^ a = t ^^^ (t' ^^^ a); ac_rfl
  · show (t ^^^ t') ^^^ a = (t ^^^ a) ^^^ t'; ac_rfl
  · show t ^^^ t' = (t ^^^ a) ^^^ (t' ^^^ a)
    have : (t ^^^ a) ^^^ (t' ^^^ a) = (t ^^^ t') ^^^ (a ^^^ a) := by ac_rfl
    rw [this, Nat.xor_self, Nat.xor_zero]
theorem pickA {b t t' a a' : Nat} : (if b % 2 = 1 then (t ^^^ t') ^^^ (a ^^^ a') else t ^^^ t') = (if b % 2 = 1 then t ^^^ a else t) ^^^ (if b % 2 = 1 then t' ^^^ a' else t') := by
  by_cases h : b % 2 = 1
  · rw [if_pos h, if_pos h, if_pos h]; ac_rfl
  · rw [if_neg h, if_neg h, if_neg h]
theorem prodF_addA : ∀ (n a a' b t t' : Nat), a < 256 → a' < 256 → prodF n (a ^^^ a') b (t ^^^ t') = prodF n a b t ^^^ prodF n a' b t'
  | 0, _, _, _, _, _, _, _ => rfl
  | n + 1, a, a', b, t, t', ha, ha' => by
    show prodF n (dbl (a ^^^ a')) (b / 2) (if b % 2 = 1 then (t ^^^ t') ^^^ (a ^^^ a') else t ^^^ t') = prodF n (dbl a) (b / 2) (if b % 2 = 1 then t ^^^ a else t) ^^^ prodF n (dbl a') (b / 2) (if b % 2 = 1 then t' ^^^ a' else t')
    rw [dbl_add ha ha', pickA, prodF_addA n _ _ _ _ _ (dbl_lt ha) (dbl_lt ha')]
theorem prodF_addB : ∀ (n a b b' t t' : Nat), prodF n a (b ^^^ b') (t ^^^ t') = prodF n a b t ^^^ prodF n a b' t'
  | 0, _, _, _, _, _ => rfl
  | n + 1, a, b, b', t, t' => by
    show prodF n (dbl a) ((b ^^^ b') / 2) (if (b ^^^ b') % 2 = 1 then (t ^^^ t') ^^^ a else t ^^^ t') = prodF n (dbl a) (b / 2) (if b % 2 = 1 then t ^^^ a else t) ^^^ prodF n (dbl a) (b' / 2) (if b' % 2 = 1 then t' ^^^ a else t')
    rw [pick (a' := 0), xor_div2, prodF_addB n]
theorem timA_addA : ∀ (n a a' b t t' : Nat), timA n (a ^^^ a') b (t ^^^ t') = timA n a b t ^^^ timA n a' b t'
  | 0, _, _, _, _, _ => rfl
  | n + 1, a, a', b, t, t' => by
    show timA n (2 * (a ^^^ a')) (b / 2) (if b % 2 = 1 then (t ^^^ t') ^^^ (a ^^^ a') else t ^^^ t') = timA n (2 * a) (b / 2) (if b % 2 = 1 then t ^^^ a else t) ^^^ timA n (2 * a') (b / 2) (if b % 2 = 1 then t' ^^^ a' else t')
    rw [mul2_xor, pickA, timA_addA n]
theorem timA_addB : ∀ (n a b b' t t' : Nat), timA n a (b ^^^ b') (t ^^^ t') = timA n a b t ^^^ timA n a b' t'
  | 0, _, _, _, _, _ => rfl
  | n + 1, a, b, b', t, t' => by
    show timA n (2 * a) ((b ^^^ b') / 2) (if (b ^^^ b') % 2 = 1 then (t ^^^ t') ^^^ a else t ^^^ t') = timA n (2 * a) (b / 2) (if b % 2 = 1 then t ^^^ a else t) ^^^ timA n (2 * a) (b' / 2) (if b' % 2 = 1 then t' ^^^ a else t')
    rw [pick (a' := 0), xor_div2, timA_addB n]
theorem timA_lt : ∀ (n m a b t : Nat), a < 2 ^ m → t < 2 ^ (m + n) → timA n a b t < 2 ^ (m + n)
  | 0, _, _, _, _, _, h => h
  | n + 1, m, a, b, t, ha, ht => by
    have ha2 : 2 * a < 2 ^ (m + 1) := by rw [Nat.pow_succ]; omega
    have e : m + 1 + n = m + (n + 1) := by omega
    have hm : 2 ^ m ≤ 2 ^ (m + (n + 1)) := Nat.pow_le_pow_right (by decide) (by omega)
    have r := timA_lt n (m + 1) (2 * a) (b / 2) (if b % 2 = 1 then t ^^^ a else t) ha2 (by
      rw [e]
      split
      · exact Nat.xor_lt_two_pow ht (by omega)
      · exact ht)
    rw [e] at r
    exact r
/-- eight steps, from the top: b = 2 ^ m, k = c * 2 ^ (m - 8) -/
theorem timB_red : ∀ t : Nat, timB 8 t 32768 36480 = red 8 285 (red 9 570 (red 10 1140 (red 11 2280 (red 12 4560 (red 13 9120 (red 14 18240 (red 15 36480 t))))))) := fun _ => rfl
theorem timB_add {t t' : Nat} (h : t < 65536) (h' : t' < 65536) : timB 8 (t ^^^ t') 32768 36480 = timB 8 t 32768 36480 ^^^ timB 8 t' 32768 36480 := by
  rw [timB_red, timB_red, timB_red]
  rw [red_add (m := 15) h h']
  have a1 := red_lt (m := 15) (k := 36480) h (by decide) (by decide)
  have b1 := red_lt (m := 15) (k := 36480) h' (by decide) (by decide)
  rw [red_add (m := 14) a1 b1]
  have a2 := red_lt (m := 14) (k := 18240) a1 (by decide) (by decide)
  have b2 := red_lt (m := 14) (k := 18240) b1 (by decide) (by decide)
  rw [red_add (m := 13) a2 b2]
  have a3 := red_lt (m := 13) (k := 9120) a2 (by decide) (by decide)
  have b3 := red_lt (m := 13) (k := 9120) b2 (by decide) (by decide)
  rw [red_add (m := 12) a3 b3]
  have a4 := red_lt (m := 12) (k := 4560) a3 (by decide) (by decide)
  have b4 := red_lt (m := 12) (k := 4560) b3 (by decide) (by decide)
  rw [red_add (m := 11) a4 b4]
  have a5 := red_lt (m := 11) (k := 2280) a4 (by decide) (by decide)
  have b5 := red_lt (m := 11) (k := 2280) b4 (by decide) (by decide)
  rw [red_add (m := 10) a5 b5]
  have a6 := red_lt (m := 10) (k := 1140) a5 (by decide) (by decide)
  have b6 := red_lt (m := 10) (k := 1140) b5 (by decide) (by decide)
  rw [red_add (m := 9) a6 b6]
  have a7 := red_lt (m := 9) (k := 570) a6 (by decide) (by decide)
  have b7 := red_lt (m := 9) (k := 570) b6 (by decide) (by decide)
  rw [red_add (m := 8) a7 b7]
theorem timA_b {a b : Nat} (ha : a < 256) : timA 8 a b 0 < 65536 := timA_lt 8 8 a b 0 ha (by decide)
theorem prod_addA {a a' b : Nat} (ha : a < 256) (ha' : a' < 256) : prod (a ^^^ a') b = prod a b ^^^ prod a' b := prodF_addA 8 a a' b 0 0 ha ha'
theorem prod_addB {a b b' : Nat} : prod a (b ^^^ b') = prod a b ^^^ prod a b' := prodF_addB 8 a b b' 0 0
theorem tim_addA {a a' b : Nat} (ha : a < 256) (ha' : a' < 256) : tim (a ^^^ a') b = tim a b ^^^ tim a' b := by
  unfold tim
  rw [← timB_add (timA_b ha) (timA_b ha'), ← timA_addA]
  rfl
theorem tim_addB {a b b' : Nat} (ha : a < 256) : tim a (b ^^^ b') = tim a b ^^^ tim a b' := by
  unfold tim
  rw [← timB_add (timA_b ha) (timA_b ha), ← timA_addB]
  rfl
theorem pow2_lt {p : Nat} (h : p ∈ pow2) : p < 256 := by
  have z : (pow2.all fun p => decide (p < 256)) = true := by decide +kernel
  exact of_decide_eq_true (List.all_eq_true.mp z p h)
theorem xors_lt : ∀ {l : List Nat}, (∀ x ∈ l, x < 256) → xors l < 256
  | [], _ => by decide
  | a :: l, h => xor_lt (h a (List.mem_cons_self ..)) (xors_lt fun x hx => h x (List.mem_cons_of_mem _ hx))
/-- two additive functions are the same if they are so at the powers of 2 -/
theorem add_ext {f g : Nat → Nat} (hf : ∀ a b, a < 256 → b < 256 → f (a ^^^ b) = f a ^^^ f b) (hg : ∀ a b, a < 256 → b < 256 → g (a ^^^ b) = g a ^^^ g b) (h : ∀ p ∈ pow2, f p = g p) {x : Nat} (hx : x < 256) : f x = g x := by
  have f0 : f 0 = 0 := by have e := hf 0 0 (by decide) (by decide); rw [Nat.xor_self] at e; rw [e, Nat.xor_self]
  have g0 : g 0 = 0 := by have e := hg 0 0 (by decide) (by decide); rw [Nat.xor_self] at e; rw [e, Nat.xor_self]
  have go : ∀ l : List Nat, (∀ y ∈ l, y ∈ pow2) → f (xors l) = g (xors l) := by
    intro l
    induction l with
    | nil => intro _; exact f0.trans g0.symm
    | cons a l ih =>
      intro hl
      have ha := hl a (List.mem_cons_self ..)
      have hl' : ∀ y ∈ l, y ∈ pow2 := fun y hy => hl y (List.mem_cons_of_mem _ hy)
      show f (a ^^^ xors l) = g (a ^^^ xors l)
      have l1 := xors_lt fun y hy => pow2_lt (hl' y hy)
      rw [hf a _ (pow2_lt ha) l1, hg a _ (pow2_lt ha) l1, h a ha, ih hl']
  have e := go (parts x) fun y hy => (List.mem_filter.mp hy).1
  rw [beq_iff_eq.mp (all1_at c_parts hx)] at e
  exact e
theorem prod_tim {a b : Nat} (ha : a < 256) (hb : b < 256) : prod a b = tim a b :=
  add_ext (f := fun a => prod a b) (g := fun a => tim a b) (fun x y hx hy => prod_addA hx hy) (fun x y hx hy => tim_addA hx hy)
    (fun p hp => add_ext (f := fun b => prod p b) (g := fun b => tim p b) (fun x y _ _ => prod_addB) (fun x y _ _ => tim_addB (pow2_lt hp))
      (fun q hq => beq_iff_eq.mp (Bool.and_eq_true_iff.mp (List.all_eq_true.mp (List.all_eq_true.mp c_tim p hp) q hq)).1) hb) ha
theorem prod_cm {a b : Nat} (ha : a < 256) (hb : b < 256) : prod b a = prod a b :=
  add_ext (f := fun a => prod b a) (g := fun a => prod a b) (fun x y _ _ => prod_addB) (fun x y hx hy => prod_addA hx hy)
    (fun p hp => add_ext (f := fun b => prod b p) (g := fun b => prod p b) (fun x y hx hy => prod_addA hx hy) (fun x y _ _ => prod_addB)
      (fun q hq => beq_iff_eq.mp (Bool.and_eq_true_iff.mp (List.all_eq_true.mp (List.all_eq_true.mp c_tim p hp) q hq)).2) hb) ha
theorem prod_assoc {a b c : Nat} (ha : a < 256) (hb : b < 256) (hc : c < 256) : prod a (prod b c) = prod (prod a b) c :=
  add_ext (f := fun a => prod a (prod b c)) (g := fun a => prod (prod a b) c) (fun x y hx hy => prod_addA hx hy)
    (fun x y hx hy => by show prod (prod (x ^^^ y) b) c = _; rw [prod_addA hx hy, prod_addA (prod_lt hx) (prod_lt hy)])
    (fun p hp => add_ext (f := fun b => prod p (prod b c)) (g := fun b => prod (prod p b) c)
      (fun x y hx hy => by show prod p (prod (x ^^^ y) c) = _; rw [prod_addA hx hy, prod_addB])
      (fun x y hx hy => by show prod (prod p (x ^^^ y)) c = _; rw [prod_addB, prod_addA (prod_lt (pow2_lt hp)) (prod_lt (pow2_lt hp))])
      (fun q hq => add_ext (f := fun c => prod p (prod q c)) (g := fun c => prod (prod p q) c)
        (fun x y _ _ => by show prod p (prod q (x ^^^ y)) = _; rw [prod_addB, prod_addB]) (fun x y _ _ => prod_addB)
        (fun r hr => beq_iff_eq.mp (List.all_eq_true.mp (List.all_eq_true.mp (List.all_eq_true.mp c_assoc p hp) q hq) r hr)) hc) hb) ha
theorem math : Math where
  dbl2 := fun a ha => beq_iff_eq.mp (all1_at c_dbl2 ha)
  prodT := fun a b ha hb => prod_tim ha hb
  comm := fun a b ha hb => (prod_cm ha hb).trans (prod_tim ha hb)
  dist := fun a b c ha hb hc => by rw [prod_addA ha hc, prod_tim ha hb, prod_tim hc hb]
  zero := fun a ha => beq_iff_eq.mp (all1_at c_zero ha)
  one := fun a ha => beq_iff_eq.mp (all1_at c_one ha)
  assoc := fun a b c ha hb hc => prod_assoc ha hb hc
  inv1 := fun a ha h0 => by
    have z := all1_at c_inv ha
    have h0' : (a == 0) = false := by simp [h0]
    rw [h0', Bool.false_or] at z
    obtain ⟨z1, z2⟩ := Bool.and_eq_true_iff.mp z
    obtain ⟨z2, z3⟩ := Bool.and_eq_true_iff.mp z2
    exact ⟨beq_iff_eq.mp z1, Nat.le_of_ble_eq_true z2, Nat.le_of_ble_eq_true z3⟩
local macro_rules | `(tactic| walk_at "sp") => `(tactic| first | (with_reducible refine rd_dbl ?h ?_; (case h => first | assumption | exact prod_lt (by assumption))) | (with_reducible refine rd_tim ?_) | (with_reducible refine rd_tim2 ?_) | (with_reducible refine rd_prod ?h ?h2 ?_; (case h => first | assumption | exact prod_lt (by assumption) | exact xor_lt (by assumption) (by assumption)); (case h2 => first | assumption | exact prod_lt (by assumption))) | (with_reducible refine rd_prod0 ?h ?_; (case h => assumption)) | (with_reducible refine rd_prod1 ?h ?_; (case h => assumption)) | (with_reducible refine rd_inv ?h ?_; (case h => assumption)))
local macro_rules | `(tactic| walk_at "rs") => `(tactic| repeat (first | walk_at "rd1" | walk_at "sp"))
def sp_asks : Sp := fun vs H Q _ => ∃ a b c : Nat, vs = [.int a, .int b, .int c] ∧ a < 256 ∧ b < 256 ∧ c < 256 ∧ Q (.bl true) H
theorem ok_law_asks (M : Math) (T : Txt K mg) : Cal P w K mg base 4 "_law_asks" sp_asks [] := by
  refine T.f_law_asks.cal sc_law_asks bd_law_asks (fun vs H Q E h => ?_) fun f cdv A outer s H vs Q E hr h => ?_
  · obtain ⟨a, b, c, rfl, _⟩ := h; rfl
  obtain ⟨a, b, c, rfl, ha, hb, hc, k⟩ := h
  refine ⟨_, (pss_cons (ps_if (PW.pt (pw_or (pt_not (pt_val (pe_c (ok_law_same T) hr (by decide) rfl (pa_cons (pe_c (ok_double T) hr (by decide) rfl (pa_cons (pv 0) pa_nil)) (pa_cons (pe_c (ok_law_times T) hr (by decide) rfl (pa_cons (pv 0) (pa_cons pe_int pa_nil))) pa_nil))))) (pw_or1 (pt_not (pt_val (pe_c (ok_law_same T) hr (by decide) rfl (pa_cons (pe_c (ok_product T) hr (by decide) rfl (pa_cons (pv 0) (pa_cons (pv 1) pa_nil))) (pa_cons (pe_c (ok_law_times T) hr (by decide) rfl (pa_cons (pv 0) (pa_cons (pv 1) pa_nil))) pa_nil)))))))) (pss_one (ps_ret pe_bl)) pss_nil)
      (pss_cons (ps_if (PW.pt (pw_or (pt_not (pt_val (pe_c (ok_law_same T) hr (by decide) rfl (pa_cons (pe_c (ok_product T) hr (by decide) rfl (pa_cons (pv 1) (pa_cons (pv 0) pa_nil))) (pa_cons (pe_c (ok_law_times T) hr (by decide) rfl (pa_cons (pv 0) (pa_cons (pv 1) pa_nil))) pa_nil))))) (pw_or1 (pt_not (pt_val (pe_c (ok_law_same T) hr (by decide) rfl (pa_cons (pe_c (ok_product T) hr (by decide) rfl (pa_cons (pe_op op_xor (pv 0) (pv 2)) (pa_cons (pv 1) pa_nil))) (pa_cons (pe_op op_xor (pe_c (ok_law_times T) hr (by decide) rfl (pa_cons (pv 0) (pa_cons (pv 1) pa_nil))) (pe_c (ok_law_times T) hr (by decide) rfl (pa_cons (pv 2) (pa_cons (pv 1) pa_nil)))) pa_nil)))))))) (pss_one (ps_ret pe_bl)) pss_nil)
      (pss_cons (ps_if (PW.pt (pw_or (pt_cmpR op_ne (pe_c (ok_product T) hr (by decide) rfl (pa_cons (pv 0) (pa_cons pe_int pa_nil))) pe_int (nomark _)) (pw_or (pt_cmpR op_ne (pe_c (ok_product T) hr (by decide) rfl (pa_cons pe_int (pa_cons (pv 0) pa_nil))) (pv 0) (nomark _)) (pw_or1 (pt_cmpR op_ne (pe_c (ok_product T) hr (by decide) rfl (pa_cons (pv 0) (pa_cons (pe_c (ok_product T) hr (by decide) rfl (pa_cons (pv 1) (pa_cons (pv 2) pa_nil))) pa_nil))) (pe_c (ok_product T) hr (by decide) rfl (pa_cons (pe_c (ok_product T) hr (by decide) rfl (pa_cons (pv 0) (pa_cons (pv 1) pa_nil))) (pa_cons (pv 2) pa_nil))) (nomark _)))))) (pss_one (ps_ret pe_bl)) pss_nil)
      (pss_cons (ps_if (pt_cmpR op_eq (pv 0) pe_int (nomark _)) (pss_one (ps_ret pe_bl)) pss_nil)
      (pss_cons (ps_set (i := 3) sc_law_asks.nd rfl (Or.inl rfl) (pe_c (ok_inverse T) hr (by decide) rfl (pa_cons (pv 0) pa_nil)))
      (pss_cons (ps_if (PW.pt (pw_or (pt_not (pt_val (pe_c (ok_law_same T) hr (by decide) rfl (pa_cons (pv 3) (pa_cons (pe_callTy call_int1q (by rfl) T.z_int (by decide +kernel) (pa_cons (pv 3) pa_nil)) pa_nil))))) (pw_or1 (pt_not (pt_chain op_lt op_lt pe_int (pv 3) pe_int))))) (pss_one (ps_ret pe_bl)) pss_nil)
      (pss_one (ps_ret (pe_cmpR op_eq (pe_c (ok_law_times T) hr (by decide) rfl (pa_cons (pv 0) (pa_cons (pv 3) pa_nil))) pe_int (nomark _)))))))))), ?_⟩
  walk_at "rs"
  refine rd_same (congrArg Int.ofNat (M.dbl2 a ha)) ?_
  walk_at "rs"
  refine rd_same (congrArg Int.ofNat (M.prodT a b ha hb)) ?_
  walk_at "rs"
  refine rd_same (congrArg Int.ofNat (M.comm a b ha hb)) ?_
  walk_at "rs"
  refine rd_same (congrArg Int.ofNat (M.dist a b c ha hb hc)) ?_
  walk_at "rs"
  refine iteNS (congrArg Int.ofNat (M.zero a ha)) ?_
  walk_at "rs"
  refine iteNS (congrArg Int.ofNat (M.one a ha)) ?_
  walk_at "rs"
  refine iteNS (congrArg Int.ofNat (M.assoc a b c ha hb hc)) ?_
  walk_at "rs"
  refine rd_ite (fun c => ?_) (fun c => ?_)
  · walk_at "rs"
    exact k
  · have c' := of_decide_eq_false c
    have c2 : a ≠ 0 := fun e => c' (by rw [e]; rfl)
    obtain ⟨i1, i2, i3⟩ := M.inv1 a ha c2
    walk_at "rs"
    refine rd_same rfl ?_
    walk_at "rs"
    refine iteD (by omega) ?_
    walk_at "rs"
    refine iteNS (by omega) ?_
    walk_at "rs"
    rw [i1]
    exact k
/-! ### the numbers that the law draws -/
def StAt (H : Hp) (p l : Addr) : Prop := ∃ (ns : List Int) (i m s : Int), H p = some (.lst [.ref l, .int i, .int m, .int s]) ∧ H l = some (.lst (ns.map V.int)) ∧ 0 ≤ i ∧ i ≤ ns.length ∧ 0 ≤ m
def sp_next : Sp := fun vs H Q _ => ∃ (p l : Addr) (lim : Int), vs = [.ref p, .int lim] ∧ StAt H p l ∧ 0 < lim ∧ lim < 1073741824 ∧ ∀ (v : Int) (H' : Hp), 0 ≤ v → v < lim → StAt H' p l → (∀ b, b ≠ p → H' b = H b) → Q (.int v) H'
theorem st_ne {H : Hp} {p l : Addr} {ns : List Int} {x y z : V} (h : H p = some (.lst [.ref l, x, y, z])) (h' : H l = some (.lst (ns.map V.int))) : p ≠ l := by
  refine ne_of h h' fun e => ?_
  injection e with e
  cases ns with
  | nil => cases e
  | cons n r => cases e
theorem ok_law_next (T : Txt K mg) : Cal P w K mg base 1 "_law_next" sp_next [] := by
  refine T.f_law_next.cal sc_law_next bd_law_next (fun vs H Q E h => ?_) fun f cdv A outer s H vs Q E hr h => ?_
  · obtain ⟨p, l, lim, rfl, _⟩ := h; rfl
  obtain ⟨p, l, lim, rfl, ⟨ns, i, m, s0, hp, hl, hi, hn, hm⟩, h0, h1, k⟩ := h
  have npl : p ≠ l := st_ne hp hl
  have hlen : (ns.map V.int).length = ns.length := List.length_map _
  refine ⟨_, (pss_join (ps_if (PW.pt (pw_and (pt_cmpR op_eq (pe_ix ix_list (pv 0) pe_int (fun _ _ => rfl)) pe_int (nomark _)) (pw_and1 (pt_cmpR op_lt (pe_ix ix_list (pv 0) pe_int (fun _ _ => rfl)) (pe_callB call_lenq (by rfl) T.z_len (by decide +kernel) (pa_cons (pe_ix ix_list (pv 0) pe_int (fun _ _ => rfl)) pa_nil)) (nomark _))))) (pss_cons (ps_set (i := 2) sc_law_next.nd rfl (Or.inl rfl) (pe_ix ix_list (pe_ix ix_list (pv 0) pe_int (fun _ _ => rfl)) (pe_ix ix_list (pv 0) pe_int (fun _ _ => rfl)) (fun _ _ => rfl)))
      (pss_cons (ps_augS (pv 0) pe_int get_list pe_int ip_add set_list)
      (pss_one (ps_if (pt_cmpR op_ge (pv 2) (pe_op op_pow pe_int pe_int) (nomark _)) (pss_one (ps_asg (pv 2) (pg_sub (pv 0) pe_int set_list))) (pss_one (ps_asg (pe_op op_mod (pe_callTy call_int1q (by rfl) T.z_int (by decide +kernel) (pa_cons (pe_op op_add (pe_op op_add (pe_op op_mul (pe_ix ix_list (pv 0) pe_int (fun _ _ => rfl)) pe_int) (pe_op op_mod (pe_callTy call_int1q (by rfl) T.z_int (by decide +kernel) (pa_cons (pv 2) pa_nil)) pe_int)) pe_int) pa_nil)) pe_int) (pg_sub (pv 0) pe_int set_list))))))) pss_nil)
      (pss_cons (ps_if (pt_cmpR op_gt (pe_ix ix_list (pv 0) pe_int (fun _ _ => rfl)) pe_int (nomark _)) (pss_cons (ps_set (i := 3) sc_law_next.nd rfl (Or.inl rfl) (pe_op op_mod (pe_callTy call_int1q (by rfl) T.z_int (by decide +kernel) (pa_cons (pe_ix ix_list (pv 0) pe_int (fun _ _ => rfl)) pa_nil)) (pv 1)))
      (pss_cons (ps_asg (pe_op op_fdiv (pe_ix ix_list (pv 0) pe_int (fun _ _ => rfl)) (pv 1)) (pg_sub (pv 0) pe_int set_list))
      (pss_one (ps_ret (pv 3))))) pss_nil)
      (pss_cons (ps_asg (pe_op op_mod (pe_callTy call_int1q (by rfl) T.z_int (by decide +kernel) (pa_cons (pe_op op_add (pe_op op_mul (pe_ix ix_list (pv 0) pe_int (fun _ _ => rfl)) pe_int) pe_int) pa_nil)) pe_int) (pg_sub (pv 0) pe_int set_list))
      (pss_one (ps_ret (pe_op op_mod (pe_callTy call_int1q (by rfl) T.z_int (by decide +kernel) (pa_cons (pe_op op_fdiv (pe_ix ix_list (pv 0) pe_int (fun _ _ => rfl)) pe_int) pa_nil)) (pv 1))))))), ?_⟩
  walk_at "k"
  refine ⟨fun σ H1 => ∃ (c : Option V) (m s0 i : Int), σ = [some (.ref p), some (.int lim), c, none] ∧ H1 p = some (.lst [.ref l, .int i, .int m, .int s0]) ∧ H1 l = some (.lst (ns.map V.int)) ∧ 0 ≤ i ∧ i ≤ ns.length ∧ 0 ≤ m ∧ (∀ b, b ≠ p → H1 b = H b), ?_, ?_⟩
  · walk_at "rd"
    refine rd_ite (fun c => ?_) (fun c => ?_)
    · walk_at "rd"
      refine rd_ite (fun c2 => ?_) (fun c2 => ?_)
      · have c2' := of_decide_eq_true c2
        rw [hlen] at c2'
        obtain ⟨z, hz, _⟩ := atI_int (ns := ns) hi c2'
        walk_at "rd"
        refine rd_ixL (SqL.of hl) hz ?_
        walk_at "rd"
        refine rd_ite (fun c3 => ?_) (fun c3 => ?_)
        · have c3' := of_decide_eq_true c3
          walk_at "rd"
          refine ⟨_, z, s0, i + 1, rfl, upd_same, by rw [upd_ne npl.symm, upd_ne npl.symm]; exact hl, by omega, by omega, ?_, fun b hb => by rw [upd_ne hb, upd_ne hb]⟩
          exact Int.le_trans (by decide) c3'
        · walk_at "rd"
          exact ⟨_, m, _, i + 1, rfl, upd_same, by rw [upd_ne npl.symm, upd_ne npl.symm]; exact hl, by omega, by omega, hm, fun b hb => by rw [upd_ne hb, upd_ne hb]⟩
      · walk_at "rd"
        exact ⟨_, m, _, i, rfl, hp, hl, hi, hn, hm, fun b hb => rfl⟩
    · walk_at "rd"
      exact ⟨_, m, _, i, rfl, hp, hl, hi, hn, hm, fun b hb => rfl⟩
  · rintro σ H1 ⟨c, m, s0, i, rfl, hp, hl, hi, hn, hm, hf⟩
    walk_at "rd"
    refine rd_ite (fun c => ?_) (fun c => ?_)
    · walk_at "rd"
      refine k _ _ (Int.emod_nonneg _ (by omega)) (Int.emod_lt_of_pos _ h0) ⟨ns, i, _, s0, upd_same, by rw [upd_ne npl.symm]; exact hl, hi, hn, Int.ediv_nonneg hm (by omega)⟩ fun b hb => by rw [upd_ne hb, hf b hb]
    · walk_at "rd"
      refine k _ _ (Int.emod_nonneg _ (by omega)) (Int.emod_lt_of_pos _ h0) ⟨ns, i, m, _, upd_same, by rw [upd_ne npl.symm]; exact hl, hi, hn, hm⟩ fun b hb => by rw [upd_ne hb, hf b hb]
theorem rd_next {p l : Addr} {lim : Int} {H : Hp} {Q : VK} {E : XK} (hS : StAt H p l) (h0 : 0 < lim) (h1 : lim < 1073741824) (k : ∀ (v : Int) (H' : Hp), 0 ≤ v → v < lim → StAt H' p l → (∀ b, b ≠ p → H' b = H b) → Q (.int v) H') :
    sp_next ([.ref p, .int lim] ++ []) H Q E := ⟨p, l, lim, rfl, hS, h0, h1, k⟩
/-! ### the law -/
theorem StAt.mono {H H' : Hp} {p l : Addr} (s : StAt H p l) (h : Same H H') : StAt H' p l := by
  obtain ⟨ns, i, m, s0, h1, h2, h3⟩ := s
  exact ⟨ns, i, m, s0, h _ _ h1, h _ _ h2, h3⟩
def bV (bs : List Nat) : List V := bs.map fun n : Nat => V.int n
theorem StAt.updB {H : Hp} {p l d : Addr} {o : HO} (s : StAt H p l) (h : d ≠ p) (h' : d ≠ l) : StAt (upd H d o) p l := by
  obtain ⟨ns, i, m, s0, h1, h2, h3⟩ := s
  exact ⟨ns, i, m, s0, by rw [upd_ne h.symm]; exact h1, by rw [upd_ne h'.symm]; exact h2, h3⟩
theorem first4 {v : Int} (h0 : 0 ≤ v) (h1 : v < 4) : ∃ n : Nat, n < 256 ∧ atI [V.int 0, V.int 1, V.int 255, V.int 128] v = some (.int n) := by
  have h : v = 0 ∨ v = 1 ∨ v = 2 ∨ v = 3 := by omega
  rcases h with rfl | rfl | rfl | rfl
  · exact ⟨0, by decide, rfl⟩
  · exact ⟨1, by decide, rfl⟩
  · exact ⟨255, by decide, rfl⟩
  · exact ⟨128, by decide, rfl⟩
theorem bV_at {bs : List Nat} {i : Nat} {v : V} (h : (bV bs)[i]? = some v) (hb : ∀ b ∈ bs, b < 256) : ∃ n : Nat, n < 256 ∧ v = .int n := by
  rw [bV, List.getElem?_map] at h
  cases e : bs[i]? with
  | none => rw [e] at h; cases h
  | some n => rw [e] at h; exact ⟨n, hb n (List.mem_of_getElem? e), (Option.some.inj h).symm⟩
def sp_law (K : PySem.W.Frag) : Sp := fun vs H Q _ => ∃ (a : Addr) (ns : List Int), vs = [.ref a] ∧ SqL K H a (ns.map V.int) ∧ ns.length ≤ 63 ∧ Only H ∧ ∀ H', Q (.bl true) H'
theorem law_end {fa : Addr} (T : Txt K mg) (hmg : mg "law" = some (.ref fa)) :
    ∃ fd : FuncData, (∀ (s : Shared) (v : Value), BindsTo s fd ⟨[v], []⟩ [("script", v)]) ∧ ∀ base : Heap, FnOk P w K mg base CX0 6 fa fd ["script"] (sp_law K) := by
  refine T.f_law.law hmg sc_law bd_law (fun vs H Q E h => ?_) fun base f cdv A outer s H vs Q E hr h => ?_
  · obtain ⟨a, ns, rfl, _⟩ := h; rfl
  obtain ⟨a, ns, rfl, hS, hl63, hO, k⟩ := h
  refine ⟨_, (pss_cons (ps_set (i := 1) sc_law.nd rfl (Or.inl rfl) (pe_lst (pa_cons (pe_callTy call_listq (by rfl) T.z_list (by decide +kernel) (pa_cons (pv 0) pa_nil)) (pa_cons pe_int (pa_cons pe_int (pa_cons pe_int pa_nil))))))
      (pss_cons (ps_set (i := 2) sc_law.nd rfl (Or.inl rfl) (pe_lst (pa_cons (pe_ix ix_list (pe_lst (pa_cons pe_int (pa_cons pe_int (pa_cons pe_int (pa_cons pe_int pa_nil))))) (pe_c (ok_law_next T) hr (by decide) rfl (pa_cons (pv 1) (pa_cons pe_int pa_nil))) (fun _ _ => rfl)) pa_nil)))
      (pss_cons (ps_for PassesOwn.never rfl (pi_range1 rfl T.z_range (pa_cons pe_int pa_nil)) (pg_name (i := 3) sc_law.nd rfl (Or.inl rfl))
      (pss_one (ps_expr (pe_bm PySem.F.plainAttrs_list PySem.F.slot_list_append PySem.F.type_list_append mt_append (pv 2) (pa_cons (pe_c (ok_law_next T) hr (by decide) rfl (pa_cons (pv 1) (pa_cons pe_int pa_nil))) pa_nil)))))
      (pss_cons (ps_for PassesOwn.never rfl (pi_list (pv 2)) (pg_name (i := 4) sc_law.nd rfl (Or.inl rfl))
      (pss_one (ps_for PassesOwn.never rfl (pi_list (pv 2)) (pg_name (i := 5) sc_law.nd rfl (Or.inl rfl))
      (pss_one (ps_if (pt_not (pt_val (pe_c (ok_law_asks math T) hr (by decide) rfl (pa_cons (pv 4) (pa_cons (pv 5) (pa_cons (pe_ix ix_list (pv 2) pe_int (fun _ _ => rfl)) pa_nil)))))) (pss_one (ps_ret pe_bl)) pss_nil)))))
      (pss_cons (ps_if (pt_cmpR op_eq (pe_c (ok_law_next T) hr (by decide) rfl (pa_cons (pv 1) (pa_cons pe_int pa_nil))) pe_int (nomark _)) (pss_one (ps_for PassesOwn.never rfl (pi_range1 rfl T.z_range (pa_cons pe_int pa_nil)) (pg_name (i := 4) sc_law.nd rfl (Or.inl rfl))
      (pss_one (ps_if (pt_not (pt_val (pe_c (ok_law_asks math T) hr (by decide) rfl (pa_cons (pv 4) (pa_cons (pe_ix ix_list (pv 2) pe_int (fun _ _ => rfl)) (pa_cons (pe_ix ix_list (pv 2) pe_int (fun _ _ => rfl)) pa_nil)))))) (pss_one (ps_ret pe_bl)) pss_nil)))) pss_nil)
      (pss_one (ps_ret pe_bl))))))), ?_⟩
  walk_at "k"
  walk_at "rd"
  refine rd_listL hS fun l hl => ?_
  walk_at "rd"
  refine ⟨Nat.le_of_lt (small1000 (by simp)), fun p hp => ?_⟩
  have npl : p ≠ l := fun e => by rw [e, upd_same] at hp; cases hp
  have S0 : StAt (upd (upd H l (HO.lst (List.map V.int ns))) p (HO.lst [V.ref l, V.int 0, V.int 0, V.int 1])) p l := ⟨ns, 0, 0, 1, upd_same, by rw [upd_ne npl.symm]; exact upd_same, by omega, by omega, by omega⟩
  generalize upd (upd H l (HO.lst (List.map V.int ns))) p (HO.lst [V.ref l, V.int 0, V.int 0, V.int 1]) = H1 at S0
  walk_at "rd"
  refine ⟨Nat.le_of_lt (small1000 (by simp)), fun q hq => ?_⟩
  walk_at "rd"
  have npq : q ≠ p := fun e => by obtain ⟨_, _, _, _, z, _⟩ := S0; rw [e, z] at hq; cases hq
  refine rd_next (S0.mono (same_new hq _)) (by decide) (by decide) fun v H2 v0 v1 S2 f2 => ?_
  have hq2 := (f2 q npq).trans upd_same
  obtain ⟨n, hn, hv⟩ := first4 v0 v1
  refine rd_ixL (SqL.of hq2) hv ?_
  walk_at "rd"
  refine ⟨Nat.le_of_lt (small1000 (by simp)), fun d hd => ?_⟩
  walk_at "rd"
  have npd : d ≠ p := fun e => by obtain ⟨_, _, _, _, z, _⟩ := S2; rw [e, z] at hd; cases hd
  have ndl : d ≠ l := fun e => by obtain ⟨_, _, _, _, _, z, _⟩ := S2; rw [e, z] at hd; cases hd
  refine ⟨4, rfl, by decide, by decide, for_range (lo := 0) (n := 4) (fun i σ H' => ∃ (bs : List Nat) (kk : Option V), σ = [some (.ref a), some (.ref p), some (.ref d), kk, none, none] ∧ StAt H' p l ∧ H' d = some (.lst (bV bs)) ∧ bs.length = i + 1 ∧ ∀ b ∈ bs, b < 256) ⟨[n], none, rfl, S2.mono (same_new hd _), upd_same, rfl, by simpa using hn⟩ ?_ ?_⟩
  · rintro i σ H3 hi ⟨bs, kk, rfl, S3, hd3, hl3, hb3⟩
    walk_at "rd"
    refine ⟨.inl ⟨rfl, _, SqL.of hd3⟩, ?_⟩
    walk_at "rd"
    refine rd_next S3 (by decide) (by decide) fun v H4 v0 v1 S4 f4 => ?_
    walk_at "rd"
    have hd4 := (f4 d npd).trans hd3
    refine ⟨d, _, _, rfl, rfl, hd4, small1000 (by rw [bV, List.length_map]; omega), ?_⟩
    walk_at "rd"
    have ev : ((v.toNat : Nat) : Int) = v := by omega
    refine ⟨bs ++ [v.toNat], _, rfl, S4.updB npd ndl, ?_, by simp [hl3], ?_⟩
    · rw [upd_same, bV, bV, List.map_append, List.map_cons, List.map_nil, ev]
    · intro b hb
      rcases List.mem_append.mp hb with hb | hb
      · exact hb3 b hb
      · rw [List.mem_singleton.mp hb]; omega
  · rintro σ H3 ⟨bs, kk, rfl, S3, hd3, hl3, hb3⟩
    obtain ⟨b0, b1, b2, b3, b4, rfl⟩ : ∃ b0 b1 b2 b3 b4, bs = [b0, b1, b2, b3, b4] := by
      match bs, hl3 with
      | [b0, b1, b2, b3, b4], _ => exact ⟨_, _, _, _, _, rfl⟩
    have e1 : b1 < 256 := hb3 b1 (by simp)
    have e2 : b2 < 256 := hb3 b2 (by simp)
    have e3 : b3 < 256 := hb3 b3 (by simp)
    walk_at "rd"
    refine ⟨_, rfl, d, rfl, ⟨_, SqL.of hd3⟩, for_list (K := K) (a := d) (xs := bV [b0, b1, b2, b3, b4]) (fun i σ H' => ∃ (x y : Option V), σ = [some (.ref a), some (.ref p), some (.ref d), kk, x, y] ∧ H' = H3) ⟨_, _, rfl, rfl⟩ (fun i σ H' _ ⟨_, _, _, e⟩ => by rw [e]; exact SqL.of hd3) ?_ ?_⟩
    · rintro i v σ H' hi ⟨x, y, rfl, rfl⟩
      obtain ⟨na, hna, rfl⟩ := bV_at hi hb3
      walk_at "rd"
      refine ⟨_, rfl, d, rfl, ⟨_, SqL.of hd3⟩, for_list (K := K) (a := d) (xs := bV [b0, b1, b2, b3, b4]) (fun i σ H'' => ∃ (y : Option V), σ = [some (.ref a), some (.ref p), some (.ref d), kk, some (.int na), y] ∧ H'' = H') ⟨_, rfl, rfl⟩ (fun i σ H' _ ⟨_, _, e⟩ => by rw [e]; exact SqL.of hd3) ?_ ?_⟩
      · rintro j v σ H'' hj ⟨y, rfl, rfl⟩
        obtain ⟨nb, hnb, rfl⟩ := bV_at hj hb3
        walk_at "rd"
        refine ⟨na, nb, b3, rfl, hna, hnb, e3, ?_⟩
        walk_at "rd"
        exact ⟨_, rfl, rfl⟩
      · rintro σ H'' ⟨y, rfl, rfl⟩
        exact ⟨_, _, rfl, rfl⟩
    · rintro σ H' ⟨x, y, rfl, rfl⟩
      walk_at "rd"
      refine rd_next S3 (by decide) (by decide) fun v H4 v0 v1 S4 f4 => ?_
      have hd4 := (f4 d npd).trans hd3
      walk_at "rd"
      refine rd_ite (fun c => ?_) (fun c => ?_)
      · walk_at "rd"
        refine ⟨256, rfl, by decide, by decide, for_range (lo := 0) (n := 256) (fun i σ H'' => ∃ (x : Option V), σ = [some (.ref a), some (.ref p), some (.ref d), kk, x, y] ∧ H'' = H4) ⟨_, rfl, rfl⟩ ?_ ?_⟩
        · rintro i σ H'' hi ⟨x, rfl, rfl⟩
          walk_at "rd"
          refine ⟨i, b1, b2, by rw [Int.zero_add]; rfl, hi, e1, e2, ?_⟩
          walk_at "rd"
          exact ⟨_, rfl, rfl⟩
        · rintro σ H'' ⟨x, rfl, rfl⟩
          walk_at "rd"
          exact k _
      · walk_at "rd"
        exact k _
end
def d_double : He.DefD := ⟨("double", none), "double", "double", defArgs s_double, defBody s_double, defScope s_double, [], []⟩
def d_product : He.DefD := ⟨("product", none), "product", "product", defArgs s_product, defBody s_product, defScope s_product, [], []⟩
def d_inverse : He.DefD := ⟨("inverse", none), "inverse", "inverse", defArgs s_inverse, defBody s_inverse, defScope s_inverse, [], []⟩
def d_law_next : He.DefD := ⟨("_law_next", none), "_law_next", "_law_next", defArgs s_law_next, defBody s_law_next, defScope s_law_next, [], []⟩
def d_law_same : He.DefD := ⟨("_law_same", none), "_law_same", "_law_same", defArgs s_law_same, defBody s_law_same, defScope s_law_same, [], []⟩
def d_law_times : He.DefD := ⟨("_law_times", none), "_law_times", "_law_times", defArgs s_law_times, defBody s_law_times, defScope s_law_times, [], []⟩
def d_law_asks : He.DefD := ⟨("_law_asks", none), "_law_asks", "_law_asks", defArgs s_law_asks, defBody s_law_asks, defScope s_law_asks, [], []⟩
def d_law : He.DefD := ⟨("law", none), "law", "law", defArgs s_law, defBody s_law, defScope s_law, [], []⟩
def fn : List He.DefD := [d_double, d_product, d_inverse, d_law_next, d_law_same, d_law_times, d_law_asks, d_law]
def fa : List He.Fa := [.glo "double", .glo "product", .glo "inverse", .glo "_law_next", .glo "_law_same", .glo "_law_times", .glo "_law_asks", .glo "law", .int "BITS" 8, .int "BYTES" 256, .int "OVERFLOW" 285, .free "bool", .free "int", .free "isinstance", .free "len", .free "list", .free "range", .free "str", .free "tuple"]
theorem txt_of {K : PySem.W.Frag} {h : Heap} {mg : Str → Option Value} (X : K.In h) (G : h.Ns mainGlobals mg) (c : He.SaysD fa fn K) : Txt K mg where
  f_double := by obtain ⟨fd, F⟩ := c.def_ 0 (d := d_double) rfl; exact ⟨_, fd, F, He.glo_ok X G (c.fact 0 (f := .glo "double") rfl)⟩
  f_product := by obtain ⟨fd, F⟩ := c.def_ 1 (d := d_product) rfl; exact ⟨_, fd, F, He.glo_ok X G (c.fact 1 (f := .glo "product") rfl)⟩
  f_inverse := by obtain ⟨fd, F⟩ := c.def_ 2 (d := d_inverse) rfl; exact ⟨_, fd, F, He.glo_ok X G (c.fact 2 (f := .glo "inverse") rfl)⟩
  f_law_next := by obtain ⟨fd, F⟩ := c.def_ 3 (d := d_law_next) rfl; exact ⟨_, fd, F, He.glo_ok X G (c.fact 3 (f := .glo "_law_next") rfl)⟩
  f_law_same := by obtain ⟨fd, F⟩ := c.def_ 4 (d := d_law_same) rfl; exact ⟨_, fd, F, He.glo_ok X G (c.fact 4 (f := .glo "_law_same") rfl)⟩
  f_law_times := by obtain ⟨fd, F⟩ := c.def_ 5 (d := d_law_times) rfl; exact ⟨_, fd, F, He.glo_ok X G (c.fact 5 (f := .glo "_law_times") rfl)⟩
  f_law_asks := by obtain ⟨fd, F⟩ := c.def_ 6 (d := d_law_asks) rfl; exact ⟨_, fd, F, He.glo_ok X G (c.fact 6 (f := .glo "_law_asks") rfl)⟩
  f_law := by obtain ⟨fd, F⟩ := c.def_ 7 (d := d_law) rfl; exact ⟨_, fd, F, He.glo_ok X G (c.fact 7 (f := .glo "law") rfl)⟩
  g_BITS := by obtain ⟨t, e⟩ := He.int_ok X G (c.fact 8 (f := .int "BITS" 8) rfl); exact ⟨_, e, t, rfl⟩
  g_BYTES := by obtain ⟨t, e⟩ := He.int_ok X G (c.fact 9 (f := .int "BYTES" 256) rfl); exact ⟨_, e, t, rfl⟩
  g_OVERFLOW := by obtain ⟨t, e⟩ := He.int_ok X G (c.fact 10 (f := .int "OVERFLOW" 285) rfl); exact ⟨_, e, t, rfl⟩
  z_bool := He.free_ok X G (c.fact 11 (f := .free "bool") rfl)
  z_int := He.free_ok X G (c.fact 12 (f := .free "int") rfl)
  z_isinstance := He.free_ok X G (c.fact 13 (f := .free "isinstance") rfl)
  z_len := He.free_ok X G (c.fact 14 (f := .free "len") rfl)
  z_list := He.free_ok X G (c.fact 15 (f := .free "list") rfl)
  z_range := He.free_ok X G (c.fact 16 (f := .free "range") rfl)
  z_str := He.free_ok X G (c.fact 17 (f := .free "str") rfl)
  z_tuple := He.free_ok X G (c.fact 18 (f := .free "tuple") rfl)
def loose : List Str := (["BITS", "BYTES", "OVERFLOW", "double", "product", "inverse", "_law_next", "_law_same", "_law_times", "_law_asks"] : List Str)
abbrev R : PySem.W.OpenRow := PySem.W.OpenLaw.row PySem.Challenge.rw_steadwhole_k03_field_of_bytes
abbrev hk : PySem.W.Hook := He.hookD 5 fa fn
def ob (s : PySem.W.SharedT) : He.AlD := He.obsDG 5 fa fn (HandSHeadRun.getT s)
theorem ob_eq (s : PySem.W.SharedT) : ob s = hk.obs s.abs := He.obsDG_eq (HandSHeadRun.getT_eq s)
theorem run (w : World) : HandSHeadRun.RunEq R (PySem.W.view R.prog [12]) hk ob 2000 loose w := by
  intro os
  kernel_rfl
end Z
open PySem PySem.W PySem.Calls PyProof.Rows
theorem PySem.Challenge.cw_steadwhole_k03_field_of_bytes_holds : PySem.Challenge.rw_steadwhole_k03_field_of_bytes.Holds := by
  w_on; o_law
  refine HandSHeadRun.head_any (r := OpenLaw.row PySem.Challenge.rw_steadwhole_k03_field_of_bytes) (q := view (OpenLaw.row PySem.Challenge.rw_steadwhole_k03_field_of_bytes).prog [12]) (H := Z.hk) (ob := Z.ob) (M := 2000) (loose := Z.loose) (d := HandSHeadRun.topDef (OpenLaw.row PySem.Challenge.rw_steadwhole_k03_field_of_bytes).prog 12) (kwd := []) Z.ob_eq
    (by kernel_rfl) (fun s => by kernel_rfl) Z.run (by kernel_rfl) (by kernel_rfl) (by kernel_rfl) (by rfl) (by first | assumption | decide +kernel) (by decide +kernel) ⟨rfl, rfl, rfl, rfl, rfl, by decide +kernel⟩ ?hw ?hc
  case hw => w_witness2
  case hc =>
    refine L2.walk_ofE (l := PySem.Challenge.rw_steadwhole_k03_field_of_bytes) (n := 63) (k := 6) (x := "script") (CX := L2.CX0) rfl (by decide) (by kernel_rfl) ⟨rfl, by decide, by decide⟩ ?F (fun _ _ _ _ z => z)
    intro w mg fa h Y G hmg0
    obtain ⟨K, KX, c⟩ := Y
    have hmg : mg ("law" : PySem.Str) = some (.ref fa) := by
      have e : (HandSHeadRun.topDef (OpenLaw.row PySem.Challenge.rw_steadwhole_k03_field_of_bytes).prog 12).name = ("law" : PySem.Str) := by kernel_rfl
      rw [← e]
      exact hmg0
    have T : Z.Txt K mg := Z.txt_of KX G c
    obtain ⟨fd, hb, hF⟩ := Z.law_end (P := (PySem.Challenge.rw_steadwhole_k03_field_of_bytes).prog) (w := w) T hmg
    exact ⟨K, fd, Z.sp_law K, KX, hb, fun H a ns hl hO hS => ⟨a, ns, rfl, hS, hl, hO, fun _ => rfl⟩, fun base _ _ => hF base⟩

