import PyProof.Rows.All
import Wide.All
import OpenK.AllK
import Wide.FinOn
import HandS.ForMost
import HandS.Text
import HandS.Codes
import HandS.Defaults
import HandS.IsInst
import HandS.Style
import HandS.Head0
import HandS.Head1
import HandS.Head2
import HandS.HeadEnd
import HandS.HeadHook1
import HandS.HeadHook2
import PySem.Challenge.RW_steadwhole_k02_log_blocks_and_tails
set_option Elab.async false
set_option linter.all false
set_option maxRecDepth 100000
set_option maxHeartbeats 4000000
namespace Z
/-! ### the layer of this claim: defs by names, short rules of reading -/
open PySem PySem.Spec PyProof.Rows L2
set_option autoImplicit false
abbrev BindAll (x qual : Str) (st : Stmt) (ps : List Str) : Prop := ∀ (kV doc pm : Value) (an : Option Addr) (cdv ct : Value) (us : List Value), us.length = ps.length →
  bindArgs (PySem.W.fnOf x qual (defArgs st) (defBody st) (defScope st) .none kV doc pm an cdv ct) ⟨us, []⟩ = pure (ps.zip us)
structure GFun (K : PySem.W.Frag) (mg : Str → Option Value) (x : Str) (st : Stmt) : Prop where
  ex : ∃ (f : Addr) (fd : FuncData), FunD K x x (defArgs st) (defBody st) (defScope st) [] [] f fd ∧ mg x = some (.ref f)
structure GMet (K : PySem.W.Frag) (C : Addr) (m qual : Str) (st : Stmt) : Prop where
  ex : ∃ (f : Addr) (fd : FuncData), FunD K m qual (defArgs st) (defBody st) (defScope st) [] [] f fd ∧ Cls K C ∧ Meth K C m f
/-- a def that may be called by its name (CX: what it may let out) -/
structure CalX (CX : CXT) (P : Program) (w : World) (K : PySem.W.Frag) (mg : Str → Option Value) (base : Heap) (k : Nat) (x : Str) (sp : Sp) (dvs : List V) : Prop where
  ex : ∃ (f : Addr) (fd : FuncData) (ps : List Str) (ds : List Value), FnOk P w K mg base CX k f fd ps sp ∧ mg x = some (.ref f) ∧ PySem.W.keepIn K (.ref f) = true ∧ Binds K fd ps ds ∧ Vals dvs ds
structure MetX (CX : CXT) (P : Program) (w : World) (K : PySem.W.Frag) (mg : Str → Option Value) (base : Heap) (k : Nat) (C : Addr) (m : Str) (sp : Sp) (dvs : List V) : Prop where
  ex : ∃ (f : Addr) (fd : FuncData) (ps : List Str) (ds : List Value), Cls K C ∧ Meth K C m f ∧ FnOk P w K mg base CX k f fd ps sp ∧ Binds K fd ps ds ∧ Vals dvs ds
structure MakX (CX : CXT) (P : Program) (w : World) (K : PySem.W.Frag) (mg : Str → Option Value) (base : Heap) (k : Nat) (x : Str) (C : Addr) (sp : Sp) (dvs : List V) : Prop where
  ex : ∃ (f : Addr) (fd : FuncData) (ps : List Str) (ds : List Value), Mk K C f ∧ FnOk P w K mg base CX k f fd ps sp ∧ mg x = some (.ref C) ∧ Binds K fd ps ds ∧ Vals dvs ds
abbrev Cal := CalX CX0
abbrev Met := MetX CX0
abbrev Mak := MakX CX0
section
variable {P : Program} {w : World} {K : PySem.W.Frag} {mg : Str → Option Value} {base : Heap} {x qual m : Str} {st : Stmt} {N ps : List Str} {k : Nat} {sp : Sp} {C : Addr}
theorem fnd_ok {f : Addr} {fd : FuncData} (F : FunD K x qual (defArgs st) (defBody st) (defScope st) [] [] f fd) (S : FnScope N ps (defScope st)) (len : ∀ vs H Q E, sp vs H Q E → vs.length = ps.length)
    (hbody : ∀ (cdv : Value) (A : Around) (outer : List Env) (s : Shared) (H : Hp) (vs : List V) (Q : VK) (E : XK), Room k (A.deeper (envOfC qual (defScope st) s.heap.objs.size f cdv)) → sp vs H Q E →
      ∃ t, PSs (cxOf CX0 P w K mg base N qual (defScope st) f cdv A outer s H E).nox (defBody st) t ∧ t { nx := fun _ H' => Q .non H', rt := Q } (start N vs) H) : FnOk P w K mg base CX0 (k + 1) f fd ps sp :=
  F.ok S len fun cdv A outer s H vs Q E hr h => by
    obtain ⟨t, h1, h2⟩ := hbody cdv A outer s H vs Q E hr h
    exact ⟨t, h1.nox, h2⟩
theorem GFun.cal (g : GFun K mg x st) (S : FnScope N ps (defScope st)) (b : BindAll x x st ps) (len : ∀ vs H Q E, sp vs H Q E → vs.length = ps.length)
    (hbody : ∀ (f : Addr) (cdv : Value) (A : Around) (outer : List Env) (s : Shared) (H : Hp) (vs : List V) (Q : VK) (E : XK), Room k (A.deeper (envOfC x (defScope st) s.heap.objs.size f cdv)) → sp vs H Q E →
      ∃ t, PSs (cxOf CX0 P w K mg base N x (defScope st) f cdv A outer s H E).nox (defBody st) t ∧ t { nx := fun _ H' => Q .non H', rt := Q } (start N vs) H) : Cal P w K mg base (k + 1) x sp [] := by
  obtain ⟨f, fd, F, hm⟩ := g.ex
  exact ⟨f, fd, ps, [], fnd_ok F S len (hbody f), hm, F.kp, F.bindsN b, .nil⟩
theorem GMet.met (g : GMet K C m qual st) (S : FnScope N ps (defScope st)) (b : BindAll m qual st ps) (len : ∀ vs H Q E, sp vs H Q E → vs.length = ps.length)
    (hbody : ∀ (f : Addr) (cdv : Value) (A : Around) (outer : List Env) (s : Shared) (H : Hp) (vs : List V) (Q : VK) (E : XK), Room k (A.deeper (envOfC qual (defScope st) s.heap.objs.size f cdv)) → sp vs H Q E →
      ∃ t, PSs (cxOf CX0 P w K mg base N qual (defScope st) f cdv A outer s H E).nox (defBody st) t ∧ t { nx := fun _ H' => Q .non H', rt := Q } (start N vs) H) : Met P w K mg base (k + 1) C m sp [] := by
  obtain ⟨f, fd, F, c, hm⟩ := g.ex
  exact ⟨f, fd, ps, [], c, hm, fnd_ok F S len (hbody f), F.bindsN b, .nil⟩
theorem GFun.law {fa : Addr} (g : GFun K mg "law" st) (hmg : mg "law" = some (.ref fa)) (S : FnScope N ["script"] (defScope st)) (b : BindAll "law" "law" st ["script"]) (len : ∀ vs H Q E, sp vs H Q E → vs.length = 1)
    (hbody : ∀ (base : Heap) (f : Addr) (cdv : Value) (A : Around) (outer : List Env) (s : Shared) (H : Hp) (vs : List V) (Q : VK) (E : XK), Room k (A.deeper (envOfC "law" (defScope st) s.heap.objs.size f cdv)) → sp vs H Q E →
      ∃ t, PSs (cxOf CX0 P w K mg base N "law" (defScope st) f cdv A outer s H E).nox (defBody st) t ∧ t { nx := fun _ H' => Q .non H', rt := Q } (start N vs) H) :
    ∃ fd : FuncData, (∀ (s : Shared) (v : Value), BindsTo s fd ⟨[v], []⟩ [("script", v)]) ∧ ∀ base : Heap, FnOk P w K mg base CX0 (k + 1) fa fd ["script"] sp := by
  obtain ⟨f, fd, F, hm⟩ := g.ex
  have e := hmg.symm.trans hm
  cases e
  exact ⟨fd, fun s v => F.bindsA (ps := ["script"]) b s [v] rfl, fun base => fnd_ok F S len (hbody base fa)⟩
end
section
variable {X : Cx} {k j : Nat} {C : Addr} {x m : Str} {sp : Sp} {dvs : List V} {p pos apos : Pos}
theorem pe_cX {CX : CXT} {E : XK} {e : Expr} {es : List Expr} {t : TA} (c : CalX CX X.prog X.w X.K X.mg X.base k x sp dvs) (hr : Room j X.A) (hk : k ≤ j) (hx : Passes CX X E) (hg : Gl X x) (ha : PA X (e :: es) t)
    (hdb : (x == ("__debug__" : Str)) = false := by decide) (he : starEach (e :: es) X.env = (false, eval e X.env) :: starEach es X.env := by rfl) (hpl : (backTo pos (starEach es X.env)).any (·.1) = false := by rfl) :
    PE X (.Call (.Name x p) (e :: es) [] pos) (tCall sp dvs E t) := by
  obtain ⟨f, fd, ps, ds, F, hm, kp, b, d⟩ := c.ex
  exact pe_call F (hr.mono hk) hg hm kp b d hx ha hdb he hpl
theorem pe_cX0 {CX : CXT} {E : XK} (c : CalX CX X.prog X.w X.K X.mg X.base k x sp dvs) (hr : Room j X.A) (hk : k ≤ j) (hx : Passes CX X E) (hg : Gl X x) (hdb : (x == ("__debug__" : Str)) = false := by decide) :
    PE X (.Call (.Name x p) [] [] pos) (tCall sp dvs E tNil) := by
  obtain ⟨f, fd, ps, ds, F, hm, kp, b, d⟩ := c.ex
  exact pe_call0 F (hr.mono hk) hg hm kp b d hx hdb
theorem pe_c {e : Expr} {es : List Expr} {t : TA} (c : Cal X.prog X.w X.K X.mg X.base k x sp dvs) (hr : Room j X.A) (hk : k ≤ j) (hg : Gl X x) (ha : PA X (e :: es) t)
    (hdb : (x == ("__debug__" : Str)) = false := by decide) (he : starEach (e :: es) X.env = (false, eval e X.env) :: starEach es X.env := by rfl) (hpl : (backTo pos (starEach es X.env)).any (·.1) = false := by rfl) :
    PE X (.Call (.Name x p) (e :: es) [] pos) (tCall sp dvs E0 t) := pe_cX c hr hk pass0 hg ha hdb he hpl
theorem pe_c0 (c : Cal X.prog X.w X.K X.mg X.base k x sp dvs) (hr : Room j X.A) (hk : k ≤ j) (hg : Gl X x) (hdb : (x == ("__debug__" : Str)) = false := by decide) :
    PE X (.Call (.Name x p) [] [] pos) (tCall sp dvs E0 tNil) := pe_cX0 c hr hk pass0 hg hdb
theorem pe_mkX {CX : CXT} {E : XK} {e : Expr} {es : List Expr} {t : TA} (c : MakX CX X.prog X.w X.K X.mg X.base k x C sp dvs) (hr : Room j X.A) (hk : k + 1 ≤ j) (hx : Passes CX X E) (hg : Gl X x) (ha : PA X (e :: es) t)
    (hdb : (x == ("__debug__" : Str)) = false := by decide) (he : starEach (e :: es) X.env = (false, eval e X.env) :: starEach es X.env := by rfl) (hpl : (backTo pos (starEach es X.env)).any (·.1) = false := by rfl) :
    PE X (.Call (.Name x p) (e :: es) [] pos) (tMake C sp dvs E t) := by
  obtain ⟨f, fd, ps, ds, M, F, hm, b, d⟩ := c.ex
  exact pe_make M F (hr.mono hk) hg hm b d hx ha hdb he hpl
theorem pe_mkX0 {CX : CXT} {E : XK} (c : MakX CX X.prog X.w X.K X.mg X.base k x C sp dvs) (hr : Room j X.A) (hk : k + 1 ≤ j) (hx : Passes CX X E) (hg : Gl X x) (hdb : (x == ("__debug__" : Str)) = false := by decide) :
    PE X (.Call (.Name x p) [] [] pos) (tMake C sp dvs E tNil) := by
  obtain ⟨f, fd, ps, ds, M, F, hm, b, d⟩ := c.ex
  exact pe_make0 M F (hr.mono hk) hg hm b d hx hdb
theorem pe_mk {e : Expr} {es : List Expr} {t : TA} (c : Mak X.prog X.w X.K X.mg X.base k x C sp dvs) (hr : Room j X.A) (hk : k + 1 ≤ j) (hg : Gl X x) (ha : PA X (e :: es) t)
    (hdb : (x == ("__debug__" : Str)) = false := by decide) (he : starEach (e :: es) X.env = (false, eval e X.env) :: starEach es X.env := by rfl) (hpl : (backTo pos (starEach es X.env)).any (·.1) = false := by rfl) :
    PE X (.Call (.Name x p) (e :: es) [] pos) (tMake C sp dvs E0 t) := pe_mkX c hr hk pass0 hg ha hdb he hpl
theorem pe_mk0 (c : Mak X.prog X.w X.K X.mg X.base k x C sp dvs) (hr : Room j X.A) (hk : k + 1 ≤ j) (hg : Gl X x) (hdb : (x == ("__debug__" : Str)) = false := by decide) :
    PE X (.Call (.Name x p) [] [] pos) (tMake C sp dvs E0 tNil) := pe_mkX0 c hr hk pass0 hg hdb
section
variable {e o : Expr} {es : List Expr} {ta : TE} {t : TA}
theorem pe_mtX {CX : CXT} {E : XK} {pl : Sem Bool} (c : MetX CX X.prog X.w X.K X.mg X.base k C m sp dvs) (hr : Room j X.A) (hk : k ≤ j) (hx : Passes CX X E) (he : PE X o ta) (ha : PA X (e :: es) t)
    (hst : starEach (e :: es) X.env = (false, eval e X.env) :: starEach es X.env := by rfl) (hpl : (backTo pos (starEach es X.env)).any (·.1) = false := by rfl)
    (ht : eval (.Call (.Attribute o m apos) (e :: es) [] pos) X.env = (do
      let ov ← eval o X.env
      standAt apos.atName
      let (f, first) ← holding [ov] (getMethod ov m pl)
      callWith pos f first (backTo pos (starEach (e :: es) X.env)) (backToKw pos (keywordEach [] X.env))) := by rfl) :
    PE X (.Call (.Attribute o m apos) (e :: es) [] pos) (tMeth C m sp dvs E ta t) := by
  obtain ⟨f, fd, ps, ds, hc, hm, F, b, d⟩ := c.ex
  exact pe_meth (pl := pl) he hc hm F (hr.mono hk) b d hx ha hst hpl ht
theorem pe_mtX0 {CX : CXT} {E : XK} {pl : Sem Bool} (c : MetX CX X.prog X.w X.K X.mg X.base k C m sp dvs) (hr : Room j X.A) (hk : k ≤ j) (hx : Passes CX X E) (he : PE X o ta)
    (ht : eval (.Call (.Attribute o m apos) [] [] pos) X.env = (do
      let ov ← eval o X.env
      standAt apos.atName
      let (f, first) ← holding [ov] (getMethod ov m pl)
      callWith pos f first (backTo pos (starEach [] X.env)) (backToKw pos (keywordEach [] X.env))) := by rfl) :
    PE X (.Call (.Attribute o m apos) [] [] pos) (tMeth C m sp dvs E ta tNil) := by
  obtain ⟨f, fd, ps, ds, hc, hm, F, b, d⟩ := c.ex
  exact pe_meth0 (pl := pl) he hc hm F (hr.mono hk) b d hx ht
theorem pe_mt {pl : Sem Bool} (c : Met X.prog X.w X.K X.mg X.base k C m sp dvs) (hr : Room j X.A) (hk : k ≤ j) (he : PE X o ta) (ha : PA X (e :: es) t)
    (hst : starEach (e :: es) X.env = (false, eval e X.env) :: starEach es X.env := by rfl) (hpl : (backTo pos (starEach es X.env)).any (·.1) = false := by rfl)
    (ht : eval (.Call (.Attribute o m apos) (e :: es) [] pos) X.env = (do
      let ov ← eval o X.env
      standAt apos.atName
      let (f, first) ← holding [ov] (getMethod ov m pl)
      callWith pos f first (backTo pos (starEach (e :: es) X.env)) (backToKw pos (keywordEach [] X.env))) := by rfl) :
    PE X (.Call (.Attribute o m apos) (e :: es) [] pos) (tMeth C m sp dvs E0 ta t) := pe_mtX (pl := pl) c hr hk pass0 he ha hst hpl ht
theorem pe_mt0 {pl : Sem Bool} (c : Met X.prog X.w X.K X.mg X.base k C m sp dvs) (hr : Room j X.A) (hk : k ≤ j) (he : PE X o ta)
    (ht : eval (.Call (.Attribute o m apos) [] [] pos) X.env = (do
      let ov ← eval o X.env
      standAt apos.atName
      let (f, first) ← holding [ov] (getMethod ov m pl)
      callWith pos f first (backTo pos (starEach [] X.env)) (backToKw pos (keywordEach [] X.env))) := by rfl) :
    PE X (.Call (.Attribute o m apos) [] [] pos) (tMeth C m sp dvs E0 ta tNil) := pe_mtX0 (pl := pl) c hr hk pass0 he ht
end
theorem pe_gc (hg : Gl X x) {v : V} (h : ∃ u, X.mg x = some u ∧ RelV v u) (hd : (x == ("__debug__" : Str)) = false := by decide) : PE X (.Name x p) (tC v) := by
  obtain ⟨u, e, r⟩ := h
  exact pe_glob hg e r hd
/-- xs[i], read ahead of xs[i] op= e -/
theorem get_list : PGet X (rIxL X.K) := by
  intro pins s σ H x y v u Q I rx ry h
  obtain ⟨p, xs, i, z, rfl, rfl, hq, he, q⟩ := h
  cases rx
  obtain ⟨t, rfl⟩ := ry
  obtain ⟨its, r, pl, hz⟩ := I.list hq
  obtain ⟨j, h1, h2, h3, h4, h5⟩ := atI_get he
  obtain ⟨w, ew, rw'⟩ := r.get h2
  have hl := r.length
  have hn := line63
  have fin : EP X pins σ Q w s := ⟨z, H, I, rw', q⟩
  by_cases h0 : 0 ≤ i
  · have hj : i.toNat = j := by
      rw [seqIndex_of h0 h5] at h1
      exact Option.some.inj h1
    exact wpAny_getItem_list pl.isList h0 (by omega) (by rw [hj]; simpa using ew) fin
  · have hj : (i + (its.toArray.size : Int)).toNat = j := by
      rw [seqIndex_neg (by omega) h4] at h1
      rw [List.size_toArray, ← hl]
      exact Option.some.inj h1
    exact wpAny_getItem_list_neg pl.isList (by omega) (by rw [List.size_toArray] <;> omega) (by omega) (by rw [hj]; simpa using ew) fin
end
section
variable {K : PySem.W.Frag} {σ : L2.St} {H : Hp} {Q : VK} {QB : Bool → Hp → Prop} {v x y : V} {ta tb te : TE} {t u : TT} {r : R2} {D : Ends} {QL : List V → Hp → Prop}
/-! ### readings, one step each -/
theorem rd_var {i : Nat} (h : σ[i]? = some (some v)) (q : Q v H) : tVar i σ H Q := ⟨v, h, q⟩
theorem rd_c (q : Q v H) : tC v σ H Q := q
theorem rd_op (q : ta σ H fun x H1 => tb σ H1 fun y H2 => r x y H2 Q) : tOp r ta tb σ H Q := q
theorem rd_i0 {g : Int → Int → V} {i j : Int} (q : Q (g i j) H) : rI0 g (.int i) (.int j) H Q := ⟨i, j, rfl, rfl, q⟩
theorem rd_i {C : Int → Int → Prop} {g : Int → Int → V} {i j : Int} (c : C i j) (q : Q (g i j) H) : rI C g (.int i) (.int j) H Q := ⟨i, j, rfl, rfl, c, q⟩
theorem rd_eq (h : scal x y = true) (q : Q (.bl (decide (x = y))) H) : rEq x y H Q := ⟨h, q⟩
theorem rd_ne (h : scal x y = true) (q : Q (.bl (!decide (x = y))) H) : rNe x y H Q := ⟨h, q⟩
theorem rd_eqi {i j : Int} (q : Q (.bl (decide (i = j))) H) : rEq (.int i) (.int j) H Q := ⟨rfl, by rw [show decide (V.int i = V.int j) = decide (i = j) from decide_eq_decide.mpr (by simp)]; exact q⟩
theorem rd_nei {i j : Int} (q : Q (.bl (!decide (i = j))) H) : rNe (.int i) (.int j) H Q := ⟨rfl, by rw [show decide (V.int i = V.int j) = decide (i = j) from decide_eq_decide.mpr (by simp)]; exact q⟩
theorem rd_tb {b : Bool} {R : Bool → Prop} (q : R b) : ∃ k, V.bl b = .bl k ∧ R k := ⟨b, rfl, q⟩
theorem rd_tTest (q : te σ H fun x H' => ∃ k, x = .bl k ∧ QB k H') : tTest te σ H QB := q
theorem rd_tB (q : te σ H fun x H' => ∃ k, x = .bl k ∧ QB k H') : tB te σ H QB := q
theorem rd_and (q : t σ H fun c H1 => if c = true then u σ H1 QB else QB false H1) : tAnd t u σ H QB := q
theorem rd_or (q : t σ H fun c H1 => if c = true then QB true H1 else u σ H1 QB) : tOr t u σ H QB := q
theorem rd_not (q : t σ H fun c H1 => QB (!c) H1) : tNot t σ H QB := q
theorem rd_ite {b : Bool} {A B : Prop} (h1 : b = true → A) (h2 : b = false → B) : if b = true then A else B := by
  cases b with
  | true => exact iteT (h1 rfl)
  | false => exact iteF (h2 rfl)
theorem rd_nil (q : QL [] H) : tNil σ H QL := q
theorem rd_cons {tr : TA} (q : ta σ H fun x H1 => tr σ H1 fun xs H2 => QL (x :: xs) H2) : tCons ta tr σ H QL := q
theorem rd_call {sp : Sp} {dvs : List V} {E : XK} {ts : TA} (q : ts σ H fun vs H1 => sp (vs ++ dvs) H1 Q E) : tCall sp dvs E ts σ H Q := q
theorem rd_cb {rc : List V → Hp → VK → Prop} {ts : TA} (q : ts σ H fun vs H1 => rc vs H1 Q) : tCB rc ts σ H Q := q
theorem rd_un {ru : V → Hp → VK → Prop} (q : ta σ H fun x H1 => ru x H1 Q) : tUn ru ta σ H Q := q
theorem rd_ixL {p : Addr} {xs : List V} {i : Int} (h : SqL K H p xs) (ha : atI xs i = some v) (q : Q v H) : rIxL K (.ref p) (.int i) H Q := ⟨p, xs, i, v, rfl, rfl, h, ha, q⟩
theorem rd_ixT {p : Addr} {xs : List V} {i : Int} (h : SqT K H p xs) (ha : atI xs i = some v) (q : Q v H) : rIxT K (.ref p) (.int i) H Q := ⟨p, xs, i, v, rfl, rfl, h, ha, q⟩
theorem rd_seq {a b : TS} (q : a { D with nx := b D } σ H) : tSeq a b D σ H := q
theorem rd_nx (q : D.nx σ H) : tNext D σ H := q
theorem rd_asg {g : TG} (q : te σ H fun x H1 => g x σ H1 D.nx) : tAsg te g D σ H := q
theorem rd_gName {i : Nat} {R : L2.St → Hp → Prop} (q : R (σ.set i (some v)) H) : gName i v σ H R := q
theorem rd_gSub {to ti : TE} {s : TSet} {R : L2.St → Hp → Prop} (q : to σ H fun o H1 => ti σ H1 fun i H2 => s o i v H2 fun H3 => R σ H3) : gSub to ti s v σ H R := q
theorem rd_setL {p : Addr} {xs : List V} {k : Int} {j : Nat} {R : Hp → Prop} (h : H p = some (.lst xs)) (hj : ixN xs.length k = some j) (q : R (upd H p (.lst (xs.set j v)))) : rSetL (.ref p) (.int k) v H R := ⟨p, xs, k, j, rfl, rfl, h, hj, q⟩
theorem rd_ret (q : te σ H D.rt) : tRet te D σ H := q
theorem rd_retN (q : D.rt .non H) : tRetN D σ H := q
theorem rd_if {c : TT} {a b : TS} (q : c σ H fun z H1 => if z = true then a D σ H1 else b D σ H1) : tIfS c a b D σ H := q
theorem rd_drop (q : te σ H fun _ H1 => D.nx σ H1) : tDrop te D σ H := q
theorem rd_aug {i : Nat} {ti : TIp} (h : σ[i]? = some (some x)) (q : te σ H fun y H1 => ti x y H1 fun z H2 => D.nx (σ.set i (some z)) H2) : tAug i te ti D σ H := ⟨x, h, q⟩
theorem rd_ipI {f : Int → Int → Int} {i j : Int} (q : Q (.int (f i j)) H) : ipI f (.int i) (.int j) H Q := ⟨i, j, rfl, rfl, q⟩
theorem rd_augS {to ti te : TE} {tg : V → V → Hp → VK → Prop} {tp : TIp} {ts : TSet} (q : to σ H fun o H1 => ti σ H1 fun i H2 => tg o i H2 fun x H3 => te σ H3 fun y H4 => tp x y H4 fun z H5 => ts o i z H5 fun H6 => D.nx σ H6) : tAugS to ti te tg tp ts D σ H := q
theorem rd_tup {ts : TA} (q : ts σ H fun xs H1 => xs.length ≤ sizeLine ∧ ∀ p, H1 p = none → Q (.ref p) (upd H1 p (.tup xs))) : tTup ts σ H Q := q
theorem rd_lst {ts : TA} (q : ts σ H fun xs H1 => xs.length ≤ sizeLine ∧ ∀ p, H1 p = none → Q (.ref p) (upd H1 p (.lst xs))) : tLst ts σ H Q := q
theorem rd_bm0 {T : String} {m : V → List V → Hp → VK → Prop} {to : TE} (q : to σ H fun x H1 => tyV K T x H1 ∧ m x [] H1 Q) : tBM0 K T m to σ H Q := q
theorem rd_bm {T : String} {m : V → List V → Hp → VK → Prop} {to : TE} {ts : TA} (q : to σ H fun x H1 => tyV K T x H1 ∧ ts σ H1 fun xs H2 => m x xs H2 Q) : tBM K T m to ts σ H Q := q
theorem rd_chain {r r' : R2} {tc : TE} (q : ta σ H fun x H1 => tb σ H1 fun y H2 => r x y H2 fun z H3 => ∃ k, z = .bl k ∧ (if k = true then tc σ H3 fun w' H4 => r' y w' H4 Q else Q (.bl false) H3)) : tChain r r' ta tb tc σ H Q := q
theorem rd_andV (q : ta σ H fun x H1 => ∃ c, x = .bl c ∧ if c = true then tb σ H1 Q else Q (.bl false) H1) : tAndV ta tb σ H Q := q
theorem rd_orV (q : ta σ H fun x H1 => ∃ c, x = .bl c ∧ if c = true then Q (.bl true) H1 else tb σ H1 Q) : tOrV ta tb σ H Q := q
theorem rd_notV (q : ta σ H fun x H1 => ∃ c, x = .bl c ∧ Q (.bl (!c)) H1) : tNotV ta σ H Q := q
end
section
variable {K : PySem.W.Frag} {H : Hp} {Q : VK}
theorem rd_isi {x c : V} {t u : Value} {b : Bool} (k : ClsV c u) (ty : TyX K H x t) (e : PySem.W.kitOne K t u = some b) (q : Q (.bl b) H) : rIsi K [x, c] H Q := ⟨x, c, t, u, b, rfl, k, ty, e, q⟩
theorem isi_int_int {i : Int} (q : Q (.bl true) H) : rIsi K [(.int i), .ty "int"] H Q := rd_isi (.ty _) (.base (.int _)) (kit_ty (by decide +kernel)) q
theorem isi_int_bool {i : Int} (q : Q (.bl false) H) : rIsi K [(.int i), .ty "bool"] H Q := rd_isi (.ty _) (.base (.int _)) (kit_ty (by decide +kernel)) q
theorem isi_int_str {i : Int} (q : Q (.bl false) H) : rIsi K [(.int i), .ty "str"] H Q := rd_isi (.ty _) (.base (.int _)) (kit_ty (by decide +kernel)) q
theorem isi_int_list {i : Int} (q : Q (.bl false) H) : rIsi K [(.int i), .ty "list"] H Q := rd_isi (.ty _) (.base (.int _)) (kit_ty (by decide +kernel)) q
theorem isi_int_tuple {i : Int} (q : Q (.bl false) H) : rIsi K [(.int i), .ty "tuple"] H Q := rd_isi (.ty _) (.base (.int _)) (kit_ty (by decide +kernel)) q
theorem isi_int_dict {i : Int} (q : Q (.bl false) H) : rIsi K [(.int i), .ty "dict"] H Q := rd_isi (.ty _) (.base (.int _)) (kit_ty (by decide +kernel)) q
theorem isi_int_bytes {i : Int} (q : Q (.bl false) H) : rIsi K [(.int i), .ty "bytes"] H Q := rd_isi (.ty _) (.base (.int _)) (kit_ty (by decide +kernel)) q
theorem isi_bool_int {i : Bool} (q : Q (.bl true) H) : rIsi K [(.bl i), .ty "int"] H Q := rd_isi (.ty _) (.base (.bl _)) (kit_ty (by decide +kernel)) q
theorem isi_bool_bool {i : Bool} (q : Q (.bl true) H) : rIsi K [(.bl i), .ty "bool"] H Q := rd_isi (.ty _) (.base (.bl _)) (kit_ty (by decide +kernel)) q
theorem isi_bool_str {i : Bool} (q : Q (.bl false) H) : rIsi K [(.bl i), .ty "str"] H Q := rd_isi (.ty _) (.base (.bl _)) (kit_ty (by decide +kernel)) q
theorem isi_bool_list {i : Bool} (q : Q (.bl false) H) : rIsi K [(.bl i), .ty "list"] H Q := rd_isi (.ty _) (.base (.bl _)) (kit_ty (by decide +kernel)) q
theorem isi_bool_tuple {i : Bool} (q : Q (.bl false) H) : rIsi K [(.bl i), .ty "tuple"] H Q := rd_isi (.ty _) (.base (.bl _)) (kit_ty (by decide +kernel)) q
theorem isi_bool_dict {i : Bool} (q : Q (.bl false) H) : rIsi K [(.bl i), .ty "dict"] H Q := rd_isi (.ty _) (.base (.bl _)) (kit_ty (by decide +kernel)) q
theorem isi_bool_bytes {i : Bool} (q : Q (.bl false) H) : rIsi K [(.bl i), .ty "bytes"] H Q := rd_isi (.ty _) (.base (.bl _)) (kit_ty (by decide +kernel)) q
theorem isi_str_int {i : Str} (q : Q (.bl false) H) : rIsi K [(.str i), .ty "int"] H Q := rd_isi (.ty _) (.base (.str _)) (kit_ty (by decide +kernel)) q
theorem isi_str_bool {i : Str} (q : Q (.bl false) H) : rIsi K [(.str i), .ty "bool"] H Q := rd_isi (.ty _) (.base (.str _)) (kit_ty (by decide +kernel)) q
theorem isi_str_str {i : Str} (q : Q (.bl true) H) : rIsi K [(.str i), .ty "str"] H Q := rd_isi (.ty _) (.base (.str _)) (kit_ty (by decide +kernel)) q
theorem isi_str_list {i : Str} (q : Q (.bl false) H) : rIsi K [(.str i), .ty "list"] H Q := rd_isi (.ty _) (.base (.str _)) (kit_ty (by decide +kernel)) q
theorem isi_str_tuple {i : Str} (q : Q (.bl false) H) : rIsi K [(.str i), .ty "tuple"] H Q := rd_isi (.ty _) (.base (.str _)) (kit_ty (by decide +kernel)) q
theorem isi_str_dict {i : Str} (q : Q (.bl false) H) : rIsi K [(.str i), .ty "dict"] H Q := rd_isi (.ty _) (.base (.str _)) (kit_ty (by decide +kernel)) q
theorem isi_str_bytes {i : Str} (q : Q (.bl false) H) : rIsi K [(.str i), .ty "bytes"] H Q := rd_isi (.ty _) (.base (.str _)) (kit_ty (by decide +kernel)) q
theorem isi_NoneType_int  (q : Q (.bl false) H) : rIsi K [.non, .ty "int"] H Q := rd_isi (.ty _) (.base (.non)) (kit_ty (by decide +kernel)) q
theorem isi_NoneType_bool  (q : Q (.bl false) H) : rIsi K [.non, .ty "bool"] H Q := rd_isi (.ty _) (.base (.non)) (kit_ty (by decide +kernel)) q
theorem isi_NoneType_str  (q : Q (.bl false) H) : rIsi K [.non, .ty "str"] H Q := rd_isi (.ty _) (.base (.non)) (kit_ty (by decide +kernel)) q
theorem isi_NoneType_list  (q : Q (.bl false) H) : rIsi K [.non, .ty "list"] H Q := rd_isi (.ty _) (.base (.non)) (kit_ty (by decide +kernel)) q
theorem isi_NoneType_tuple  (q : Q (.bl false) H) : rIsi K [.non, .ty "tuple"] H Q := rd_isi (.ty _) (.base (.non)) (kit_ty (by decide +kernel)) q
theorem isi_NoneType_dict  (q : Q (.bl false) H) : rIsi K [.non, .ty "dict"] H Q := rd_isi (.ty _) (.base (.non)) (kit_ty (by decide +kernel)) q
theorem isi_NoneType_bytes  (q : Q (.bl false) H) : rIsi K [.non, .ty "bytes"] H Q := rd_isi (.ty _) (.base (.non)) (kit_ty (by decide +kernel)) q
theorem isi_list_int {p : Addr} {xs : List V} (h : H p = some (.lst xs)) (q : Q (.bl false) H) : rIsi K [(.ref p), .ty "int"] H Q := rd_isi (.ty _) (.base (.lst h)) (kit_ty (by decide +kernel)) q
theorem isi_list_bool {p : Addr} {xs : List V} (h : H p = some (.lst xs)) (q : Q (.bl false) H) : rIsi K [(.ref p), .ty "bool"] H Q := rd_isi (.ty _) (.base (.lst h)) (kit_ty (by decide +kernel)) q
theorem isi_list_str {p : Addr} {xs : List V} (h : H p = some (.lst xs)) (q : Q (.bl false) H) : rIsi K [(.ref p), .ty "str"] H Q := rd_isi (.ty _) (.base (.lst h)) (kit_ty (by decide +kernel)) q
theorem isi_list_list {p : Addr} {xs : List V} (h : H p = some (.lst xs)) (q : Q (.bl true) H) : rIsi K [(.ref p), .ty "list"] H Q := rd_isi (.ty _) (.base (.lst h)) (kit_ty (by decide +kernel)) q
theorem isi_list_tuple {p : Addr} {xs : List V} (h : H p = some (.lst xs)) (q : Q (.bl false) H) : rIsi K [(.ref p), .ty "tuple"] H Q := rd_isi (.ty _) (.base (.lst h)) (kit_ty (by decide +kernel)) q
theorem isi_list_dict {p : Addr} {xs : List V} (h : H p = some (.lst xs)) (q : Q (.bl false) H) : rIsi K [(.ref p), .ty "dict"] H Q := rd_isi (.ty _) (.base (.lst h)) (kit_ty (by decide +kernel)) q
theorem isi_list_bytes {p : Addr} {xs : List V} (h : H p = some (.lst xs)) (q : Q (.bl false) H) : rIsi K [(.ref p), .ty "bytes"] H Q := rd_isi (.ty _) (.base (.lst h)) (kit_ty (by decide +kernel)) q
theorem isi_tuple_int {p : Addr} {xs : List V} (h : H p = some (.tup xs)) (q : Q (.bl false) H) : rIsi K [(.ref p), .ty "int"] H Q := rd_isi (.ty _) (.base (.tup h)) (kit_ty (by decide +kernel)) q
theorem isi_tuple_bool {p : Addr} {xs : List V} (h : H p = some (.tup xs)) (q : Q (.bl false) H) : rIsi K [(.ref p), .ty "bool"] H Q := rd_isi (.ty _) (.base (.tup h)) (kit_ty (by decide +kernel)) q
theorem isi_tuple_str {p : Addr} {xs : List V} (h : H p = some (.tup xs)) (q : Q (.bl false) H) : rIsi K [(.ref p), .ty "str"] H Q := rd_isi (.ty _) (.base (.tup h)) (kit_ty (by decide +kernel)) q
theorem isi_tuple_list {p : Addr} {xs : List V} (h : H p = some (.tup xs)) (q : Q (.bl false) H) : rIsi K [(.ref p), .ty "list"] H Q := rd_isi (.ty _) (.base (.tup h)) (kit_ty (by decide +kernel)) q
theorem isi_tuple_tuple {p : Addr} {xs : List V} (h : H p = some (.tup xs)) (q : Q (.bl true) H) : rIsi K [(.ref p), .ty "tuple"] H Q := rd_isi (.ty _) (.base (.tup h)) (kit_ty (by decide +kernel)) q
theorem isi_tuple_dict {p : Addr} {xs : List V} (h : H p = some (.tup xs)) (q : Q (.bl false) H) : rIsi K [(.ref p), .ty "dict"] H Q := rd_isi (.ty _) (.base (.tup h)) (kit_ty (by decide +kernel)) q
theorem isi_tuple_bytes {p : Addr} {xs : List V} (h : H p = some (.tup xs)) (q : Q (.bl false) H) : rIsi K [(.ref p), .ty "bytes"] H Q := rd_isi (.ty _) (.base (.tup h)) (kit_ty (by decide +kernel)) q
theorem isi_dict_int {p : Addr} {xs : List (Key × V)} (h : H p = some (.dK xs)) (q : Q (.bl false) H) : rIsi K [(.ref p), .ty "int"] H Q := rd_isi (.ty _) (.base (.dK h)) (kit_ty (by decide +kernel)) q
theorem isi_dict_bool {p : Addr} {xs : List (Key × V)} (h : H p = some (.dK xs)) (q : Q (.bl false) H) : rIsi K [(.ref p), .ty "bool"] H Q := rd_isi (.ty _) (.base (.dK h)) (kit_ty (by decide +kernel)) q
theorem isi_dict_str {p : Addr} {xs : List (Key × V)} (h : H p = some (.dK xs)) (q : Q (.bl false) H) : rIsi K [(.ref p), .ty "str"] H Q := rd_isi (.ty _) (.base (.dK h)) (kit_ty (by decide +kernel)) q
theorem isi_dict_list {p : Addr} {xs : List (Key × V)} (h : H p = some (.dK xs)) (q : Q (.bl false) H) : rIsi K [(.ref p), .ty "list"] H Q := rd_isi (.ty _) (.base (.dK h)) (kit_ty (by decide +kernel)) q
theorem isi_dict_tuple {p : Addr} {xs : List (Key × V)} (h : H p = some (.dK xs)) (q : Q (.bl false) H) : rIsi K [(.ref p), .ty "tuple"] H Q := rd_isi (.ty _) (.base (.dK h)) (kit_ty (by decide +kernel)) q
theorem isi_dict_dict {p : Addr} {xs : List (Key × V)} (h : H p = some (.dK xs)) (q : Q (.bl true) H) : rIsi K [(.ref p), .ty "dict"] H Q := rd_isi (.ty _) (.base (.dK h)) (kit_ty (by decide +kernel)) q
theorem isi_dict_bytes {p : Addr} {xs : List (Key × V)} (h : H p = some (.dK xs)) (q : Q (.bl false) H) : rIsi K [(.ref p), .ty "bytes"] H Q := rd_isi (.ty _) (.base (.dK h)) (kit_ty (by decide +kernel)) q
end
/-! ### the head's facts and some more of K -/
def obsX (n : Nat) (fa : List He.Fa) (fn : List He.DefD) (ex : PySem.W.Frag → Bool) (g : Addr → Option Obj) : He.AlD × Bool := (He.obsD fa fn (He.frG g (He.asD g n)), ex (He.frG g (He.asD g n)))
def hookX (n : Nat) (fa : List He.Fa) (fn : List He.DefD) (ex : PySem.W.Frag → Bool) : PySem.W.Hook where
  α := He.AlD × Bool
  obs := fun s => obsX n fa fn ex s.heap.get?
  val := fun _ => (He.valD fn, true)
  says := fun _ h => ∃ K : PySem.W.Frag, K.In h ∧ He.SaysD fa fn K ∧ ex K = true
  of := fun _ _ e => ⟨_, He.frG_in, congrArg Prod.fst e, congrArg Prod.snd e⟩
  keeps := fun _ _ _ ⟨K, hK, c⟩ k => ⟨K, PySem.W.Frag.In.keeps hK k, c⟩
theorem obsX_eq {n : Nat} {fa : List He.Fa} {fn : List He.DefD} {ex : PySem.W.Frag → Bool} {g : Addr → Option Obj} {s : Shared} (h : ∀ a, g a = s.heap.get? a) : obsX n fa fn ex g = (hookX n fa fn ex).obs s := by
  have e : g = s.heap.get? := funext h
  rw [e] <;> rfl
theorem ex_at {exs : List (PySem.W.Frag → Bool)} {K : PySem.W.Frag} (h : (exs.all fun f => f K) = true) (i : Nat) {f : PySem.W.Frag → Bool} (e : exs[i]? = some f := by rfl) : f K = true := List.all_eq_true.mp h f (List.mem_of_getElem? e)
/-! ### rules under names -/
def qIsN : R2 := fun x y H Q => y = .non ∧ Q (.bl (decide (x = .non))) H
def qNotN : R2 := fun x y H Q => y = .non ∧ Q (.bl (!decide (x = .non))) H
def qInt1 : List V → Hp → VK → Prop := fun xs H Q => (∃ i, xs = [.int i] ∧ Q (.int i) H) ∨ ∃ k, xs = [.bl k] ∧ Q (.int (if k then 1 else 0)) H
def qBool1 : List V → Hp → VK → Prop := fun xs H Q => (∃ i, xs = [.int i] ∧ Q (.bl (i != 0)) H) ∨ ∃ k, xs = [.bl k] ∧ Q (.bl k) H
def qLen (K : PySem.W.Frag) : List V → Hp → VK → Prop := fun xs H Q => ∃ p ys, xs = [.ref p] ∧ (SqL K H p ys ∨ SqT K H p ys) ∧ Q (.int ys.length) H
def qLenS : List V → Hp → VK → Prop := fun xs H Q => ∃ z, xs = [.str z] ∧ z.length ≤ sizeLine ∧ Q (.int z.length) H
def qListOf (K : PySem.W.Frag) : List V → Hp → VK → Prop := fun xs H Q => ∃ p ys, xs = [.ref p] ∧ (SqL K H p ys ∨ SqT K H p ys) ∧ ∀ l, H l = none → Q (.ref l) (upd H l (.lst ys))
def qMax2 : List V → Hp → VK → Prop := fun xs H Q => ∃ i j, xs = [.int i, .int j] ∧ Q (.int (if j > i then j else i)) H
def qMin2 : List V → Hp → VK → Prop := fun xs H Q => ∃ i j, xs = [.int i, .int j] ∧ Q (.int (if j < i then j else i)) H
section
variable {X : Cx} {K : PySem.W.Frag} {H : Hp} {Q : VK} {x : V}
theorem op_isNq : OpR X (compareOp .Is) qIsN := op_isN
theorem op_notNq : OpR X (compareOp .IsNot) qNotN := op_notN
theorem call_int1q : CallR X (.type "int") qInt1 := call_int1
theorem call_bool1q : CallR X (.type "bool") qBool1 := call_bool1
theorem call_lenq : CallR X (.builtin "len") (qLen X.K) := call_len_seq
theorem call_lenSq : CallR X (.builtin "len") qLenS := call_len_str
theorem call_listq : CallR X (.type "list") (qListOf X.K) := call_list_of
theorem call_max2q (hc : X.calm = true) : CallR X (.builtin "max") qMax2 := call_max2 hc
theorem call_min2q (hc : X.calm = true) : CallR X (.builtin "min") qMin2 := call_min2 hc
theorem rd_isNn (q : Q (.bl true) H) : qIsN .non .non H Q := ⟨rfl, q⟩
theorem rd_isNi {i : Int} (q : Q (.bl false) H) : qIsN (.int i) .non H Q := ⟨rfl, q⟩
theorem rd_isNb {i : Bool} (q : Q (.bl false) H) : qIsN (.bl i) .non H Q := ⟨rfl, q⟩
theorem rd_isNs {i : Str} (q : Q (.bl false) H) : qIsN (.str i) .non H Q := ⟨rfl, q⟩
theorem rd_isNr {i : Addr} (q : Q (.bl false) H) : qIsN (.ref i) .non H Q := ⟨rfl, q⟩
theorem rd_notNn (q : Q (.bl false) H) : qNotN .non .non H Q := ⟨rfl, q⟩
theorem rd_notNi {i : Int} (q : Q (.bl true) H) : qNotN (.int i) .non H Q := ⟨rfl, q⟩
theorem rd_notNb {i : Bool} (q : Q (.bl true) H) : qNotN (.bl i) .non H Q := ⟨rfl, q⟩
theorem rd_notNs {i : Str} (q : Q (.bl true) H) : qNotN (.str i) .non H Q := ⟨rfl, q⟩
theorem rd_notNr {i : Addr} (q : Q (.bl true) H) : qNotN (.ref i) .non H Q := ⟨rfl, q⟩
theorem rd_int1 {i : Int} (q : Q (.int i) H) : qInt1 [.int i] H Q := .inl ⟨i, rfl, q⟩
theorem rd_int1b {k : Bool} (q : Q (.int (if k then 1 else 0)) H) : qInt1 [.bl k] H Q := .inr ⟨k, rfl, q⟩
theorem rd_lenL {p : Addr} {xs : List V} (h : SqL K H p xs) (q : Q (.int xs.length) H) : qLen K [.ref p] H Q := ⟨p, xs, rfl, .inl h, q⟩
theorem rd_lenT {p : Addr} {xs : List V} (h : SqT K H p xs) (q : Q (.int xs.length) H) : qLen K [.ref p] H Q := ⟨p, xs, rfl, .inr h, q⟩
theorem rd_listL {p : Addr} {xs : List V} (h : SqL K H p xs) (q : ∀ l, H l = none → Q (.ref l) (upd H l (.lst xs))) : qListOf K [.ref p] H Q := ⟨p, xs, rfl, .inl h, q⟩
end
section
variable {K : PySem.W.Frag} {H : Hp} {Q : VK}
theorem rd_xor {a b : Nat} (q : Q (.int ((a ^^^ b : Nat) : Int)) H) : rI0 (fun i j => .int (Builtin.bitXor i j)) (.int (a : Int)) (.int (b : Int)) H Q :=
  rd_i0 (by rw [Bits.bitXor_pp (x := (a : Int)) (y := (b : Int)) (by omega) (by omega)]; exact q)
theorem iteNF {A B : Prop} (h : A) : if (!false) = true then A else B := by
  rw [if_pos (show (!false) = true from rfl)]
  exact h
theorem iteNT {A B : Prop} (h : B) : if (!true) = true then A else B := by
  rw [if_neg (by decide)]
  exact h
theorem iteNS' {c A B : Prop} [Decidable c] (hc : ¬ c) (h : A) : if (!decide c) = true then A else B := by
  rw [decide_eq_false hc]
  exact iteNF h
theorem iteD {c A B : Prop} [Decidable c] (hc : c) (h : A) : if decide c = true then A else B := by
  rw [decide_eq_true hc]
  exact iteT h
theorem iteDn {c A B : Prop} [Decidable c] (hc : ¬ c) (h : B) : if decide c = true then A else B := by
  rw [decide_eq_false hc]
  exact iteF h
theorem atI_int {ns : List Int} {i : Int} (h0 : 0 ≤ i) (h1 : i < ns.length) : ∃ z : Int, atI (ns.map V.int) i = some (.int z) ∧ ns[i.toNat]? = some z := by
  have hk : i.toNat < ns.length := by omega
  have e : ((i.toNat : Nat) : Int) = i := by omega
  refine ⟨ns[i.toNat], ?_, List.getElem?_eq_getElem hk⟩
  have q : atI (ns.map V.int) ((i.toNat : Nat) : Int) = some (.int ns[i.toNat]) := atI_nat (by rw [List.getElem?_map, List.getElem?_eq_getElem hk] <;> rfl)
  rw [e] at q
  exact q
theorem same_new {H : Hp} {p : Addr} (h : H p = none) (o : HO) : Same H (upd H p o) := fun b u q => by rw [upd_ne (ne_of_none q h)]; exact q
end
/-- a statement, then the rest, with a word between them: what follows is shown once -/
def qJoin (t u : TS) : TS := fun D σ H => ∃ Mid : L2.St → Hp → Prop, t { D with nx := Mid } σ H ∧ ∀ σ' H', Mid σ' H' → u D σ' H'
theorem pss_join {X : Cx} {st : Stmt} {rest : List Stmt} {t u : TS} (h1 : PS X st t) (h2 : PSs X rest u) : PSs X (st :: rest) (qJoin t u) := by
  refine ⟨fun pins s σ H D I h => ?_⟩
  obtain ⟨Mid, h, k⟩ := h
  refine wpAny_execs_cons (thn (h1.run pins s σ H { D with nx := Mid } I h) fun f s1 q => ?_)
  cases f with
  | next =>
    obtain ⟨σ', H', I', q⟩ := q
    exact h2.run pins s1 σ' H' D I' (k σ' H' q)
  | ret v => exact q
  | brk => exact q
  | cont => exact q
theorem cx_K {CX : CXT} {P : Program} {w : World} {K : PySem.W.Frag} {mg : Str → Option Value} {base : Heap} {N : List Str} {qual : Str} {sc : Scope} {f : Addr} {cd : Value} {A : Around} {outer : List Env} {s : Shared} {H : Hp} {E : XK} : (cxOf CX P w K mg base N qual sc f cd A outer s H E).nox.K = K := rfl
theorem cx_K2 {CX : CXT} {P : Program} {w : World} {K : PySem.W.Frag} {mg : Str → Option Value} {base : Heap} {N : List Str} {qual : Str} {sc : Scope} {f : Addr} {cd : Value} {A : Around} {outer : List Env} {s : Shared} {H : Hp} {E : XK} : (cxOf CX P w K mg base N qual sc f cd A outer s H E).K = K := rfl
theorem cx_w {CX : CXT} {P : Program} {w : World} {K : PySem.W.Frag} {mg : Str → Option Value} {base : Heap} {N : List Str} {qual : Str} {sc : Scope} {f : Addr} {cd : Value} {A : Around} {outer : List Env} {s : Shared} {H : Hp} {E : XK} : (cxOf CX P w K mg base N qual sc f cd A outer s H E).nox.w = w := rfl
/-! ### data: what a value stands for, off the objects M that change -/
/-- all that is not in M stays; nothing goes -/
structure Ext (M : List Addr) (H H' : Hp) : Prop where
  keep : ∀ b o, b ∉ M → H b = some o → H' b = some o
  there : ∀ b, H b ≠ none → H' b ≠ none
/-- the objects M stand -/
def Al (M : List Addr) (H : Hp) : Prop := ∀ b ∈ M, H b ≠ none
mutual
inductive Is (M : List Addr) (H : Hp) : V → PyData → Prop
  | non : Is M H .non .none
  | bl (b : Bool) : Is M H (.bl b) (.bool b)
  | int (i : Int) : Is M H (.int i) (.int i)
  | str (x : Str) : Is M H (.str x) (.str x)
  | lst {a : Addr} {xs : List V} {ds : List PyData} : a ∉ M → H a = some (.lst xs) → IsAll M H xs ds → Is M H (.ref a) (.list ds)
  | tup {a : Addr} {xs : List V} {ds : List PyData} : a ∉ M → H a = some (.tup xs) → IsAll M H xs ds → Is M H (.ref a) (.tuple ds)
inductive IsAll (M : List Addr) (H : Hp) : List V → List PyData → Prop
  | nil : IsAll M H [] []
  | cons {v : V} {vs : List V} {d : PyData} {ds : List PyData} : Is M H v d → IsAll M H vs ds → IsAll M H (v :: vs) (d :: ds)
end
section
variable {M M' : List Addr} {H H' H'' : Hp} {v x : V} {vs xs : List V} {d : PyData} {ds : List PyData} {a p : Addr} {o : HO} {K : PySem.W.Frag}
theorem Ext.refl : Ext M H H := ⟨fun _ _ _ h => h, fun _ h => h⟩
theorem Ext.trans (e : Ext M H H') (f : Ext M H' H'') : Ext M H H'' := ⟨fun b o hb h => f.keep b o hb (e.keep b o hb h), fun b h => f.there b (e.there b h)⟩
theorem Ext.more (e : Ext M H H') (h : ∀ b ∈ M, b ∈ M') : Ext M' H H' := ⟨fun b o hb k => e.keep b o (fun q => hb (h b q)) k, e.there⟩
theorem Ext.any (e : Ext [] H H') : Ext M H H' := e.more fun b h => nomatch h
theorem there_upd : ∀ b, H b ≠ none → (upd H p o) b ≠ none := fun b h => by
  unfold upd
  split
  · exact fun z => nomatch z
  · exact h
theorem Ext.new (h : H p = none) : Ext M H (upd H p o) := ⟨fun b u _ k => by rw [upd_ne (ne_of_none k h)]; exact k, there_upd⟩
theorem Ext.set (h : p ∈ M) : Ext M H (upd H p o) := ⟨fun b u hb k => by rw [upd_ne (fun e => hb (by rw [e]; exact h))]; exact k, there_upd⟩
/-- a change of what was not there at first -/
theorem Ext.mut (e : Ext M H H') (h : H p = none) : Ext M H (upd H' p o) := ⟨fun b u hb k => by rw [upd_ne (ne_of_none k h)]; exact e.keep b u hb k, fun b k => there_upd b (e.there b k)⟩
theorem Ext.same (e : Ext [] H H') : Same H H' := fun b o h => e.keep b o (fun q => nomatch q) h
theorem Ext.free (e : Ext M H H') (h : H' p = none) : H p = none := by
  cases q : H p with
  | none => rfl
  | some o => exact absurd h (e.there p (by rw [q]; exact fun z => nomatch z))
theorem Ext.drop (e : Ext (p :: M) H H') (h : H p = none) : Ext M H H' := ⟨fun b o hb k => e.keep b o (fun q => by
  rcases List.mem_cons.mp q with rfl | q
  · rw [h] at k; cases k
  · exact hb q) k, e.there⟩
theorem Al.ext (s : Al M H) (e : Ext M' H H') : Al M H' := fun b hb => e.there b (s b hb)
theorem Al.nil : Al [] H := fun b h => nomatch h
theorem Al.cons (h : H p ≠ none) (s : Al M H) : Al (p :: M) H := fun b hb => by
  rcases List.mem_cons.mp hb with rfl | hb
  · exact h
  · exact s b hb
theorem Al.fresh (s : Al M H) (h : H p = none) : p ∉ M := fun q => s p q h
theorem some_ne {b : Addr} {o : HO} (h : H b = some o) : H b ≠ none := by rw [h]; exact fun z => nomatch z
theorem upd_there : upd H p o p ≠ none := by rw [upd_same]; exact fun z => nomatch z
mutual
theorem Is.mono (e : Ext M H H') : ∀ {v : V} {d : PyData}, Is M H v d → Is M H' v d
  | _, _, .non => .non
  | _, _, .bl b => .bl b
  | _, _, .int i => .int i
  | _, _, .str x => .str x
  | _, _, .lst n h r => .lst n (e.keep _ _ n h) (IsAll.mono e r)
  | _, _, .tup n h r => .tup n (e.keep _ _ n h) (IsAll.mono e r)
theorem IsAll.mono (e : Ext M H H') : ∀ {vs : List V} {ds : List PyData}, IsAll M H vs ds → IsAll M H' vs ds
  | _, _, .nil => .nil
  | _, _, .cons h r => .cons (Is.mono e h) (IsAll.mono e r)
end
mutual
/-- other objects are looked away from -/
theorem Is.swap (h : ∀ b ∈ M', b ∈ M ∨ H b = none) : ∀ {v : V} {d : PyData}, Is M H v d → Is M' H v d
  | _, _, .non => .non
  | _, _, .bl b => .bl b
  | _, _, .int i => .int i
  | _, _, .str x => .str x
  | _, _, .lst n k r => .lst (fun q => by
      rcases h _ q with z | z
      · exact n z
      · rw [z] at k; cases k) k (IsAll.swap h r)
  | _, _, .tup n k r => .tup (fun q => by
      rcases h _ q with z | z
      · exact n z
      · rw [z] at k; cases k) k (IsAll.swap h r)
theorem IsAll.swap (h : ∀ b ∈ M', b ∈ M ∨ H b = none) : ∀ {vs : List V} {ds : List PyData}, IsAll M H vs ds → IsAll M' H vs ds
  | _, _, .nil => .nil
  | _, _, .cons k r => .cons (Is.swap h k) (IsAll.swap h r)
end
theorem Is.off (i : Is M H v d) (h : H p = none) : Is (p :: M) H v d := i.swap fun b hb => by
  rcases List.mem_cons.mp hb with rfl | hb
  · exact .inr h
  · exact .inl hb
theorem IsAll.off (i : IsAll M H vs ds) (h : H p = none) : IsAll (p :: M) H vs ds := i.swap fun b hb => by
  rcases List.mem_cons.mp hb with rfl | hb
  · exact .inr h
  · exact .inl hb
theorem Is.on (i : Is (p :: M) H v d) : Is M H v d := i.swap fun b hb => .inl (List.mem_cons_of_mem _ hb)
theorem IsAll.on (i : IsAll (p :: M) H vs ds) : IsAll M H vs ds := i.swap fun b hb => .inl (List.mem_cons_of_mem _ hb)
theorem Is.all (i : Is M H v d) : Is [] H v d := i.swap fun b hb => absurd hb (by simp)
/-- a new object beside -/
theorem Is.beside (i : Is M H v d) (h : H p = none) : Is (p :: M) (upd H p o) v d := (i.off h).mono (.set (List.mem_cons_self ..))
theorem IsAll.beside (i : IsAll M H vs ds) (h : H p = none) : IsAll (p :: M) (upd H p o) vs ds := (i.off h).mono (.set (List.mem_cons_self ..))
mutual
theorem Is.dp : ∀ {v : V} {d : PyData}, Is M H v d → Dp K H v d
  | _, _, .non => .non
  | _, _, .bl b => .bl b
  | _, _, .int i => .int i
  | _, _, .str x => .str x
  | _, _, .lst _ h r => .lst (SqL.of h) (IsAll.dp r)
  | _, _, .tup _ h r => .tup (SqT.of h) (IsAll.dp r)
theorem IsAll.dp : ∀ {vs : List V} {ds : List PyData}, IsAll M H vs ds → DpAll K H vs ds
  | _, _, .nil => .nil
  | _, _, .cons h r => .cons (Is.dp h) (IsAll.dp r)
end
theorem IsAll.length : ∀ {vs : List V} {ds : List PyData}, IsAll M H vs ds → vs.length = ds.length
  | _, _, .nil => rfl
  | _, _, .cons _ r => congrArg Nat.succ r.length
theorem IsAll.get : ∀ {vs : List V} {ds : List PyData} {i : Nat}, IsAll M H vs ds → ds[i]? = some d → ∃ v, vs[i]? = some v ∧ Is M H v d
  | _, _, _, .nil, e => by simp at e
  | _, _, 0, .cons h _, e => by simp at e; subst e; exact ⟨_, rfl, h⟩
  | _, _, i + 1, .cons _ r, e => by
    obtain ⟨u, h1, h2⟩ := IsAll.get (i := i) r (by simpa using e)
    exact ⟨u, by simpa using h1, h2⟩
theorem IsAll.got : ∀ {vs : List V} {ds : List PyData} {i : Nat}, IsAll M H vs ds → vs[i]? = some v → ∃ d, ds[i]? = some d ∧ Is M H v d
  | _, _, _, .nil, e => by simp at e
  | _, _, 0, .cons h _, e => by simp at e; subst e; exact ⟨_, rfl, h⟩
  | _, _, i + 1, .cons _ r, e => by
    obtain ⟨u, h1, h2⟩ := IsAll.got (i := i) r (by simpa using e)
    exact ⟨u, by simpa using h1, h2⟩
theorem IsAll.append : ∀ {vs ws : List V} {ds es : List PyData}, IsAll M H vs ds → IsAll M H ws es → IsAll M H (vs ++ ws) (ds ++ es)
  | _, _, _, _, .nil, s => s
  | _, _, _, _, .cons r t, s => .cons r (IsAll.append t s)
theorem IsAll.one (h : Is M H v d) : IsAll M H [v] [d] := .cons h .nil
theorem IsAll.take : ∀ {vs : List V} {ds : List PyData} (n : Nat), IsAll M H vs ds → IsAll M H (vs.take n) (ds.take n)
  | _, _, 0, _ => by simp only [List.take_zero]; exact .nil
  | _, _, _ + 1, .nil => .nil
  | _, _, n + 1, .cons r t => .cons r (IsAll.take n t)
theorem IsAll.drop : ∀ {vs : List V} {ds : List PyData} (n : Nat), IsAll M H vs ds → IsAll M H (vs.drop n) (ds.drop n)
  | _, _, 0, r => r
  | _, _, _ + 1, .nil => .nil
  | _, _, n + 1, .cons _ t => IsAll.drop n t
theorem IsAll.rev : ∀ {vs : List V} {ds : List PyData}, IsAll M H vs ds → IsAll M H vs.reverse ds.reverse
  | _, _, .nil => .nil
  | _, _, .cons r t => by
    rw [List.reverse_cons, List.reverse_cons]
    exact (IsAll.rev t).append (.one r)
theorem IsAll.set : ∀ {vs : List V} {ds : List PyData} (i : Nat), IsAll M H vs ds → Is M H v d → IsAll M H (vs.set i v) (ds.set i d)
  | _, _, _, .nil, _ => .nil
  | _, _, 0, .cons _ t, h => .cons h t
  | _, _, i + 1, .cons r t, h => .cons r (IsAll.set i t h)
theorem IsAll.ints : ∀ ns : List Int, IsAll M H (ns.map V.int) (ns.map PyData.int)
  | [] => .nil
  | n :: ns => .cons (.int n) (IsAll.ints ns)
theorem IsAll.ofInts : ∀ {vs : List V} {ns : List Int}, IsAll M H vs (ns.map PyData.int) → vs = ns.map V.int
  | _, [], h => by cases h; rfl
  | _, n :: ns, h => by
    cases h with
    | cons h r => cases h; rw [IsAll.ofInts r]; rfl
/-! readings -/
theorem Is.list (i : Is M H (.ref a) (.list ds)) : ∃ xs, a ∉ M ∧ H a = some (.lst xs) ∧ IsAll M H xs ds := by
  cases i with
  | lst n h r => exact ⟨_, n, h, r⟩
theorem Is.tuple (i : Is M H (.ref a) (.tuple ds)) : ∃ xs, a ∉ M ∧ H a = some (.tup xs) ∧ IsAll M H xs ds := by
  cases i with
  | tup n h r => exact ⟨_, n, h, r⟩
theorem Is.listV (i : Is M H v (.list ds)) : ∃ a xs, v = .ref a ∧ a ∉ M ∧ H a = some (.lst xs) ∧ IsAll M H xs ds := by
  cases i with
  | lst n h r => exact ⟨_, _, rfl, n, h, r⟩
theorem Is.tupleV (i : Is M H v (.tuple ds)) : ∃ a xs, v = .ref a ∧ a ∉ M ∧ H a = some (.tup xs) ∧ IsAll M H xs ds := by
  cases i with
  | tup n h r => exact ⟨_, _, rfl, n, h, r⟩
variable {Q : VK} {e : PyData}
theorem rd_dix {i : Int} {j : Nat} (h : Is M H (.ref a) (.list ds)) (hj : i = (j : Int)) (hd : ds[j]? = some d) (q : ∀ v, Is M H v d → Q v H) : rIxL K (.ref a) (.int i) H Q := by
  obtain ⟨xs, _, hx, r⟩ := h.list
  obtain ⟨v, hv, iv⟩ := r.get hd
  exact ⟨a, xs, i, v, rfl, rfl, SqL.of hx, by rw [hj]; exact atI_nat hv, q v iv⟩
theorem rd_dixT {i : Int} {j : Nat} (h : Is M H (.ref a) (.tuple ds)) (hj : i = (j : Int)) (hd : ds[j]? = some d) (q : ∀ v, Is M H v d → Q v H) : rIxT K (.ref a) (.int i) H Q := by
  obtain ⟨xs, _, hx, r⟩ := h.tuple
  obtain ⟨v, hv, iv⟩ := r.get hd
  exact ⟨a, xs, i, v, rfl, rfl, SqT.of hx, by rw [hj]; exact atI_nat hv, q v iv⟩
theorem rd_dlen (h : Is M H (.ref a) (.list ds)) (q : Q (.int ds.length) H) : qLen K [.ref a] H Q := by
  obtain ⟨xs, _, hx, r⟩ := h.list
  exact rd_lenL (SqL.of hx) (by rw [r.length]; exact q)
theorem rd_dlenT (h : Is M H (.ref a) (.tuple ds)) (q : Q (.int ds.length) H) : qLen K [.ref a] H Q := by
  obtain ⟨xs, _, hx, r⟩ := h.tuple
  exact rd_lenT (SqT.of hx) (by rw [r.length]; exact q)
theorem rd_eqD (h : Is M H x d) (k : Is M' H v e) (s1 : SeqAt.shaped d = true) (s2 : SeqAt.shaped e = true) (q : Q (.bl (PyData.eqv d e)) H) : rEqD K x v H Q := ⟨d, e, h.dp, k.dp, s1, s2, q⟩
theorem rd_neD (h : Is M H x d) (k : Is M' H v e) (s1 : SeqAt.shaped d = true) (s2 : SeqAt.shaped e = true) (q : Q (.bl (!PyData.eqv d e)) H) : rNeD K x v H Q := ⟨d, e, h.dp, k.dp, s1, s2, q⟩
/-- a new list, a new tuple -/
theorem new_lst (s : Al M H) (h : IsAll M H xs ds) (hp : H p = none) : Is M (upd H p (.lst xs)) (.ref p) (.list ds) := .lst (s.fresh hp) upd_same (h.mono (.new hp))
theorem new_tup (s : Al M H) (h : IsAll M H xs ds) (hp : H p = none) : Is M (upd H p (.tup xs)) (.ref p) (.tuple ds) := .tup (s.fresh hp) upd_same (h.mono (.new hp))
theorem szl {n : Nat} (h : n ≤ 1000) : n ≤ sizeLine := Nat.le_of_lt (small1000 h)
theorem szL {n : Nat} (h : n ≤ 100000) : n ≤ sizeLine := Nat.le_trans h (by decide)
theorem szl' {n : Nat} (h : n ≤ 100000) : n < sizeLine := Nat.lt_of_le_of_lt h (by decide)
theorem rd_dtup {K : PySem.W.Frag} {σ : L2.St} {ts : TA} (q : ts σ H fun xs H1 => xs.length ≤ sizeLine ∧ ∀ p, H1 p = none → Q (.ref p) (upd H1 p (.tup xs))) : tTup ts σ H Q := q
/-- slices by places that are not negative -/
theorem cut_nn (xs : List V) (lo hi : Nat) : cutV xs (some (lo : Int)) (some (hi : Int)) = (xs.take hi).drop lo := by
  unfold cutV
  rw [HT.sIx_nat, HT.sIx_nat, List.drop_take]
  apply List.ext_getElem?
  intro i
  simp only [List.getElem?_take, List.getElem?_drop]
  by_cases h1 : lo ≤ xs.length
  · rw [Nat.min_eq_left h1]
    by_cases h2 : hi ≤ xs.length
    · rw [Nat.min_eq_left h2]
    · rw [Nat.min_eq_right (by omega)]
      by_cases h3 : i < hi - lo
      · rw [if_pos h3]
        by_cases h4 : i < xs.length - lo
        · rw [if_pos h4]
        · rw [if_neg h4, List.getElem?_eq_none (by omega)]
      · rw [if_neg h3, if_neg (by omega)]
  · rw [Nat.min_eq_right (by omega : xs.length ≤ lo), if_neg (by omega)]
    split
    · rw [List.getElem?_eq_none (by omega)]
    · rfl
theorem cut_0n (xs : List V) (hi : Nat) : cutV xs none (some (hi : Int)) = xs.take hi := by
  have e := cut_nn xs 0 hi
  rw [List.drop_zero] at e
  rw [← e]
  unfold cutV
  rw [HT.sIx_nat, HT.sIx_nat, HT.sIx_none, Nat.zero_min]
theorem cut_n0 (xs : List V) (lo : Nat) : cutV xs (some (lo : Int)) none = xs.drop lo := by
  have e := cut_nn xs lo xs.length
  rw [List.take_length] at e
  rw [← e]
  unfold cutV
  rw [HT.sIx_nat, HT.sIx_nat, HT.sIx_none, Nat.min_self]
theorem cut_00 (xs : List V) : cutV xs none none = xs := by
  unfold cutV
  rw [HT.sIx_none, HT.sIx_none, List.drop_zero, Nat.sub_zero, List.take_length]
theorem IsAll.cut {lo hi : Nat} (h : IsAll M H xs ds) : IsAll M H (cutV xs (some (lo : Int)) (some (hi : Int))) ((ds.take hi).drop lo) := by
  rw [cut_nn]
  exact (h.take hi).drop lo
theorem IsAll.cut0 {hi : Nat} (h : IsAll M H xs ds) : IsAll M H (cutV xs none (some (hi : Int))) (ds.take hi) := by
  rw [cut_0n]
  exact h.take hi
theorem IsAll.cutN {lo : Nat} (h : IsAll M H xs ds) : IsAll M H (cutV xs (some (lo : Int)) none) (ds.drop lo) := by
  rw [cut_n0]
  exact h.drop lo
end
section
variable {M : List Addr} {H0 H H1 : Hp} {a D : Addr} {ds : List PyData} {K : PySem.W.Frag} {j : Nat} {vs : List Nat} {te : TE} {tt : TT} {σ : L2.St} {Qd : Hp → Prop} {g : TG} {tb : TS} {E : Ends}
/-- a walk over data, the list stands still -/
theorem for_data (h : Is M H0 (.ref a) (.list ds)) (Pv : Nat → L2.St → Hp → Prop) (h0 : Pv 0 σ H) (hE : ∀ i σ H, Pv i σ H → Ext M H0 H)
    (hs : ∀ i d x σ H, ds[i]? = some d → Is M H x d → Pv i σ H → g x σ H fun σ2 H2 => tb { E with nx := Pv (i + 1), ct := Pv (i + 1), bk := E.nx } σ2 H2) (hd : ∀ σ H, Pv ds.length σ H → E.nx σ H) :
    ∃ W : Nat → Nat → L2.St → Hp → Prop, (∃ m, W 0 m σ H) ∧ ∀ i m σ H, W i m σ H →
      ((Itl K a).stop i H ∧ E.nx σ H) ∨ ((Itl K a).go i H ∧ ∃ N : L2.St → Hp → Prop, (∀ σ' H', N σ' H' → ∃ m', m' < m ∧ W (i + 1) m' σ' H') ∧ ∀ x H', (Itl K a).yld i H x H' → g x σ H' fun σ2 H2 => tb { E with nx := N, ct := N, bk := E.nx } σ2 H2) := by
  obtain ⟨xs, na, hx, r⟩ := h.list
  refine for_list (xs := xs) Pv h0 (fun i σ H _ p => SqL.of ((hE i σ H p).keep _ _ na hx)) (fun i x σ H hi p => ?_) (fun σ H p => hd σ H (by rw [← r.length]; exact p))
  obtain ⟨d, hd', iv⟩ := r.got hi
  exact hs i d x σ H hd' (iv.mono (hE i σ H p)) p
theorem for_dataT (h : Is M H0 (.ref a) (.tuple ds)) (Pv : Nat → L2.St → Hp → Prop) (h0 : Pv 0 σ H) (hE : ∀ i σ H, Pv i σ H → Ext M H0 H)
    (hs : ∀ i d x σ H, ds[i]? = some d → Is M H x d → Pv i σ H → g x σ H fun σ2 H2 => tb { E with nx := Pv (i + 1), ct := Pv (i + 1), bk := E.nx } σ2 H2) (hd : ∀ σ H, Pv ds.length σ H → E.nx σ H) :
    ∃ W : Nat → Nat → L2.St → Hp → Prop, (∃ m, W 0 m σ H) ∧ ∀ i m σ H, W i m σ H →
      ((Itt K a).stop i H ∧ E.nx σ H) ∨ ((Itt K a).go i H ∧ ∃ N : L2.St → Hp → Prop, (∀ σ' H', N σ' H' → ∃ m', m' < m ∧ W (i + 1) m' σ' H') ∧ ∀ x H', (Itt K a).yld i H x H' → g x σ H' fun σ2 H2 => tb { E with nx := N, ct := N, bk := E.nx } σ2 H2) := by
  obtain ⟨xs, na, hx, r⟩ := h.tuple
  refine for_tup (xs := xs) Pv h0 (fun i σ H _ p => SqT.of ((hE i σ H p).keep _ _ na hx)) (fun i x σ H hi p => ?_) (fun σ H p => hd σ H (by rw [← r.length]; exact p))
  obtain ⟨d, hd', iv⟩ := r.got hi
  exact hs i d x σ H hd' (iv.mono (hE i σ H p)) p
/-- what a comprehension has made so far -/
structure Made (M : List Addr) (H0 : Hp) (D : Addr) (es : List PyData) (H : Hp) : Prop where
  free : H0 D = none
  ext : Ext [] H0 H
  off : D ∉ M
  ls : ∃ ys, H D = some (.lst ys) ∧ IsAll (D :: M) H ys es
theorem Made.start (s : Al M H0) (hD : H0 D = none) : Made M H0 D [] (upd H0 D (.lst [])) := ⟨hD, .new hD, s.fresh hD, [], upd_same, .nil⟩
theorem Made.al {es : List PyData} (m : Made M H0 D es H) (s : Al M H0) : Al (D :: M) H := by
  obtain ⟨ys, h1, h2⟩ := m.ls
  exact .cons (some_ne h1) (s.ext m.ext)
theorem Made.is {es : List PyData} (m : Made M H0 D es H) : Is M H (.ref D) (.list es) := by
  obtain ⟨ys, h1, h2⟩ := m.ls
  exact .lst m.off h1 h2.on
theorem Made.step {es : List PyData} {d : PyData} {y : V} {H' : Hp} (m : Made M H0 D es H) (e : Ext [] H H') (h : Is (D :: M) H' y d) (hl : es.length < 100000) :
    ∃ acc, H' D = some (.lst acc) ∧ acc.length < sizeLine ∧ Made M H0 D (es ++ [d]) (upd H' D (.lst (acc ++ [y]))) := by
  obtain ⟨ys, h1, h2⟩ := m.ls
  refine ⟨ys, e.keep _ _ (fun q => nomatch q) h1, szl' (by rw [h2.length]; omega), m.free, (m.ext.trans e).mut m.free, m.off, _, upd_same, ?_⟩
  exact ((h2.mono e.any).append (.one h)).mono (.set (List.mem_cons_self ..))
theorem Made.ext' {es : List PyData} {H' : Hp} (m : Made M H0 D es H) (e : Ext [] H H') : Made M H0 D es H' := by
  obtain ⟨ys, h1, h2⟩ := m.ls
  exact ⟨m.free, m.ext.trans e, m.off, ys, e.keep _ _ (fun q => nomatch q) h1, h2.mono e.any⟩
theorem rd_yes {H : Hp} {Q : Bool → Hp → Prop} (q : Q true H) : tYes σ H Q := q
/-- [e for x in range(..)] -/
theorem lc_rng {lo : Int} {n : Nat} (f : Nat → PyData) (s : Al M H0) (hD : H0 D = none) (hn : n ≤ 100000) (hw : ∀ x, wipe ((wipe σ vs).set j (some x)) vs = wipe σ vs)
    (he : ∀ (i : Nat) H', i < n → Al (D :: M) H' → Ext [] H0 H' → ∀ R : VK, (∀ y H'', Ext [] H' H'' → Is (D :: M) H'' y (f i) → R y H'') → te ((wipe σ vs).set j (some (.int (lo + i)))) H' R)
    (hd : ∀ H', Ext [] H0 H' → Is M H' (.ref D) (.list ((List.range n).map f)) → Qd H') :
    ∃ W : Nat → Nat → Hp → Prop, (∃ m, W 0 m (upd H0 D (.lst []))) ∧ ∀ i m H, W i m H →
      ((Itr lo n).stop i H ∧ Qd H) ∨ ((Itr lo n).go i H ∧ ∃ Nx : Hp → Prop, (∀ H', Nx H' → ∃ m', m' < m ∧ W (i + 1) m' H') ∧ ∀ x H', (Itr lo n).yld i H x H' → gName j x (wipe σ vs) H' fun σ2 H2 => wipe σ2 vs = wipe σ vs ∧ tYes σ2 H2 fun b H3 =>
        if b = true then te σ2 H3 fun y H4 => ∃ acc, H4 D = some (.lst acc) ∧ acc.length < sizeLine ∧ Nx (upd H4 D (.lst (acc ++ [y]))) else Nx H3) := by
  refine lc_range (fun i H' => Made M H0 D ((List.range i).map f) H') (Made.start s hD) (fun i H' hi m => ?_) fun H' m => hd H' m.ext m.is
  refine ⟨hw _, rd_yes ?_⟩
  refine iteT ?_
  refine he i H' hi (m.al s) m.ext _ fun y H'' e r => ?_
  rw [List.range_succ, List.map_append]
  exact m.step e r (by rw [List.length_map, List.length_range]; omega)
/-- [e for x in a list] -/
theorem lc_map (f : PyData → PyData) (s : Al M H0) (hD : H0 D = none) (h : Is M H0 (.ref a) (.list ds)) (hn : ds.length ≤ 100000) (hw : ∀ x, wipe ((wipe σ vs).set j (some x)) vs = wipe σ vs)
    (he : ∀ (x : V) (d : PyData) H', d ∈ ds → Al (D :: M) H' → Ext [] H0 H' → Is (D :: M) H' x d → ∀ R : VK, (∀ y H'', Ext [] H' H'' → Is (D :: M) H'' y (f d) → R y H'') → te ((wipe σ vs).set j (some x)) H' R)
    (hd : ∀ H', Ext [] H0 H' → Is M H' (.ref D) (.list (ds.map f)) → Qd H') :
    ∃ W : Nat → Nat → Hp → Prop, (∃ m, W 0 m (upd H0 D (.lst []))) ∧ ∀ i m H, W i m H →
      ((Itl K a).stop i H ∧ Qd H) ∨ ((Itl K a).go i H ∧ ∃ Nx : Hp → Prop, (∀ H', Nx H' → ∃ m', m' < m ∧ W (i + 1) m' H') ∧ ∀ x H', (Itl K a).yld i H x H' → gName j x (wipe σ vs) H' fun σ2 H2 => wipe σ2 vs = wipe σ vs ∧ tYes σ2 H2 fun b H3 =>
        if b = true then te σ2 H3 fun y H4 => ∃ acc, H4 D = some (.lst acc) ∧ acc.length < sizeLine ∧ Nx (upd H4 D (.lst (acc ++ [y]))) else Nx H3) := by
  obtain ⟨xs, na, hx, r⟩ := h.list
  refine lc_list (xs := xs) (fun i H' => Made M H0 D ((ds.take i).map f) H') (Made.start s hD) (fun i H' _ m => SqL.of (m.ext.keep _ _ (fun q => nomatch q) hx)) (fun i x H' hi m => ?_) fun H' m => hd H' m.ext (by have z := m.is; rw [r.length, List.take_length] at z; exact z)
  obtain ⟨d, hd', iv⟩ := r.got hi
  have hlt : i < ds.length := (List.getElem?_eq_some_iff.mp hd').1
  refine ⟨hw _, rd_yes ?_⟩
  refine iteT ?_
  refine he x d H' (List.mem_of_getElem? hd') (m.al s) m.ext ((iv.off hD).mono m.ext.any) _ fun y H'' e r => ?_
  have et : ds.take (i + 1) = ds.take i ++ [d] := by rw [List.take_add_one, hd']; rfl
  rw [et, List.map_append]
  exact m.step e r (by rw [List.length_map, List.length_take]; omega)
/-- [e for x in a list if test] -/
theorem lc_filter (f : PyData → PyData) (p : PyData → Bool) (s : Al M H0) (hD : H0 D = none) (h : Is M H0 (.ref a) (.list ds)) (hn : ds.length ≤ 100000) (hw : ∀ x, wipe ((wipe σ vs).set j (some x)) vs = wipe σ vs)
    (ht : ∀ (x : V) (d : PyData) H', d ∈ ds → Al (D :: M) H' → Ext [] H0 H' → Is (D :: M) H' x d → ∀ R : Bool → Hp → Prop, (∀ H'', Ext [] H' H'' → R (p d) H'') → tt ((wipe σ vs).set j (some x)) H' R)
    (he : ∀ (x : V) (d : PyData) H', d ∈ ds → p d = true → Al (D :: M) H' → Ext [] H0 H' → Is (D :: M) H' x d → ∀ R : VK, (∀ y H'', Ext [] H' H'' → Is (D :: M) H'' y (f d) → R y H'') → te ((wipe σ vs).set j (some x)) H' R)
    (hd : ∀ H', Ext [] H0 H' → Is M H' (.ref D) (.list ((ds.filter p).map f)) → Qd H') :
    ∃ W : Nat → Nat → Hp → Prop, (∃ m, W 0 m (upd H0 D (.lst []))) ∧ ∀ i m H, W i m H →
      ((Itl K a).stop i H ∧ Qd H) ∨ ((Itl K a).go i H ∧ ∃ Nx : Hp → Prop, (∀ H', Nx H' → ∃ m', m' < m ∧ W (i + 1) m' H') ∧ ∀ x H', (Itl K a).yld i H x H' → gName j x (wipe σ vs) H' fun σ2 H2 => wipe σ2 vs = wipe σ vs ∧ tt σ2 H2 fun b H3 =>
        if b = true then te σ2 H3 fun y H4 => ∃ acc, H4 D = some (.lst acc) ∧ acc.length < sizeLine ∧ Nx (upd H4 D (.lst (acc ++ [y]))) else Nx H3) := by
  obtain ⟨xs, na, hx, r⟩ := h.list
  refine lc_list (xs := xs) (fun i H' => Made M H0 D (((ds.take i).filter p).map f) H') (Made.start s hD) (fun i H' _ m => SqL.of (m.ext.keep _ _ (fun q => nomatch q) hx)) (fun i x H' hi m => ?_) fun H' m => hd H' m.ext (by have z := m.is; rw [r.length, List.take_length] at z; exact z)
  obtain ⟨d, hd', iv⟩ := r.got hi
  have hlt : i < ds.length := (List.getElem?_eq_some_iff.mp hd').1
  have et : ds.take (i + 1) = ds.take i ++ [d] := by rw [List.take_add_one, hd']; rfl
  refine ⟨hw _, ?_⟩
  refine ht x d H' (List.mem_of_getElem? hd') (m.al s) m.ext ((iv.off hD).mono m.ext.any) _ fun H2 e2 => ?_
  rw [et, List.filter_append, List.map_append]
  cases hp : p d with
  | true =>
    refine iteT (he x d H2 (List.mem_of_getElem? hd') hp ((m.al s).ext e2) (m.ext.trans e2) ((iv.off hD).mono (m.ext.trans e2).any) _ fun y H'' e r => ?_)
    rw [List.filter_cons, if_pos hp]
    refine m.step (e2.trans e) r ?_
    rw [List.length_map]
    have z := List.length_filter_le p (ds.take i)
    rw [List.length_take] at z
    omega
  | false =>
    refine iteF ?_
    rw [List.filter_cons, if_neg (by rw [hp]; exact Bool.false_ne_true)]
    show Made M H0 D (_ ++ []) H2
    rw [List.append_nil]
    exact m.ext' e2
end
section
variable {K : PySem.W.Frag} {σ : L2.St} {H : Hp} {Q : VK} {te : TE} {l : Addr} {xs : List V}
/-- l.append(e) -/
theorem rd_app (h : H l = some (.lst xs)) (q : te σ H fun y H2 => ∃ ys, H2 l = some (.lst ys) ∧ ys.length < sizeLine ∧ Q .non (upd H2 l (.lst (ys ++ [y])))) :
    tyV K "list" (.ref l) H ∧ tCons te tNil σ H fun vs H2 => rAppend (.ref l) vs H2 Q := by
  refine ⟨.inl ⟨rfl, _, SqL.of h⟩, ?_⟩
  refine rd_cons ?_
  have : (fun y H2 => ∃ ys, H2 l = some (.lst ys) ∧ ys.length < sizeLine ∧ Q .non (upd H2 l (.lst (ys ++ [y])))) = fun y H2 => tNil σ H2 fun vs H3 => rAppend (.ref l) (y :: vs) H3 Q := by
    funext y H2
    refine propext ⟨?_, ?_⟩
    · rintro ⟨ys, a, b, c⟩
      exact ⟨l, ys, y, rfl, rfl, a, b, c⟩
    · rintro ⟨l', ys, y', e1, e2, a, b, c⟩
      cases e1; cases e2
      exact ⟨ys, a, b, c⟩
  rw [← this]
  exact q
end
/-! shapes -/
theorem clAll_mem : ∀ {ds : List PyData}, (∀ d ∈ ds, PyData.canLay0 d = true) → PyData.canLayAll0 ds = true
  | [], _ => by simp [PyData.canLayAll0]
  | d :: ds, h => by
    simp only [PyData.canLayAll0, Bool.and_eq_true]
    exact ⟨h d (List.mem_cons_self ..), clAll_mem fun e he => h e (List.mem_cons_of_mem _ he)⟩
theorem depthAll_mem {n : Nat} : ∀ {ds : List PyData}, (∀ d ∈ ds, PyData.depth d ≤ n) → PyData.depthAll ds ≤ n
  | [], _ => by simp [PyData.depthAll]
  | d :: ds, h => by
    simp only [PyData.depthAll]
    exact Nat.max_le.mpr ⟨h d (List.mem_cons_self ..), depthAll_mem fun e he => h e (List.mem_cons_of_mem _ he)⟩
/-- shaped, at most n deep -/
def Sh (n : Nat) (d : PyData) : Prop := PyData.canLay0 d = true ∧ PyData.depth d ≤ n
theorem Sh.ok {n : Nat} {d : PyData} (h : Sh n d) (hn : n ≤ 64 := by decide) : SeqAt.shaped d = true := by
  unfold SeqAt.shaped
  rw [h.1, Bool.true_and]
  exact decide_eq_true (Nat.le_trans h.2 hn)
theorem Sh.int {n : Nat} (i : Int) : Sh n (.int i) := ⟨by simp [PyData.canLay0], by simp [PyData.depth]⟩
theorem Sh.non {n : Nat} : Sh n .none := ⟨by simp [PyData.canLay0], by simp [PyData.depth]⟩
theorem Sh.bl {n : Nat} (b : Bool) : Sh n (.bool b) := ⟨by simp [PyData.canLay0], by simp [PyData.depth]⟩
theorem Sh.list {n : Nat} {ds : List PyData} (h : ∀ d ∈ ds, Sh n d) : Sh (n + 1) (.list ds) :=
  ⟨by simp only [PyData.canLay0]; exact clAll_mem fun d hd => (h d hd).1, by simp only [PyData.depth]; exact Nat.succ_le_succ (depthAll_mem fun d hd => (h d hd).2)⟩
theorem Sh.tuple {n : Nat} {ds : List PyData} (h : ∀ d ∈ ds, Sh n d) : Sh (n + 1) (.tuple ds) :=
  ⟨by simp only [PyData.canLay0]; exact clAll_mem fun d hd => (h d hd).1, by simp only [PyData.depth]; exact Nat.succ_le_succ (depthAll_mem fun d hd => (h d hd).2)⟩
theorem Sh.refl {n : Nat} {d : PyData} (h : Sh n d) : PyData.eqv d d = true := SeqAt.eqv_refl d h.1
/-- lists of numbers -/
abbrev nats (ns : List Nat) : PyData := .list (ns.map fun n : Nat => .int n)
theorem sh_nats {n : Nat} (ns : List Nat) : Sh (n + 1) (nats ns) := Sh.list fun d hd => by
  obtain ⟨k, _, rfl⟩ := List.mem_map.mp hd
  exact .int _
theorem eqvAll_ints : ∀ xs ys : List Nat, PyData.eqvAll (xs.map fun n : Nat => .int n) (ys.map fun n : Nat => .int n) = decide (xs = ys)
  | [], [] => by simp [PyData.eqvAll]
  | [], _ :: _ => by simp [PyData.eqvAll]
  | _ :: _, [] => by simp [PyData.eqvAll]
  | x :: xs, y :: ys => by
    have ih := eqvAll_ints xs ys
    simp only [List.map_cons, PyData.eqvAll, PyData.eqv, ih]
    by_cases h : x = y
    · subst h; simp
    · have : ¬ (x : Int) = (y : Int) := by omega
      simp [h, this]
theorem eqv_nats (xs ys : List Nat) : PyData.eqv (nats xs) (nats ys) = decide (xs = ys) := by
  simp only [PyData.eqv]
  exact eqvAll_ints xs ys
theorem nats_V {M : List Addr} {H : Hp} (ns : List Nat) : IsAll M H (ns.map fun n : Nat => V.int n) (ns.map fun n : Nat => PyData.int n) := by
  induction ns with
  | nil => exact .nil
  | cons n ns ih => exact .cons (.int _) ih
/-! ### loops, comprehensions, slices: the rest of their readings under names -/
def qFor (J : It) (g : TG) (tb : TS) (D : Ends) (σ : L2.St) (H1 : Hp) : Prop := ∃ W : Nat → Nat → L2.St → Hp → Prop, (∃ m, W 0 m σ H1) ∧ ∀ i m σ H, W i m σ H → (J.stop i H ∧ D.nx σ H) ∨
  (J.go i H ∧ ∃ N : L2.St → Hp → Prop, (∀ σ' H', N σ' H' → ∃ m', m' < m ∧ W (i + 1) m' σ' H') ∧ ∀ x H', J.yld i H x H' → g x σ H' fun σ2 H2 => tb { D with nx := N, ct := N, bk := D.nx } σ2 H2)
def qLc (J : It) (g : TG) (tt : TT) (te : TE) (vs : List Nat) (σ : L2.St) (D : Addr) (H1 : Hp) (Q : VK) : Prop := ∃ W : Nat → Nat → Hp → Prop, (∃ m, W 0 m (upd H1 D (.lst []))) ∧ ∀ i m H, W i m H → (J.stop i H ∧ Q (.ref D) H) ∨
  (J.go i H ∧ ∃ Nx : Hp → Prop, (∀ H', Nx H' → ∃ m', m' < m ∧ W (i + 1) m' H') ∧ ∀ x H', J.yld i H x H' → g x (wipe σ vs) H' fun σ2 H2 => wipe σ2 vs = wipe σ vs ∧ tt σ2 H2 fun b H3 => if b = true then te σ2 H3 fun y H4 => ∃ acc, H4 D = some (.lst acc) ∧ acc.length < sizeLine ∧ Nx (upd H4 D (.lst (acc ++ [y]))) else Nx H3)
section
variable {K : PySem.W.Frag} {σ : L2.St} {H : Hp} {Q : VK} {wi : TI} {g : TG} {tb : TS} {D : Ends} {tt : TT} {te : TE} {vs : List Nat} {ta : TA} {R : It → Hp → Prop} {r : V → Option Int → Option Int → Hp → VK → Prop} {tl th : TO}
theorem rd_for (q : wi σ H fun J H1 => qFor J g tb D σ H1) : tFor wi g tb D σ H := q
theorem rd_lc (q : wi σ H fun J H1 => ∀ D, H1 D = none → qLc J g tt te vs σ D H1 Q) : tLc wi g tt te vs σ H Q := q
theorem rd_rng1 (q : ta σ H fun vs H1 => ∃ j : Int, vs = [.int j] ∧ -(2 ^ 62) ≤ j ∧ j < 2 ^ 62 ∧ R (Itr 0 j.toNat) H1) : iRng1 ta σ H R := q
theorem rd_rng2 (q : ta σ H fun vs H1 => ∃ i j : Int, vs = [.int i, .int j] ∧ (-(2 ^ 62) ≤ i ∧ i < 2 ^ 62 ∧ -(2 ^ 62) ≤ j ∧ j < 2 ^ 62) ∧ R (Itr i (j - i).toNat) H1) : iRng2 ta σ H R := q
theorem rd_rng {j : Int} {P : Int → Prop} (h0 : -(2 ^ 62) ≤ j) (h1 : j < 2 ^ 62) (q : P j) : ∃ i : Int, [V.int j] = [.int i] ∧ -(2 ^ 62) ≤ i ∧ i < 2 ^ 62 ∧ P i := ⟨j, rfl, h0, h1, q⟩
theorem rd_rngB {i j : Int} (h : -(2 ^ 62) ≤ i ∧ i < 2 ^ 62 ∧ -(2 ^ 62) ≤ j ∧ j < 2 ^ 62) {P : Int → Int → Prop} (q : P i j) : ∃ i' j' : Int, [V.int i, V.int j] = [.int i', .int j'] ∧ (-(2 ^ 62) ≤ i' ∧ i' < 2 ^ 62 ∧ -(2 ^ 62) ≤ j' ∧ j' < 2 ^ 62) ∧ P i' j' := ⟨i, j, rfl, h, q⟩
theorem rd_il (q : te σ H fun x H1 => ∃ a, x = .ref a ∧ (∃ xs, SqL K H1 a xs) ∧ R (Itl K a) H1) : iList K te σ H R := q
theorem rd_it (q : te σ H fun x H1 => ∃ a, x = .ref a ∧ (∃ xs, SqT K H1 a xs) ∧ R (Itt K a) H1) : iTup K te σ H R := q
theorem rd_itl {a : Addr} {P : Addr → Prop} (h : ∃ xs, SqL K H a xs) (q : P a) : ∃ a', V.ref a = .ref a' ∧ (∃ xs, SqL K H a' xs) ∧ P a' := ⟨a, rfl, h, q⟩
theorem rd_itt {a : Addr} {P : Addr → Prop} (h : ∃ xs, SqT K H a xs) (q : P a) : ∃ a', V.ref a = .ref a' ∧ (∃ xs, SqT K H a' xs) ∧ P a' := ⟨a, rfl, h, q⟩
theorem Is.sql {M : List Addr} {a : Addr} {ds : List PyData} (i : Is M H (.ref a) (.list ds)) : ∃ xs, SqL K H a xs := by
  obtain ⟨xs, _, h, _⟩ := i.list
  exact ⟨xs, SqL.of h⟩
theorem Is.sqt {M : List Addr} {a : Addr} {ds : List PyData} (i : Is M H (.ref a) (.tuple ds)) : ∃ xs, SqT K H a xs := by
  obtain ⟨xs, _, h, _⟩ := i.tuple
  exact ⟨xs, SqT.of h⟩
theorem sql_of {a : Addr} {xs : List V} (h : H a = some (.lst xs)) : ∃ xs, SqL K H a xs := ⟨xs, SqL.of h⟩
theorem rd_sl (q : te σ H fun x H1 => tl σ H1 fun l H2 => th σ H2 fun u H3 => r x l u H3 Q) : tSl r te tl th σ H Q := q
theorem rd_part {QO : Option Int → Hp → Prop} (q : te σ H fun x H1 => ∃ i, x = .int i ∧ QO (some i) H1) : tPart te σ H QO := q
theorem rd_pi {i : Int} {P : Int → Prop} (q : P i) : ∃ i', V.int i = .int i' ∧ P i' := ⟨i, rfl, q⟩
theorem rd_pn {QO : Option Int → Hp → Prop} (q : QO none H) : tNoPart σ H QO := q
theorem rd_slL {M : List Addr} {a : Addr} {lo hi : Option Int} {ds : List PyData} (h : Is M H (.ref a) (.list ds)) (q : ∀ xs, H a = some (.lst xs) → IsAll M H xs ds → ∀ p, H p = none → Q (.ref p) (upd H p (.lst (cutV xs lo hi)))) : rSlL K (.ref a) lo hi H Q := by
  obtain ⟨xs, _, hx, r⟩ := h.list
  exact ⟨a, xs, rfl, SqL.of hx, q xs hx r⟩
/-- a range, by its turns -/
theorem q_range {lo : Int} {n : Nat} (Pv : Nat → L2.St → Hp → Prop) (h0 : Pv 0 σ H) (hs : ∀ i σ H, i < n → Pv i σ H → g (.int (lo + i)) σ H fun σ2 H2 => tb { D with nx := Pv (i + 1), ct := Pv (i + 1), bk := D.nx } σ2 H2)
    (hd : ∀ σ H, Pv n σ H → D.nx σ H) : qFor (Itr lo n) g tb D σ H := for_range Pv h0 hs hd
theorem q_data {M : List Addr} {H0 : Hp} {a : Addr} {ds : List PyData} (h : Is M H0 (.ref a) (.list ds)) (Pv : Nat → L2.St → Hp → Prop) (h0 : Pv 0 σ H) (hE : ∀ i σ H, Pv i σ H → Ext M H0 H)
    (hs : ∀ i d x σ H, ds[i]? = some d → Is M H x d → Pv i σ H → g x σ H fun σ2 H2 => tb { D with nx := Pv (i + 1), ct := Pv (i + 1), bk := D.nx } σ2 H2) (hd : ∀ σ H, Pv ds.length σ H → D.nx σ H) : qFor (Itl K a) g tb D σ H := for_data h Pv h0 hE hs hd
theorem q_dataT {M : List Addr} {H0 : Hp} {a : Addr} {ds : List PyData} (h : Is M H0 (.ref a) (.tuple ds)) (Pv : Nat → L2.St → Hp → Prop) (h0 : Pv 0 σ H) (hE : ∀ i σ H, Pv i σ H → Ext M H0 H)
    (hs : ∀ i d x σ H, ds[i]? = some d → Is M H x d → Pv i σ H → g x σ H fun σ2 H2 => tb { D with nx := Pv (i + 1), ct := Pv (i + 1), bk := D.nx } σ2 H2) (hd : ∀ σ H, Pv ds.length σ H → D.nx σ H) : qFor (Itt K a) g tb D σ H := for_dataT h Pv h0 hE hs hd
end
section
variable {K : PySem.W.Frag} {σ : L2.St} {H : Hp} {Q : VK} {te : TE} {a : Addr} {xs : List V}
theorem rd_rev (q : te σ H fun x H1 => ∃ a xs, x = .ref a ∧ SqL K H1 a xs ∧ ∀ p, H1 p = none → Q (.ref p) (upd H1 p (.lst xs.reverse))) : tRevL K te σ H Q := q
theorem rd_revd (h : SqL K H a xs) (q : ∀ p, H p = none → Q (.ref p) (upd H p (.lst xs.reverse))) : ∃ a' xs', V.ref a = .ref a' ∧ SqL K H a' xs' ∧ ∀ p, H p = none → Q (.ref p) (upd H p (.lst xs'.reverse)) := ⟨a, xs, rfl, h, q⟩
theorem rd_listT {p : Addr} (h : SqT K H p xs) (q : ∀ l, H l = none → Q (.ref l) (upd H l (.lst xs))) : qListOf K [.ref p] H Q := ⟨p, xs, rfl, .inr h, q⟩
theorem rd_cat {l b : Addr} {xs zs : List V} (h : H l = some (.lst xs)) (k : H b = some (.lst zs)) (hz : xs.length + zs.length ≤ sizeLine) (q : ∀ p, H p = none → Q (.ref p) (upd H p (.lst (xs ++ zs)))) : rCat (.ref l) (.ref b) H Q := ⟨l, b, xs, zs, rfl, rfl, h, k, hz, q⟩
theorem rd_dcat {M : List Addr} {l b : Addr} {ds es : List PyData} (s : Al M H) (h : Is M H (.ref l) (.list ds)) (k : Is M H (.ref b) (.list es)) (hz : ds.length + es.length ≤ 100000)
    (q : ∀ p H', H p = none → Ext [] H H' → (∃ xs, H' p = some (.lst xs) ∧ IsAll (p :: M) H' xs (ds ++ es)) → Is M H' (.ref p) (.list (ds ++ es)) → Q (.ref p) H') : rCat (.ref l) (.ref b) H Q := by
  obtain ⟨xs, _, hx, r⟩ := h.list
  obtain ⟨zs, _, hz', r'⟩ := k.list
  refine rd_cat hx hz' (szL (by rw [r.length, r'.length]; exact hz)) fun p hp => ?_
  exact q p _ hp (.new hp) ⟨_, upd_same, (r.append r').beside hp⟩ (new_lst s (r.append r') hp)
theorem rd_dlist {M : List Addr} {l : Addr} {ds : List PyData} (s : Al M H) (h : Is M H (.ref l) (.list ds))
    (q : ∀ p H', H p = none → Ext [] H H' → (∃ xs, H' p = some (.lst xs) ∧ IsAll (p :: M) H' xs ds) → Is M H' (.ref p) (.list ds) → Q (.ref p) H') : qListOf K [.ref l] H Q := by
  obtain ⟨xs, _, hx, r⟩ := h.list
  refine rd_listL (SqL.of hx) fun p hp => ?_
  exact q p _ hp (.new hp) ⟨_, upd_same, r.beside hp⟩ (new_lst s r hp)
end
/-! ### rules with the written part by its name (so that they stand within comprehensions too) -/
section
variable {X : Cx} (K : PySem.W.Frag) (hK : X.K = K := by rfl)
include hK
theorem sl_listK : SlR X (rSlL K) := hK ▸ sl_list
theorem sl_tupK : SlR X (rSlT K) := hK ▸ sl_tup
theorem ix_listK : IxR X (rIxL K) := hK ▸ ix_list
theorem ix_tupK : IxR X (rIxT K) := hK ▸ ix_tup
theorem ix_seqK : IxR X (rIx K) := hK ▸ ix_seq
theorem get_listK : PGet X (rIxL K) := hK ▸ get_list
theorem call_lenK : CallR X (.builtin "len") (qLen K) := hK ▸ call_lenq
theorem call_listK : CallR X (.type "list") (qListOf K) := hK ▸ call_listq
theorem call_isK : CallR X (.builtin "isinstance") (rIsi K) := hK ▸ call_isi
theorem op_in_seqK : OpR X (compareOp .In) (rIn K false) := hK ▸ op_in_seq
theorem op_notIn_seqK : OpR X (compareOp .NotIn) (rIn K true) := hK ▸ op_notIn_seq
theorem op_catTK : OpR X (binaryOp .Add) (rCatT K) := hK ▸ op_catT
omit hK
theorem op_eqDK (hu : X.A.units + 64 < cLine) (hK : X.K = K := by rfl) : OpR X (compareOp .Eq) (rEqD K) := hK ▸ op_eqD hu
theorem op_neDK (hu : X.A.units + 64 < cLine) (hK : X.K = K := by rfl) : OpR X (compareOp .NotEq) (rNeD K) := hK ▸ op_neD hu
end
section
variable {X : Cx} {e o : Expr} {ta to te : TE} {t : TA} {tg : Expr} {pos : Pos} {f : Str}
theorem pe_fldK (K : PySem.W.Frag) (he : PE X e ta) (hb : attributeBase e f X.env (eval e X.env) = eval e X.env) (hK : X.K = K := by rfl) : PE X (.Attribute e f pos) (tFld K ta f) := hK ▸ pe_fld he hb
def qTru (K : PySem.W.Frag) (ta : TE) : TT := fun σ H Q => ta σ H fun x H' => ∃ k, TruV K x H' k ∧ Q k H'
theorem pt_truthK (K : PySem.W.Frag) (ha : PE X e ta) (he : ∀ whole, isTrue e X.env whole = (do let v ← whole; standAt e.pos; holding [v] (truthy v))) (hK : X.K = K := by rfl) : PT X e (qTru K ta) := by
  subst hK
  exact pt_truth ha he
theorem pi_listK (K : PySem.W.Frag) (hl : PE X e te) (hK : X.K = K := by rfl) : PI X tg e (iList K te) := hK ▸ pi_list hl
theorem pi_tupK (K : PySem.W.Frag) (hl : PE X e te) (hK : X.K = K := by rfl) : PI X tg e (iTup K te) := hK ▸ pi_tup hl
theorem pg_tupK (K : PySem.W.Frag) {es : List Expr} {k : Nat} {t : TGs} {n : Nat} (hc : X.calm = true) (h : PGs X es t) (hn : (assignEach es X.env).length = n := by rfl) (hst : (assignEach es X.env).findIdx? (·.1) = none := by rfl) (hK : X.K = K := by rfl) : PG X (.Tuple es k pos) (gTup K n t) := hK ▸ pg_tup hc h hn hst
theorem pe_revLK (K : PySem.W.Frag) {k : Nat} {p1 p2 p3 : Pos} (he : PE X e te) (hK : X.K = K := by rfl) : PE X (.Subscript e (.Slice none none (some (.UnaryOp .USub (.Constant (.int 1) k p1) p2)) p3) pos) (tRevL K te) := hK ▸ pe_revL he
theorem rd_tru {K : PySem.W.Frag} {σ : L2.St} {H : Hp} {Q : Bool → Hp → Prop} (q : ta σ H fun x H' => ∃ k, TruV K x H' k ∧ Q k H') : qTru K ta σ H Q := q
end
section
variable {M : List Addr} {H0 H H1 : Hp} {a D : Addr} {ds : List PyData} {K : PySem.W.Frag} {j : Nat} {vs : List Nat} {te : TE} {tt : TT} {σ : L2.St} {Q : VK} {ta : TA} {R : It → Hp → Prop}
theorem rd_u {g : Int → V} {i : Int} (q : Q (g i) H) : rU g (.int i) H Q := ⟨i, rfl, q⟩
theorem rd_rng3 (q : ta σ H fun vs H1 => ∃ (i j c : Int) (n : Nat), vs = [.int i, .int j, .int c] ∧ RgC i j c n ∧ R (Itc i c n) H1) : iRng3 ta σ H R := q
theorem rgC_up {i j c : Int} (hc : 0 < c) (hc' : c < 1073741824) (ha : 0 ≤ i) (ha' : i < 2 ^ 62) (hb : 0 ≤ j) (hb' : j < 2 ^ 62) : RgC i j c (if i < j then (j - i - 1) / c + 1 else 0).toNat := by
  refine ⟨by omega, by omega, ?_, ?_⟩
  · have h1 : 0 ≤ (j - i - 1) / c ∨ ¬ i < j := by
      by_cases h : i < j
      · exact .inl (Int.ediv_nonneg (by omega) (by omega))
      · exact .inr h
    have h2 : i < j → (j - i - 1) / c ≤ j - i - 1 := fun h => Int.ediv_le_self _ (by omega)
    unfold Builtin.Range.small Builtin.Range.rangeSize
    simp only [Builtin.Range.rangeFitsLong, Bool.and_eq_true, Bool.or_eq_true, decide_eq_true_eq, beq_iff_eq, hc, gt_iff_lt, if_true]
    by_cases h : i < j
    · have := h2 h
      have := h1.resolve_right (fun q => q h)
      simp only [h, if_true]
      omega
    · simp only [h, if_false]
      omega
  · unfold Builtin.Range.rangeSize
    simp only [hc, gt_iff_lt, if_true]
    by_cases h : i < j
    · simp only [h, if_true]
      have := Int.ediv_nonneg (a := j - i - 1) (b := c) (by omega) (by omega)
      omega
    · simp only [h, if_false]
      rfl
/-- [e for x in range(i, j, c)] -/
theorem q_lcC {lo c : Int} {n : Nat} (f : Nat → PyData) (s : Al M H0) (hD : H0 D = none) (hn : n ≤ 100000) (hw : ∀ x, wipe ((wipe σ vs).set j (some x)) vs = wipe σ vs)
    (he : ∀ (i : Nat) H', i < n → Al (D :: M) H' → Ext [] H0 H' → ∀ R : VK, (∀ y H'', Ext [] H' H'' → Is (D :: M) H'' y (f i) → R y H'') → te ((wipe σ vs).set j (some (.int (lo + (i : Nat) * c)))) H' R)
    (hd : ∀ H', Ext [] H0 H' → Is M H' (.ref D) (.list ((List.range n).map f)) → Q (.ref D) H') : qLc (Itc lo c n) (gName j) tYes te vs σ D H0 Q := by
  refine ⟨fun i m H => m = n - i ∧ i ≤ n ∧ Made M H0 D ((List.range i).map f) H, ⟨n, by simp, Nat.zero_le _, Made.start s hD⟩, ?_⟩
  rintro i m H ⟨rfl, hi, p⟩
  by_cases hlt : i < n
  · refine .inr ⟨hlt, fun H' => Made M H0 D ((List.range (i + 1)).map f) H', fun H' p' => ⟨n - (i + 1), by omega, rfl, hlt, p'⟩, fun x H' y => ?_⟩
    obtain ⟨e, y⟩ := y
    subst e y
    refine ⟨hw _, rd_yes ?_⟩
    refine iteT ?_
    refine he i _ hlt (p.al s) p.ext _ fun y H'' e r => ?_
    rw [List.range_succ, List.map_append]
    exact p.step e r (by rw [List.length_map, List.length_range]; omega)
  · have e : i = n := by omega
    subst e
    exact .inl ⟨Nat.le_refl _, hd H p.ext p.is⟩
theorem q_lcR {lo : Int} {n : Nat} (f : Nat → PyData) (s : Al M H0) (hD : H0 D = none) (hn : n ≤ 100000) (hw : ∀ x, wipe ((wipe σ vs).set j (some x)) vs = wipe σ vs)
    (he : ∀ (i : Nat) H', i < n → Al (D :: M) H' → Ext [] H0 H' → ∀ R : VK, (∀ y H'', Ext [] H' H'' → Is (D :: M) H'' y (f i) → R y H'') → te ((wipe σ vs).set j (some (.int (lo + i)))) H' R)
    (hd : ∀ H', Ext [] H0 H' → Is M H' (.ref D) (.list ((List.range n).map f)) → Q (.ref D) H') : qLc (Itr lo n) (gName j) tYes te vs σ D H0 Q := lc_rng f s hD hn hw he hd
theorem q_lcL (f : PyData → PyData) (s : Al M H0) (hD : H0 D = none) (h : Is M H0 (.ref a) (.list ds)) (hn : ds.length ≤ 100000) (hw : ∀ x, wipe ((wipe σ vs).set j (some x)) vs = wipe σ vs)
    (he : ∀ (x : V) (d : PyData) H', d ∈ ds → Al (D :: M) H' → Ext [] H0 H' → Is (D :: M) H' x d → ∀ R : VK, (∀ y H'', Ext [] H' H'' → Is (D :: M) H'' y (f d) → R y H'') → te ((wipe σ vs).set j (some x)) H' R)
    (hd : ∀ H', Ext [] H0 H' → Is M H' (.ref D) (.list (ds.map f)) → Q (.ref D) H') : qLc (Itl K a) (gName j) tYes te vs σ D H0 Q := lc_map f s hD h hn hw he hd
theorem q_lcF (f : PyData → PyData) (p : PyData → Bool) (s : Al M H0) (hD : H0 D = none) (h : Is M H0 (.ref a) (.list ds)) (hn : ds.length ≤ 100000) (hw : ∀ x, wipe ((wipe σ vs).set j (some x)) vs = wipe σ vs)
    (ht : ∀ (x : V) (d : PyData) H', d ∈ ds → Al (D :: M) H' → Ext [] H0 H' → Is (D :: M) H' x d → ∀ R : Bool → Hp → Prop, (∀ H'', Ext [] H' H'' → R (p d) H'') → tt ((wipe σ vs).set j (some x)) H' R)
    (he : ∀ (x : V) (d : PyData) H', d ∈ ds → p d = true → Al (D :: M) H' → Ext [] H0 H' → Is (D :: M) H' x d → ∀ R : VK, (∀ y H'', Ext [] H' H'' → Is (D :: M) H'' y (f d) → R y H'') → te ((wipe σ vs).set j (some x)) H' R)
    (hd : ∀ H', Ext [] H0 H' → Is M H' (.ref D) (.list ((ds.filter p).map f)) → Q (.ref D) H') : qLc (Itl K a) (gName j) tt te vs σ D H0 Q := lc_filter f p s hD h hn hw ht he hd
end
section
variable {M : List Addr} {H : Hp} {xs : List V} {ds : List PyData} {a : Addr} {K : PySem.W.Frag} {Q : VK}
theorem IsAll.cutI {lo hi : Int} {l h : Nat} (r : IsAll M H xs ds) (hl : lo = (l : Int)) (hh : hi = (h : Int)) : IsAll M H (cutV xs (some lo) (some hi)) ((ds.take h).drop l) := by
  subst hl hh
  exact r.cut
theorem IsAll.cutI0 {hi : Int} {h : Nat} (r : IsAll M H xs ds) (hh : hi = (h : Int)) : IsAll M H (cutV xs none (some hi)) (ds.take h) := by
  subst hh
  exact r.cut0
theorem IsAll.cutIN {lo : Int} {l : Nat} (r : IsAll M H xs ds) (hl : lo = (l : Int)) : IsAll M H (cutV xs (some lo) none) (ds.drop l) := by
  subst hl
  exact r.cutN
/-- slices of data -/
theorem rd_cut {lo hi : Int} {l h : Nat} (s : Al M H) (i : Is M H (.ref a) (.list ds)) (hl : lo = (l : Int)) (hh : hi = (h : Int)) (q : ∀ p H', H p = none → Ext [] H H' → (∃ xs, H' p = some (.lst xs) ∧ IsAll (p :: M) H' xs ((ds.take h).drop l)) → Is M H' (.ref p) (.list ((ds.take h).drop l)) → Q (.ref p) H') :
    rSlL K (.ref a) (some lo) (some hi) H Q := rd_slL i fun _ _ r p hp => q p _ hp (.new hp) ⟨_, upd_same, (r.cutI hl hh).beside hp⟩ (new_lst s (r.cutI hl hh) hp)
theorem rd_cut0 {hi : Int} {h : Nat} (s : Al M H) (i : Is M H (.ref a) (.list ds)) (hh : hi = (h : Int)) (q : ∀ p H', H p = none → Ext [] H H' → (∃ xs, H' p = some (.lst xs) ∧ IsAll (p :: M) H' xs (ds.take h)) → Is M H' (.ref p) (.list (ds.take h)) → Q (.ref p) H') :
    rSlL K (.ref a) none (some hi) H Q := rd_slL i fun _ _ r p hp => q p _ hp (.new hp) ⟨_, upd_same, (r.cutI0 hh).beside hp⟩ (new_lst s (r.cutI0 hh) hp)
theorem rd_cutN {lo : Int} {l : Nat} (s : Al M H) (i : Is M H (.ref a) (.list ds)) (hl : lo = (l : Int)) (q : ∀ p H', H p = none → Ext [] H H' → (∃ xs, H' p = some (.lst xs) ∧ IsAll (p :: M) H' xs (ds.drop l)) → Is M H' (.ref p) (.list (ds.drop l)) → Q (.ref p) H') :
    rSlL K (.ref a) (some lo) none H Q := rd_slL i fun _ _ r p hp => q p _ hp (.new hp) ⟨_, upd_same, (r.cutIN hl).beside hp⟩ (new_lst s (r.cutIN hl) hp)
/-- l.extend(b) -/
theorem rd_ext {l b : Addr} {xs zs : List V} (h : H l = some (.lst xs)) (k : H b = some (.lst zs)) (hz : xs.length + zs.length ≤ 100000) (q : Q .non (upd H l (.lst (xs ++ zs)))) : rExtend (.ref l) [.ref b] H Q := ⟨l, b, xs, zs, rfl, rfl, h, k, szL hz, q⟩
theorem map_cut (ns : List Nat) (l h : Nat) : ((ns.map fun n : Nat => PyData.int n).take h).drop l = ((ns.take h).drop l).map fun n : Nat => PyData.int n := by rw [List.map_drop, List.map_take]
end
def top (i : Nat) : Stmt := PySem.Challenge.pw_steadwhole_k02_log_blocks_and_tails.main.body.getD i (.Pass ⟨0, 0, 0, 0⟩)
abbrev s_area_size : Stmt := top 3
abbrev s_area_start : Stmt := top 4
abbrev s_region_start : Stmt := top 5
abbrev s_stripe_count : Stmt := top 6
abbrev s_write_fixed : Stmt := top 7
abbrev s_read_fixed : Stmt := top 8
abbrev s_log_block : Stmt := top 9
abbrev s_read_block : Stmt := top 10
abbrev s_tail : Stmt := top 11
abbrev s_read_tail : Stmt := top 12
abbrev s_law_draw : Stmt := top 14
abbrev s_law_data : Stmt := top 15
abbrev s_law_fixed : Stmt := top 16
abbrev s_law_blocks : Stmt := top 17
abbrev s_law_tails : Stmt := top 18
abbrev s_law_parts : Stmt := top 19
abbrev s_law : Stmt := top 20
abbrev nm_area_size : List Str := ["sectors"]
abbrev pm_area_size : List Str := ["sectors"]
theorem sc_area_size : FnScope nm_area_size pm_area_size (defScope s_area_size) := ⟨rfl, rfl, rfl, by decide +kernel, rfl, by decide +kernel, by decide +kernel⟩
theorem bd_area_size : BindAll "area_size" "area_size" s_area_size pm_area_size := fun _ _ _ _ _ _ us hl => match us, hl with | [_], _ => rfl
abbrev nm_area_start : List Str := ["sectors", "area"]
abbrev pm_area_start : List Str := ["sectors", "area"]
theorem sc_area_start : FnScope nm_area_start pm_area_start (defScope s_area_start) := ⟨rfl, rfl, rfl, by decide +kernel, rfl, by decide +kernel, by decide +kernel⟩
theorem bd_area_start : BindAll "area_start" "area_start" s_area_start pm_area_start := fun _ _ _ _ _ _ us hl => match us, hl with | [_, _], _ => rfl
abbrev nm_region_start : List Str := ["sectors"]
abbrev pm_region_start : List Str := ["sectors"]
theorem sc_region_start : FnScope nm_region_start pm_region_start (defScope s_region_start) := ⟨rfl, rfl, rfl, by decide +kernel, rfl, by decide +kernel, by decide +kernel⟩
theorem bd_region_start : BindAll "region_start" "region_start" s_region_start pm_region_start := fun _ _ _ _ _ _ us hl => match us, hl with | [_], _ => rfl
abbrev nm_stripe_count : List Str := ["sectors"]
abbrev pm_stripe_count : List Str := ["sectors"]
theorem sc_stripe_count : FnScope nm_stripe_count pm_stripe_count (defScope s_stripe_count) := ⟨rfl, rfl, rfl, by decide +kernel, rfl, by decide +kernel, by decide +kernel⟩
theorem bd_stripe_count : BindAll "stripe_count" "stripe_count" s_stripe_count pm_stripe_count := fun _ _ _ _ _ _ us hl => match us, hl with | [_], _ => rfl
abbrev nm_write_fixed : List Str := ["number", "count", "data", "_"]
abbrev pm_write_fixed : List Str := ["number", "count"]
theorem sc_write_fixed : FnScope nm_write_fixed pm_write_fixed (defScope s_write_fixed) := ⟨rfl, rfl, rfl, by decide +kernel, rfl, by decide +kernel, by decide +kernel⟩
theorem bd_write_fixed : BindAll "write_fixed" "write_fixed" s_write_fixed pm_write_fixed := fun _ _ _ _ _ _ us hl => match us, hl with | [_, _], _ => rfl
abbrev nm_read_fixed : List Str := ["data", "total", "byte"]
abbrev pm_read_fixed : List Str := ["data"]
theorem sc_read_fixed : FnScope nm_read_fixed pm_read_fixed (defScope s_read_fixed) := ⟨rfl, rfl, rfl, by decide +kernel, rfl, by decide +kernel, by decide +kernel⟩
theorem bd_read_fixed : BindAll "read_fixed" "read_fixed" s_read_fixed pm_read_fixed := fun _ _ _ _ _ _ us hl => match us, hl with | [_], _ => rfl
abbrev nm_log_block : List Str := ["data", "_", "start"]
abbrev pm_log_block : List Str := ["data"]
theorem sc_log_block : FnScope nm_log_block pm_log_block (defScope s_log_block) := ⟨rfl, rfl, rfl, by decide +kernel, rfl, by decide +kernel, by decide +kernel⟩
theorem bd_log_block : BindAll "log_block" "log_block" s_log_block pm_log_block := fun _ _ _ _ _ _ us hl => match us, hl with | [_], _ => rfl
abbrev nm_read_block : List Str := ["sectors", "start", "size", "end", "data", "sector"]
abbrev pm_read_block : List Str := ["sectors", "start"]
theorem sc_read_block : FnScope nm_read_block pm_read_block (defScope s_read_block) := ⟨rfl, rfl, rfl, by decide +kernel, rfl, by decide +kernel, by decide +kernel⟩
theorem bd_read_block : BindAll "read_block" "read_block" s_read_block pm_read_block := fun _ _ _ _ _ _ us hl => match us, hl with | [_, _], _ => rfl
abbrev nm_tail : List Str := ["commits", "area", "image", "counting", "data", "_"]
abbrev pm_tail : List Str := ["commits", "area", "image", "counting"]
theorem sc_tail : FnScope nm_tail pm_tail (defScope s_tail) := ⟨rfl, rfl, rfl, by decide +kernel, rfl, by decide +kernel, by decide +kernel⟩
theorem bd_tail : BindAll "tail" "tail" s_tail pm_tail := fun _ _ _ _ _ _ us hl => match us, hl with | [_, _, _, _], _ => rfl
abbrev nm_read_tail : List Str := ["sector", "told"]
abbrev pm_read_tail : List Str := ["sector"]
theorem sc_read_tail : FnScope nm_read_tail pm_read_tail (defScope s_read_tail) := ⟨rfl, rfl, rfl, by decide +kernel, rfl, by decide +kernel, by decide +kernel⟩
theorem bd_read_tail : BindAll "read_tail" "read_tail" s_read_tail pm_read_tail := fun _ _ _ _ _ _ us hl => match us, hl with | [_], _ => rfl
abbrev nm_law_draw : List Str := ["script", "k", "cell", "turn", "step"]
abbrev pm_law_draw : List Str := ["script", "k"]
theorem sc_law_draw : FnScope nm_law_draw pm_law_draw (defScope s_law_draw) := ⟨rfl, rfl, rfl, by decide +kernel, rfl, by decide +kernel, by decide +kernel⟩
theorem bd_law_draw : BindAll "_law_draw" "_law_draw" s_law_draw pm_law_draw := fun _ _ _ _ _ _ us hl => match us, hl with | [_, _], _ => rfl
abbrev nm_law_data : List Str := ["number", "k"]
abbrev pm_law_data : List Str := ["number"]
theorem sc_law_data : FnScope nm_law_data pm_law_data (defScope s_law_data) := ⟨rfl, rfl, rfl, by decide +kernel, rfl, by decide +kernel, by decide +kernel⟩
theorem bd_law_data : BindAll "_law_data" "_law_data" s_law_data pm_law_data := fun _ _ _ _ _ _ us hl => match us, hl with | [_], _ => rfl
abbrev nm_law_fixed : List Str := ["number", "count", "data", "k"]
abbrev pm_law_fixed : List Str := ["number", "count"]
theorem sc_law_fixed : FnScope nm_law_fixed pm_law_fixed (defScope s_law_fixed) := ⟨rfl, rfl, rfl, by decide +kernel, rfl, by decide +kernel, by decide +kernel⟩
theorem bd_law_fixed : BindAll "_law_fixed" "_law_fixed" s_law_fixed pm_law_fixed := fun _ _ _ _ _ _ us hl => match us, hl with | [_, _], _ => rfl
abbrev nm_law_blocks : List Str := ["script", "sectors", "starts", "rows", "k", "data", "block", "whole", "place", "joined", "sector", "end", "copied", "told"]
abbrev pm_law_blocks : List Str := ["script"]
theorem sc_law_blocks : FnScope nm_law_blocks pm_law_blocks (defScope s_law_blocks) := ⟨rfl, rfl, rfl, by decide +kernel, rfl, by decide +kernel, by decide +kernel⟩
theorem bd_law_blocks : BindAll "_law_blocks" "_law_blocks" s_law_blocks pm_law_blocks := fun _ _ _ _ _ _ us hl => match us, hl with | [_], _ => rfl
abbrev nm_law_tails : List Str := ["number", "commits", "told", "sector", "due", "k", "place", "changed"]
abbrev pm_law_tails : List Str := ["number"]
theorem sc_law_tails : FnScope nm_law_tails pm_law_tails (defScope s_law_tails) := ⟨rfl, rfl, rfl, by decide +kernel, rfl, by decide +kernel, by decide +kernel⟩
theorem bd_law_tails : BindAll "_law_tails" "_law_tails" s_law_tails pm_law_tails := fun _ _ _ _ _ _ us hl => match us, hl with | [_], _ => rfl
abbrev nm_law_parts : List Str := ["sectors", "size"]
abbrev pm_law_parts : List Str := ["sectors"]
theorem sc_law_parts : FnScope nm_law_parts pm_law_parts (defScope s_law_parts) := ⟨rfl, rfl, rfl, by decide +kernel, rfl, by decide +kernel, by decide +kernel⟩
theorem bd_law_parts : BindAll "_law_parts" "_law_parts" s_law_parts pm_law_parts := fun _ _ _ _ _ _ us hl => match us, hl with | [_], _ => rfl
abbrev nm_law : List Str := ["script", "number"]
abbrev pm_law : List Str := ["script"]
theorem sc_law : FnScope nm_law pm_law (defScope s_law) := ⟨rfl, rfl, rfl, by decide +kernel, rfl, by decide +kernel, by decide +kernel⟩
theorem bd_law : BindAll "law" "law" s_law pm_law := fun _ _ _ _ _ _ us hl => match us, hl with | [_], _ => rfl
/-- what the top has left -/
structure Txt (K : PySem.W.Frag) (mg : Str → Option Value) : Prop where
  f_area_size : GFun K mg "area_size" s_area_size
  f_area_start : GFun K mg "area_start" s_area_start
  f_region_start : GFun K mg "region_start" s_region_start
  f_stripe_count : GFun K mg "stripe_count" s_stripe_count
  f_write_fixed : GFun K mg "write_fixed" s_write_fixed
  f_read_fixed : GFun K mg "read_fixed" s_read_fixed
  f_log_block : GFun K mg "log_block" s_log_block
  f_read_block : GFun K mg "read_block" s_read_block
  f_tail : GFun K mg "tail" s_tail
  f_read_tail : GFun K mg "read_tail" s_read_tail
  f_law_draw : GFun K mg "_law_draw" s_law_draw
  f_law_data : GFun K mg "_law_data" s_law_data
  f_law_fixed : GFun K mg "_law_fixed" s_law_fixed
  f_law_blocks : GFun K mg "_law_blocks" s_law_blocks
  f_law_tails : GFun K mg "_law_tails" s_law_tails
  f_law_parts : GFun K mg "_law_parts" s_law_parts
  f_law : GFun K mg "law" s_law
  g_SECTOR : ∃ u, mg "SECTOR" = some u ∧ RelV (.int 32) u
  t_SIGN : mg "SIGN" = some (.ref (He.ga K "SIGN")) ∧ ∀ H : Hp, SqT K H (He.ga K "SIGN") [.int 70, .int 73, .int 76, .int 69]
  z_int : mg "int" = none
  z_len : mg "len" = none
  z_list : mg "list" = none
  z_min : mg "min" = none
  z_range : mg "range" = none
local macro_rules | `(tactic| walk_at "k") => `(tactic| (try dsimp only [cx_K, cx_K2, cx_w]))
local macro_rules | `(tactic| walk_at "ne") => `(tactic| first | assumption | exact Ne.symm (by assumption) | exact ne_of_none (by assumption) (by assumption) | exact Ne.symm (ne_of_none (by assumption) (by assumption)) | exact ne_of (by assumption) (by assumption) (by intro z; cases z))
local macro_rules | `(tactic| walk_at "hp") => `(tactic| first | exact upd_same | assumption | exact SqL.of (by assumption) | exact SqT.of (by assumption) | exact SqL.of upd_same | exact SqT.of upd_same | (refine Eq.trans (upd_ne ?n) ?_ <;> first | (walk_at "hp"; done) | (walk_at "ne"; done)) | (refine SqL.of (Eq.trans (upd_ne ?n) ?_) <;> first | (walk_at "hp"; done) | (walk_at "ne"; done)))
local macro_rules | `(tactic| walk_at "ci") => `(tactic| first | exact .inl ⟨by decide, by decide⟩ | exact .inr ⟨by decide, by decide⟩ | exact .inl ⟨by omega, by omega⟩ | exact .inr ⟨by omega, by omega⟩ | (show (0 : Int) < _; omega) | (show (0 : Int) < _; decide) | (show (0 : Int) ≤ _; omega) | exact ⟨by omega, by omega⟩ | exact ⟨by omega, by omega, by omega⟩ | exact ⟨by decide, by decide, by decide⟩)
local macro_rules | `(tactic| walk_at "hq") => `(tactic| first | exact Is.sql (by assumption) | exact Is.sqt (by assumption) | exact sql_of (by assumption))
local macro_rules | `(tactic| walk_at "isi") => `(tactic| with_reducible (first | refine isi_int_int ?_ | refine isi_int_bool ?_ | refine isi_int_str ?_ | refine isi_int_list ?_ | refine isi_int_tuple ?_ | refine isi_int_dict ?_ | refine isi_int_bytes ?_ | refine isi_bool_int ?_ | refine isi_bool_bool ?_ | refine isi_bool_str ?_ | refine isi_bool_list ?_ | refine isi_bool_tuple ?_ | refine isi_bool_dict ?_ | refine isi_bool_bytes ?_ | refine isi_str_int ?_ | refine isi_str_bool ?_ | refine isi_str_str ?_ | refine isi_str_list ?_ | refine isi_str_tuple ?_ | refine isi_str_dict ?_ | refine isi_str_bytes ?_ | refine isi_NoneType_int ?_ | refine isi_NoneType_bool ?_ | refine isi_NoneType_str ?_ | refine isi_NoneType_list ?_ | refine isi_NoneType_tuple ?_ | refine isi_NoneType_dict ?_ | refine isi_NoneType_bytes ?_))
local macro_rules | `(tactic| walk_at "rd1") => `(tactic| first | (with_reducible (first | refine rd_seq ?_ | refine rd_var rfl ?_ | refine rd_c ?_ | refine rd_op ?_ | refine rd_asg ?_ | refine rd_gName ?_ | refine rd_xor ?_ | refine rd_i0 ?_ | refine rd_if ?_ | refine rd_tTest ?_ | refine rd_tB ?_ | refine rd_tb ?_ | refine rd_ret ?_ | refine rd_retN ?_ | refine rd_nx ?_ | refine rd_drop ?_ | refine rd_eqi ?_ | refine rd_nei ?_ | refine rd_eq rfl ?_ | refine rd_ne rfl ?_ | refine rd_call ?_ | refine rd_cons ?_ | refine rd_nil ?_ | refine rd_cb ?_ | refine rd_un ?_ | refine rd_and ?_ | refine rd_or ?_ | refine rd_not ?_ | refine rd_andV ?_ | refine rd_orV ?_ | refine rd_notV ?_ | refine rd_gSub ?_ | refine rd_augS ?_ | refine rd_aug rfl ?_ | refine rd_ipI ?_ | refine rd_tup ?_ | refine rd_lst ?_ | refine rd_bm0 ?_ | refine rd_bm ?_ | refine rd_chain ?_ | refine rd_rev ?_ | refine rd_tru ?_ | refine rd_u ?_ | refine rd_rng3 ?_ | refine rd_for ?_ | refine rd_lc ?_ | refine rd_rng1 ?_ | refine rd_rng2 ?_ | refine rd_il ?_ | refine rd_it ?_ | refine rd_sl ?_ | refine rd_part ?_ | refine rd_pi ?_ | refine rd_pn ?_ | refine iteT ?_ | refine iteF ?_ | refine iteNT ?_ | refine iteNF ?_ | refine rd_int1 ?_ | refine rd_int1b ?_ | refine rd_isNn ?_ | refine rd_isNi ?_ | refine rd_isNb ?_ | refine rd_isNs ?_ | refine rd_isNr ?_ | refine rd_notNn ?_ | refine rd_notNi ?_ | refine rd_notNb ?_ | refine rd_notNs ?_ | refine rd_notNr ?_)) | ((with_reducible refine rd_i ?c ?_); (case c => walk_at "ci")) | ((with_reducible refine' rd_ixL ?h ?a ?_); (case h => walk_at "hp"); (case a => rfl)) | ((with_reducible refine' rd_ixT ?h ?a ?_); (case h => walk_at "hp"); (case a => rfl)) | ((with_reducible refine' rd_setL ?h ?a ?_); (case h => walk_at "hp"); (case a => rfl)) | ((with_reducible refine' rd_lenL ?h ?_); (case h => walk_at "hp")) | ((with_reducible refine' rd_dlen ?h ?_); (case h => assumption)) | ((with_reducible refine' rd_dlenT ?h ?_); (case h => assumption)) | ((with_reducible refine rd_rng ?a ?b ?_); (case a => omega); (case b => omega)) | ((with_reducible refine' rd_itl ?h ?_); (case h => walk_at "hq")) | ((with_reducible refine' rd_itt ?h ?_); (case h => walk_at "hq")) | walk_at "isi")
local macro_rules | `(tactic| walk_at "rd") => `(tactic| repeat (walk_at "rd1"))
/-! ### numbers as bytes, blocks, tails -/
def lit : Nat → Nat → List Nat
  | 0, _ => []
  | c + 1, n => n % 256 :: lit c (n / 256)
def wf (n c : Nat) : List Nat := (lit c n).reverse
def rf (l : List Nat) : Nat := l.foldl (fun t b => t * 256 + b) 0
theorem lit_len : ∀ (c n : Nat), (lit c n).length = c
  | 0, _ => rfl
  | c + 1, n => congrArg Nat.succ (lit_len c (n / 256))
theorem wf_len (n c : Nat) : (wf n c).length = c := by rw [wf, List.length_reverse, lit_len]
theorem lit_snoc : ∀ (c n : Nat), lit (c + 1) n = lit c n ++ [n / 256 ^ c % 256]
  | 0, n => by simp [lit]
  | c + 1, n => by
    have ih := lit_snoc c (n / 256)
    rw [lit, ih, Nat.div_div_eq_div_mul]
    show _ = n % 256 :: lit c (n / 256) ++ _
    rw [List.cons_append, Nat.pow_succ, Nat.mul_comm 256]
theorem rf_rev (l : List Nat) : rf l.reverse = l.foldr (fun b t => t * 256 + b) 0 := by rw [rf, List.foldl_reverse]
theorem rf_wf (c : Nat) : ∀ n, rf (wf n c) = n % 256 ^ c := by
  induction c with
  | zero => intro n; rw [Nat.pow_zero, Nat.mod_one]; rfl
  | succ c ih =>
    intro n
    have e := ih (n / 256)
    rw [wf, rf_rev] at e ⊢
    show (lit c (n / 256)).foldr (fun b t => t * 256 + b) 0 * 256 + n % 256 = _
    rw [e, Nat.pow_succ, Nat.mul_comm (256 ^ c), Nat.mod_mul]
    omega
/-- a log block's bytes, its sectors -/
def whole (d : List Nat) : List Nat := (wf d.length 4 ++ d) ++ List.replicate ((32 - (4 + d.length) % 32) % 32) 0
def nsec (d : List Nat) : Nat := (4 + d.length + 31) / 32
def blocks (d : List Nat) : List (List Nat) := (List.range (nsec d)).map fun i => ((whole d).take (32 * i + 32)).drop (32 * i)
theorem whole_len (d : List Nat) : (whole d).length = 32 * nsec d := by
  unfold whole nsec
  rw [List.length_append, List.length_append, wf_len, List.length_replicate]
  omega
theorem blocks_len (d : List Nat) : (blocks d).length = nsec d := by rw [blocks, List.length_map, List.length_range]
theorem chunks (k : Nat) : ∀ (n : Nat) (l : List Nat), l.length = k * n → ((List.range n).map fun i => (l.take (k * i + k)).drop (k * i)).flatten = l := by
  intro n
  induction n with
  | zero => intro l h; rw [Nat.mul_zero] at h; rw [List.eq_nil_of_length_eq_zero h]; rfl
  | succ n ih =>
    intro l h
    have h1 : k * (n + 1) = k * n + k := Nat.mul_succ k n
    have e := ih (l.take (k * n)) (by rw [List.length_take]; omega)
    have e2 : ((List.range n).map fun i => (l.take (k * i + k)).drop (k * i)) = ((List.range n).map fun i => ((l.take (k * n)).take (k * i + k)).drop (k * i)) := by
      refine List.map_congr_left fun i hi => ?_
      have hi := List.mem_range.mp hi
      have : k * i + k ≤ k * n := by
        have z : k * (i + 1) ≤ k * n := Nat.mul_le_mul_left k hi
        rw [Nat.mul_succ] at z
        exact z
      rw [List.take_take, Nat.min_eq_left this]
    rw [List.range_succ, List.map_append, List.flatten_append, e2, e]
    show l.take (k * n) ++ ((l.take (k * n + k)).drop (k * n) ++ []) = l
    have e3 : l.take (k * n + k) = l := List.take_of_length_le (by omega)
    rw [List.append_nil, e3, List.take_append_drop]
theorem blocks_flat (d : List Nat) : (blocks d).flatten = whole d := chunks 32 (nsec d) (whole d) (whole_len d)
theorem blocks_32 (d : List Nat) : ∀ s ∈ blocks d, s.length = 32 := by
  intro s hs
  obtain ⟨i, hi, rfl⟩ := List.mem_map.mp hs
  have hi := List.mem_range.mp hi
  rw [List.length_drop, List.length_take, whole_len]
  have : 32 * i + 32 ≤ 32 * nsec d := by omega
  omega
/-- reading a block -/
def rb (S : List (List Nat)) (s : Nat) : Option (List Nat × Nat) :=
  if S.length ≤ s then none else
    let size := rf ((S.getD s []).take 4)
    let e := s + (4 + size + 32 - 1) / 32
    if S.length < e then none else some ((((S.take e).drop s).flatten.take (4 + size)).drop 4, e)
theorem nsec_pos (d : List Nat) : 0 < nsec d := by unfold nsec; omega
theorem first_sec {d : List Nat} {A C : List (List Nat)} : (A ++ (blocks d ++ C)).getD A.length [] = (whole d).take 32 := by
  rw [List.getD_eq_getElem?_getD, List.getElem?_append_right (Nat.le_refl _), Nat.sub_self, List.getElem?_append_left (by rw [blocks_len]; exact nsec_pos d), blocks, List.getElem?_map, List.getElem?_range (nsec_pos d)]
  rfl
theorem size_of {d : List Nat} (h : d.length < 256 ^ 4) : rf (((whole d).take 32).take 4) = d.length := by
  have e : ((whole d).take 32).take 4 = wf d.length 4 := by
    rw [List.take_take, show min 4 32 = 4 from rfl, whole, List.append_assoc, List.take_append_of_le_length (by rw [wf_len]; exact Nat.le_refl _), List.take_of_length_le (by rw [wf_len]; exact Nat.le_refl _)]
  rw [e, rf_wf, Nat.mod_eq_of_lt h]
theorem rb_at {d : List Nat} {A C : List (List Nat)} (h : d.length < 256 ^ 4) : rb (A ++ (blocks d ++ C)) A.length = some (d, A.length + nsec d) := by
  have hl : (A ++ (blocks d ++ C)).length = A.length + (nsec d + C.length) := by rw [List.length_append, List.length_append, blocks_len]
  have hp := nsec_pos d
  unfold rb
  rw [if_neg (by omega)]
  simp only [first_sec, size_of h]
  have e1 : A.length + (4 + d.length + 32 - 1) / 32 = A.length + nsec d := by unfold nsec; omega
  rw [e1, if_neg (by omega)]
  have e2 : (((A ++ (blocks d ++ C)).take (A.length + nsec d)).drop A.length) = blocks d := by
    rw [← List.append_assoc, List.take_append_of_le_length (by rw [List.length_append, blocks_len]; exact Nat.le_refl _), List.take_of_length_le (by rw [List.length_append, blocks_len]; exact Nat.le_refl _), List.drop_left]
  rw [e2, blocks_flat]
  have e3 : ((whole d).take (4 + d.length)).drop 4 = d := by
    rw [whole, List.take_append_of_le_length (by rw [List.length_append, wf_len]; exact Nat.le_refl _), List.take_of_length_le (by rw [List.length_append, wf_len]; exact Nat.le_refl _)]
    have : (wf d.length 4 ++ d).drop 4 = d := by
      have z := List.drop_left (l₁ := wf d.length 4) (l₂ := d)
      rw [wf_len] at z
      exact z
    exact this
  rw [e3]
theorem rb_cut {d : List Nat} {A C : List (List Nat)} (h : d.length < 256 ^ 4) : rb ((A ++ (blocks d ++ C)).take (A.length + nsec d - 1)) A.length = none := by
  have hl : (A ++ (blocks d ++ C)).length = A.length + (nsec d + C.length) := by rw [List.length_append, List.length_append, blocks_len]
  have hp := nsec_pos d
  unfold rb
  have hl2 : ((A ++ (blocks d ++ C)).take (A.length + nsec d - 1)).length = A.length + nsec d - 1 := by rw [List.length_take]; omega
  by_cases c : nsec d = 1
  · rw [if_pos (by omega)]
  · rw [if_neg (by omega)]
    have e0 : ((A ++ (blocks d ++ C)).take (A.length + nsec d - 1)).getD A.length [] = (A ++ (blocks d ++ C)).getD A.length [] := by
      rw [List.getD_eq_getElem?_getD, List.getD_eq_getElem?_getD, List.getElem?_take_of_lt (by omega)]
    simp only [e0, first_sec, size_of h]
    have e1 : A.length + (4 + d.length + 32 - 1) / 32 = A.length + nsec d := by unfold nsec; omega
    rw [e1, if_pos (by omega)]
theorem rb_end (S : List (List Nat)) : rb S S.length = none := by unfold rb; rw [if_pos (Nat.le_refl _)]
/-- the law's data, its sectors -/
def dat (n : Nat) : List Nat := (List.range (n % 301)).map fun k => (n / (1 + k % 7) + 3 * k) % 256
theorem dat_len (n : Nat) : (dat n).length ≤ 300 := by rw [dat, List.length_map, List.length_range]; omega
def secs (Ds : List (List Nat)) : List (List Nat) := (Ds.map blocks).flatten
def sums (Ds : List (List Nat)) : Nat := (secs Ds).length
/-! tails -/
def tl (a b c d : Nat) : List Nat := [70, 73, 76, 69] ++ wf a 6 ++ [b] ++ wf c 4 ++ wf d 4 ++ List.replicate 13 0
theorem tl_len (a b c d : Nat) : (tl a b c d).length = 32 := by simp [tl, wf_len]
theorem wf6 (a : Nat) : ∃ x0 x1 x2 x3 x4 x5, wf a 6 = [x0, x1, x2, x3, x4, x5] ∧ lit 6 a = [x5, x4, x3, x2, x1, x0] := ⟨_, _, _, _, _, _, rfl, rfl⟩
theorem wf4 (a : Nat) : ∃ x0 x1 x2 x3, wf a 4 = [x0, x1, x2, x3] := ⟨_, _, _, _, rfl⟩
/-- what a sector tells -/
def told (s : List Nat) : Nat × Nat × Nat × Nat := (rf ((s.take 10).drop 4), s.getD 10 0, rf ((s.take 15).drop 11), rf ((s.take 19).drop 15))
def rt (s : List Nat) : Option (Nat × Nat × Nat × Nat) := if 1 < (told s).2.1 then none else if tl (told s).1 (told s).2.1 (told s).2.2.1 (told s).2.2.2 = s then some (told s) else none
theorem told_tl {a b c d : Nat} (ha : a < 2 ^ 48) (hc : c < 2 ^ 32) (hd : d < 2 ^ 32) : told (tl a b c d) = (a, b, c, d) := by
  have e1 := rf_wf 6 a
  have e2 := rf_wf 4 c
  have e3 := rf_wf 4 d
  obtain ⟨x0, x1, x2, x3, x4, x5, hx, _⟩ := wf6 a
  obtain ⟨y0, y1, y2, y3, hy⟩ := wf4 c
  obtain ⟨z0, z1, z2, z3, hz⟩ := wf4 d
  rw [Nat.mod_eq_of_lt (by simpa using ha)] at e1
  rw [Nat.mod_eq_of_lt (by simpa using hc)] at e2
  rw [Nat.mod_eq_of_lt (by simpa using hd)] at e3
  rw [hx] at e1
  rw [hy] at e2
  rw [hz] at e3
  unfold told tl
  rw [hx, hy, hz]
  show (rf [x0, x1, x2, x3, x4, x5], b, rf [y0, y1, y2, y3], rf [z0, z1, z2, z3]) = _
  rw [e1, e2, e3]
theorem rt_tl {a b c d : Nat} (ha : a < 2 ^ 48) (hb : b < 2) (hc : c < 2 ^ 32) (hd : d < 2 ^ 32) : rt (tl a b c d) = some (a, b, c, d) := by
  unfold rt
  rw [told_tl ha hc hd]
  simp only
  rw [if_neg (by omega), if_pos trivial]
/-- signs and zeros: what a tail has there -/
def fixed (p : Nat) : Nat := [70, 73, 76, 69].getD p 0
theorem tl_fixed {a b c d p : Nat} (hp : p ∈ [0, 1, 2, 3, 19, 25, 31]) : (tl a b c d).getD p 0 = fixed p := by
  obtain ⟨x0, x1, x2, x3, x4, x5, hx, _⟩ := wf6 a
  obtain ⟨y0, y1, y2, y3, hy⟩ := wf4 c
  obtain ⟨z0, z1, z2, z3, hz⟩ := wf4 d
  unfold tl
  rw [hx, hy, hz]
  simp only [List.mem_cons, List.not_mem_nil, or_false] at hp
  rcases hp with rfl | rfl | rfl | rfl | rfl | rfl | rfl <;> rfl
theorem rt_changed {s : List Nat} {p v : Nat} (hp : p ∈ [0, 1, 2, 3, 19, 25, 31]) (hl : s.length = 32) (hv : v ≠ fixed p) : rt (s.set p v) = none := by
  unfold rt
  split
  · rfl
  · rw [if_neg]
    intro e
    have z := tl_fixed (a := (told (s.set p v)).1) (b := (told (s.set p v)).2.1) (c := (told (s.set p v)).2.2.1) (d := (told (s.set p v)).2.2.2) hp
    rw [e, List.getD_eq_getElem?_getD, List.getElem?_set_self (by simp only [List.mem_cons, List.not_mem_nil, or_false] at hp; omega)] at z
    exact hv z
theorem rt_area {s : List Nat} {v : Nat} (hl : s.length = 32) (hv : 1 < v) : rt (s.set 10 v) = none := by
  unfold rt
  have e : (told (s.set 10 v)).2.1 = v := by
    show (s.set 10 v).getD 10 0 = v
    rw [List.getD_eq_getElem?_getD, List.getElem?_set_self (by omega)]
    rfl
  rw [e, if_pos hv]
theorem rt_zero : rt (List.replicate 32 0) = none := by decide
def starts (Ds : List (List Nat)) : List Nat := (List.range Ds.length).map fun i => sums (Ds.take i)
theorem secs_app (A B : List (List Nat)) : secs (A ++ B) = secs A ++ secs B := by unfold secs; rw [List.map_append, List.flatten_append]
theorem secs_one (d : List Nat) : secs [d] = blocks d := by unfold secs; simp
theorem starts_snoc (Ds : List (List Nat)) (d : List Nat) : starts (Ds ++ [d]) = starts Ds ++ [sums Ds] := by
  unfold starts
  rw [List.length_append, List.length_singleton, List.range_succ, List.map_append]
  congr 1
  · refine List.map_congr_left fun i hi => ?_
    rw [List.take_append_of_le_length (Nat.le_of_lt (List.mem_range.mp hi))]
  · simp
theorem secs_32 (Ds : List (List Nat)) : ∀ x ∈ secs Ds, x.length = 32 := fun x hx => by
  obtain ⟨B, hB, hx⟩ := List.mem_flatten.mp hx
  obtain ⟨d, _, rfl⟩ := List.mem_map.mp hB
  exact blocks_32 d x hx
theorem nsec_le {d : List Nat} (h : d.length ≤ 300) : nsec d ≤ 10 := by unfold nsec; omega
theorem sums_le : ∀ {Ds : List (List Nat)}, (∀ d ∈ Ds, d.length ≤ 300) → sums Ds ≤ 10 * Ds.length
  | [], _ => Nat.le_refl _
  | d :: Ds, h => by
    have ih := sums_le (Ds := Ds) fun e he => h e (List.mem_cons_of_mem _ he)
    have h1 := nsec_le (h d (List.mem_cons_self ..))
    unfold sums at ih ⊢
    rw [show d :: Ds = [d] ++ Ds from rfl, secs_app, secs_one, List.length_append, blocks_len, List.length_append, List.length_singleton]
    omega
/-- the k-th block among others -/
theorem rb_k {Ds : List (List Nat)} {k : Nat} (h : ∀ d ∈ Ds, d.length ≤ 300) (hk : k < Ds.length) :
    rb (secs Ds) (sums (Ds.take k)) = some (Ds[k], sums (Ds.take (k + 1))) ∧ rb ((secs Ds).take (sums (Ds.take (k + 1)) - 1)) (sums (Ds.take k)) = none ∧ 0 < sums (Ds.take (k + 1)) := by
  have e1 : Ds = Ds.take k ++ (Ds[k] :: Ds.drop (k + 1)) := by rw [← List.drop_eq_getElem_cons hk, List.take_append_drop]
  have e2 : secs Ds = secs (Ds.take k) ++ (blocks Ds[k] ++ secs (Ds.drop (k + 1))) := by
    conv => lhs; rw [e1]
    rw [secs_app, show Ds[k] :: Ds.drop (k + 1) = [Ds[k]] ++ Ds.drop (k + 1) from rfl, secs_app, secs_one]
  have e3 : sums (Ds.take (k + 1)) = sums (Ds.take k) + nsec Ds[k] := by
    have : Ds.take (k + 1) = Ds.take k ++ [Ds[k]] := by rw [List.take_add_one, List.getElem?_eq_getElem hk]; rfl
    unfold sums
    rw [this, secs_app, secs_one, List.length_append, blocks_len]
  have hd : Ds[k].length < 256 ^ 4 := Nat.lt_of_le_of_lt (h _ (List.getElem_mem hk)) (by decide)
  have hp := nsec_pos Ds[k]
  refine ⟨?_, ?_, by omega⟩
  · rw [e2, e3]
    exact rb_at hd
  · rw [e2, e3]
    exact rb_cut hd
/-! ### _law_draw: some number that is not negative, by the script -/
def sp_draw (K : PySem.W.Frag) : Sp := fun vs H Q _ => ∃ (a : Addr) (ns : List Int) (k : Int), vs = [.ref a, .int k] ∧ SqL K H a (ns.map V.int) ∧ ns.length ≤ 63 ∧ 0 ≤ k ∧ ∀ d : Nat, d < 2147483648 → Q (.int d) H
theorem draw_lt {x m : Int} (h : 0 < m) (hm : m ≤ 2147483648) : ∃ d : Nat, x % m = (d : Int) ∧ d < 2147483648 := by
  have h1 := Int.emod_nonneg x (by omega : m ≠ 0)
  have h2 := Int.emod_lt_of_pos x h
  exact ⟨(x % m).toNat, by omega, by omega⟩
section
variable {P : Program} {w : World} {K : PySem.W.Frag} {mg : Str → Option Value} {base : Heap}
theorem ok_law_draw (T : Txt K mg) : Cal P w K mg base 1 "_law_draw" (sp_draw K) [] := by
  refine T.f_law_draw.cal sc_law_draw bd_law_draw (fun vs H Q E h => ?_) fun f cdv A outer s H vs Q E hr h => ?_
  · obtain ⟨a, ns, k, rfl, _⟩ := h; rfl
  obtain ⟨a, ns, k, rfl, hS, hl, hk, q⟩ := h
  have hlen : (ns.map V.int).length = ns.length := List.length_map _
  refine ⟨_, (pss_cons (ps_if (pt_not (pt_truthK K (pv 0) (by intro _; rfl))) (pss_one (ps_ret (pe_op op_mod (pe_op op_mul (pv 1) pe_int) pe_int))) pss_nil)
      (pss_cons (ps_set (i := 2) sc_law_draw.nd rfl (Or.inl rfl) (pe_callTy call_int1q (by rfl) T.z_int (by decide +kernel) (pa_cons (pe_ix (ix_listK K) (pv 0) (pe_op op_mod (pv 1) (pe_callB (call_lenK K) (by rfl) T.z_len (by decide +kernel) (pa_cons (pv 0) pa_nil))) (fun _ _ => rfl)) pa_nil)))
      (pss_cons (ps_set (i := 3) sc_law_draw.nd rfl (Or.inl rfl) (pe_op op_fdiv (pv 1) (pe_callB (call_lenK K) (by rfl) T.z_len (by decide +kernel) (pa_cons (pv 0) pa_nil))))
      (pss_cons (ps_if (pt_cmpR op_ge (pv 2) pe_int (nomark _)) (pss_cons (ps_for PassesOwn.never rfl (pi_range1 rfl T.z_range (pa_cons (pe_callB (call_min2q rfl) (by rfl) T.z_min (by decide +kernel) (pa_cons (pv 3) (pa_cons pe_int pa_nil))) pa_nil)) (pg_name (i := 4) sc_law_draw.nd rfl (Or.inl rfl))
      (pss_one (ps_set (i := 2) sc_law_draw.nd rfl (Or.inl rfl) (pe_op op_fdiv (pv 2) pe_int))))
      (pss_one (ps_ret (pe_op op_mod (pv 2) pe_int)))) pss_nil)
      (pss_one (ps_ret (pe_op op_mod (pe_op op_mul (pe_op op_mod (pe_op op_add (pe_op op_add (pe_op op_mul (pv 2) pe_int) (pe_op op_mul (pv 1) pe_int)) pe_int) pe_int) pe_int) pe_int))))))), ?_⟩
  walk_at "k"
  walk_at "rd"
  refine ⟨!(ns.map V.int).isEmpty, .inl ⟨_, hS, rfl⟩, ?_⟩
  cases ns with
  | nil =>
    walk_at "rd"
    refine iteNF ?_
    walk_at "rd"
    obtain ⟨d, e, hd⟩ := draw_lt (x := k * 5) (m := 7) (by decide) (by decide)
    rw [e]
    exact q d hd
  | cons n ns =>
    refine iteNT ?_
    walk_at "rd"
    rw [hlen]
    have hL : 0 < (n :: ns).length := Nat.succ_pos _
    have h1 := Int.emod_nonneg k (by omega : (((n :: ns).length : Nat) : Int) ≠ 0)
    have h2 := Int.emod_lt_of_pos k (by omega : (0 : Int) < (((n :: ns).length : Nat) : Int))
    obtain ⟨z, hz, _⟩ := atI_int (ns := n :: ns) h1 h2
    walk_at "rd"
    refine rd_ixL hS hz ?_
    walk_at "rd"
    rw [hlen]
    walk_at "rd"
    refine rd_ite (fun c => ?_) (fun c => ?_)
    · have c' := of_decide_eq_true c
      walk_at "rd"
      refine ⟨_, 60, rfl, ?_⟩
      generalize hm : (if (60 : Int) < k / ((n :: ns).length : Nat) then (60 : Int) else k / ((n :: ns).length : Nat)) = m
      have hm' : m ≤ 60 := by rw [← hm]; split <;> omega
      have hm0 : 0 ≤ m := by
        rw [← hm]
        split
        · omega
        · exact Int.ediv_nonneg hk (by omega)
      refine rd_rng (by omega) (by omega) ?_
      refine q_range (fun i σ H' => ∃ (c : Int) (x : Option V), σ = [some (.ref a), some (.int k), some (.int c), some (.int (k / ((n :: ns).length : Nat))), x] ∧ H' = H ∧ 0 ≤ c) ⟨z, none, rfl, rfl, Int.le_trans (by decide) c'⟩ ?_ ?_
      · rintro i σ H' hi ⟨c, x, rfl, rfl, hc⟩
        walk_at "rd"
        exact ⟨_, _, rfl, rfl, Int.ediv_nonneg hc (by decide)⟩
      · rintro σ H' ⟨c, x, rfl, rfl, hc⟩
        walk_at "rd"
        obtain ⟨d, e, hd⟩ := draw_lt (x := c) (m := 100003) (by decide) (by decide)
        rw [e]
        exact q d hd
    · walk_at "rd"
      obtain ⟨d, e, hd⟩ := draw_lt (x := (z * 48271 + k * 69621 + 13) % 2147483647 * 16807) (m := 2147483629) (by decide) (by decide)
      rw [e]
      exact q d hd
theorem rd_draw {a : Addr} {ns : List Int} {k : Int} {H : Hp} {Q : VK} {E : XK} (hS : SqL K H a (ns.map V.int)) (hl : ns.length ≤ 63) (hk : 0 ≤ k) (q : ∀ d : Nat, d < 2147483648 → Q (.int d) H) : sp_draw K ([.ref a, .int k] ++ []) H Q E := ⟨a, ns, k, rfl, hS, hl, hk, q⟩
end
/-! ### promises -/
abbrev nV (ns : List Nat) : List V := ns.map fun n : Nat => V.int n
def sp_wf : Sp := fun vs H Q _ => ∃ (M : List Addr) (n c : Nat), vs = [.int n, .int c] ∧ c ≤ 100 ∧ Al M H ∧ ∀ v H', Ext [] H H' → Is M H' v (nats (wf n c)) → Q v H'
def sp_rf : Sp := fun vs H Q _ => ∃ (M : List Addr) (a : Addr) (ns : List Nat), vs = [.ref a] ∧ Is M H (.ref a) (nats ns) ∧ Q (.int (rf ns)) H
section
variable {P : Program} {w : World} {K : PySem.W.Frag} {mg : Str → Option Value} {base : Heap}
theorem ok_write_fixed (T : Txt K mg) : Cal P w K mg base 1 "write_fixed" sp_wf [] := by
  refine T.f_write_fixed.cal sc_write_fixed bd_write_fixed (fun vs H Q E h => ?_) fun f cdv A outer s H vs Q E hr h => ?_
  · obtain ⟨M, n, c, rfl, _⟩ := h; rfl
  obtain ⟨M, n, c, rfl, hc, hM, q⟩ := h
  refine ⟨_, (pss_cons (ps_set (i := 2) sc_write_fixed.nd rfl (Or.inl rfl) (pe_lst pa_nil))
      (pss_cons (ps_for PassesOwn.never rfl (pi_range1 rfl T.z_range (pa_cons (pv 1) pa_nil)) (pg_name (i := 3) sc_write_fixed.nd rfl (Or.inl rfl))
      (pss_cons (ps_expr (pe_bm PySem.F.plainAttrs_list PySem.F.slot_list_append PySem.F.type_list_append mt_append (pv 2) (pa_cons (pe_op op_mod (pv 0) pe_int) pa_nil)))
      (pss_one (ps_set (i := 0) sc_write_fixed.nd rfl (Or.inl rfl) (pe_op op_fdiv (pv 0) pe_int)))))
      (pss_one (ps_ret (pe_revLK K (pv 2)))))), ?_⟩
  walk_at "k"
  walk_at "rd"
  refine ⟨szl (by simp), fun p hp => ?_⟩
  walk_at "rd"
  refine q_range (fun i σ H' => ∃ (x : Option V), σ = [some (.int ((n / 256 ^ i : Nat) : Int)), some (.int c), some (.ref p), x] ∧ Ext [] H H' ∧ H' p = some (.lst (nV (lit i n)))) ⟨none, by rw [Nat.pow_zero, Nat.div_one] <;> rfl, .new hp, upd_same⟩ ?_ ?_
  · rintro i σ H' hi ⟨x, rfl, e, hx⟩
    walk_at "rd"
    refine rd_app hx ?_
    walk_at "rd"
    refine ⟨_, hx, szl' (by rw [List.length_map, lit_len]; omega), ?_⟩
    walk_at "rd"
    have e1 : ((n / 256 ^ i : Nat) : Int) / 256 = ((n / 256 ^ (i + 1) : Nat) : Int) := by rw [Nat.pow_succ, ← Nat.div_div_eq_div_mul]; rfl
    rw [e1]
    refine ⟨_, rfl, e.mut hp, ?_⟩
    rw [upd_same, lit_snoc]
    show some (HO.lst (nV (lit i n) ++ _)) = some (HO.lst (List.map _ _))
    rw [List.map_append]
    rfl
  · rintro σ H' ⟨x, rfl, e, hx⟩
    walk_at "rd"
    refine rd_revd (SqL.of hx) fun r hr => ?_
    refine q _ _ (e.trans (.new hr)) (new_lst (hM.ext e) ?_ hr)
    rw [nV, ← List.map_reverse]
    exact nats_V _
theorem ok_read_fixed (T : Txt K mg) : Cal P w K mg base 1 "read_fixed" sp_rf [] := by
  refine T.f_read_fixed.cal sc_read_fixed bd_read_fixed (fun vs H Q E h => ?_) fun f cdv A outer s H vs Q E hr h => ?_
  · obtain ⟨M, a, ns, rfl, _⟩ := h; rfl
  obtain ⟨M, a, ns, rfl, hI, q⟩ := h
  refine ⟨_, (pss_cons (ps_set (i := 1) sc_read_fixed.nd rfl (Or.inl rfl) pe_int)
      (pss_cons (ps_for PassesOwn.never rfl (pi_listK K (pv 0)) (pg_name (i := 2) sc_read_fixed.nd rfl (Or.inl rfl))
      (pss_one (ps_set (i := 1) sc_read_fixed.nd rfl (Or.inl rfl) (pe_op op_add (pe_op op_mul (pv 1) pe_int) (pv 2)))))
      (pss_one (ps_ret (pv 1))))), ?_⟩
  walk_at "k"
  walk_at "rd"
  refine q_data hI (fun i σ H' => ∃ (x : Option V), σ = [some (.ref a), some (.int (rf (ns.take i))), x] ∧ H' = H) ⟨none, rfl, rfl⟩ (fun i σ H' ⟨_, _, e⟩ => by rw [e]; exact .refl) ?_ ?_
  · rintro i d x σ H' hi hd ⟨y, rfl, rfl⟩
    rw [List.getElem?_map] at hi
    cases hn : ns[i]? with
    | none => rw [hn] at hi; cases hi
    | some b =>
      rw [hn] at hi
      cases hi
      cases hd
      walk_at "rd"
      have e : ns.take (i + 1) = ns.take i ++ [b] := by rw [List.take_add_one, hn]; rfl
      have e2 : rf (ns.take (i + 1)) = rf (ns.take i) * 256 + b := by rw [e, rf, List.foldl_append]; rfl
      rw [e2]
      exact ⟨_, rfl, rfl⟩
  · rintro σ H' ⟨y, rfl, rfl⟩
    rw [List.length_map, List.take_length]
    walk_at "rd"
    exact q
def sp_int1 (f : Int → Int) : Sp := fun vs H Q _ => ∃ n : Int, vs = [.int n] ∧ Q (.int (f n)) H
def sp_int2 (f : Int → Int → Int) : Sp := fun vs H Q _ => ∃ n m : Int, vs = [.int n, .int m] ∧ Q (.int (f n m)) H
theorem ok_area_size (T : Txt K mg) : Cal P w K mg base 1 "area_size" (sp_int1 fun n => (n - 2) / 4) [] := by
  refine T.f_area_size.cal sc_area_size bd_area_size (fun vs H Q E h => ?_) fun f cdv A outer s H vs Q E hr h => ?_
  · obtain ⟨n, rfl, _⟩ := h; rfl
  obtain ⟨n, rfl, q⟩ := h
  refine ⟨_, (pss_one (ps_ret (pe_op op_fdiv (pe_op op_sub (pv 0) pe_int) pe_int))), ?_⟩
  walk_at "k"
  walk_at "rd"
  exact q
def CMulS (x : Int) : Prop := -(2 ^ 64) < x ∧ x < 2 ^ 64
def sp_start : Sp := fun vs H Q _ => ∃ n m : Int, vs = [.int n, .int m] ∧ (-(2 ^ 64) < m ∧ m < 2 ^ 64) ∧ Q (.int (2 + m * ((n - 2) / 4))) H
theorem ok_area_start (T : Txt K mg) : Cal P w K mg base 2 "area_start" sp_start [] := by
  refine T.f_area_start.cal sc_area_start bd_area_start (fun vs H Q E h => ?_) fun f cdv A outer s H vs Q E hr h => ?_
  · obtain ⟨n, m, rfl, _⟩ := h; rfl
  obtain ⟨n, m, rfl, hm, q⟩ := h
  refine ⟨_, (pss_one (ps_ret (pe_op op_add pe_int (pe_op op_mul (pv 1) (pe_c (ok_area_size T) hr (by decide) rfl (pa_cons (pv 0) pa_nil)))))), ?_⟩
  walk_at "k"
  walk_at "rd"
  refine ⟨n, rfl, ?_⟩
  walk_at "rd"
  exact q
theorem ok_region_start (T : Txt K mg) : Cal P w K mg base 2 "region_start" (sp_int1 fun n => 2 + 2 * ((n - 2) / 4)) [] := by
  refine T.f_region_start.cal sc_region_start bd_region_start (fun vs H Q E h => ?_) fun f cdv A outer s H vs Q E hr h => ?_
  · obtain ⟨n, rfl, _⟩ := h; rfl
  obtain ⟨n, rfl, q⟩ := h
  refine ⟨_, (pss_one (ps_ret (pe_op op_add pe_int (pe_op op_mul pe_int (pe_c (ok_area_size T) hr (by decide) rfl (pa_cons (pv 0) pa_nil)))))), ?_⟩
  walk_at "k"
  walk_at "rd"
  refine ⟨n, rfl, ?_⟩
  walk_at "rd"
  exact q
theorem ok_stripe_count (T : Txt K mg) : Cal P w K mg base 3 "stripe_count" (sp_int1 fun n => n - (2 + 2 * ((n - 2) / 4))) [] := by
  refine T.f_stripe_count.cal sc_stripe_count bd_stripe_count (fun vs H Q E h => ?_) fun f cdv A outer s H vs Q E hr h => ?_
  · obtain ⟨n, rfl, _⟩ := h; rfl
  obtain ⟨n, rfl, q⟩ := h
  refine ⟨_, (pss_one (ps_ret (pe_op op_sub (pv 0) (pe_c (ok_region_start T) hr (by decide) rfl (pa_cons (pv 0) pa_nil))))), ?_⟩
  walk_at "k"
  walk_at "rd"
  refine ⟨n, rfl, ?_⟩
  walk_at "rd"
  exact q
def sp_log : Sp := fun vs H Q _ => ∃ (M : List Addr) (a : Addr) (ns : List Nat), vs = [.ref a] ∧ Is M H (.ref a) (nats ns) ∧ ns.length ≤ 300 ∧ Al M H ∧ ∀ v H', Ext [] H H' → Is M H' v (.list ((blocks ns).map nats)) → Q v H'
theorem ok_log_block (T : Txt K mg) : Cal P w K mg base 2 "log_block" sp_log [] := by
  refine T.f_log_block.cal sc_log_block bd_log_block (fun vs H Q E h => ?_) fun f cdv A outer s H vs Q E hr h => ?_
  · obtain ⟨M, a, ns, rfl, _⟩ := h; rfl
  obtain ⟨M, a, ns, rfl, hI, hl, hM, q⟩ := h
  refine ⟨_, (pss_cons (ps_set (i := 0) sc_log_block.nd rfl (Or.inr rfl) (pe_op op_cat (pe_c (ok_write_fixed T) hr (by decide) rfl (pa_cons (pe_callB (call_lenK K) (by rfl) T.z_len (by decide +kernel) (pa_cons (pv 0) pa_nil)) (pa_cons pe_int pa_nil))) (pe_callTy (call_listK K) (by rfl) T.z_list (by decide +kernel) (pa_cons (pv 0) pa_nil))))
      (pss_cons (ps_expr (pe_bm PySem.F.plainAttrs_list PySem.F.slot_list_extend PySem.F.type_list_extend mt_extend (pv 0) (pa_cons (pe_lc (own := [("_", 1)]) (g := gName 1) (tt := tYes) rfl sc_log_block.nd (pi_range1 rfl T.z_range (pa_cons (pe_op op_mod (pe_un un_neg (pe_callB (call_lenK K) (by rfl) T.z_len (by decide +kernel) (pa_cons (pv 0) pa_nil))) (pe_gc (by rfl) T.g_SECTOR)) pa_nil)) (blkOk_by (own := [("_", 1)]) (N := nm_log_block) (sc := defScope s_log_block) (by decide +kernel)) (fun _ _ _ _ _ => (pg_name (i := 1) sc_log_block.nd rfl (Or.inl rfl))) (fun _ _ _ _ _ => pts_nil) (fun _ _ _ _ _ => pe_int)) pa_nil)))
      (pss_one (ps_ret (pe_lc (own := [("start", 2)]) (g := gName 2) (tt := tYes) rfl sc_log_block.nd (pi_range3 rfl T.z_range (pa_cons pe_int (pa_cons (pe_callB (call_lenK K) (by rfl) T.z_len (by decide +kernel) (pa_cons (pv 0) pa_nil)) (pa_cons (pe_gc (by rfl) T.g_SECTOR) pa_nil)))) (blkOk_by (own := [("start", 2)]) (N := nm_log_block) (sc := defScope s_log_block) (by decide +kernel)) (fun _ _ _ _ _ => (pg_name (i := 2) sc_log_block.nd rfl (Or.inl rfl))) (fun _ _ _ _ _ => pts_nil) (fun _ _ _ _ _ => (pe_slice (sl_listK K) (pv 0) (po_some (pv 2)) (po_some (pe_op op_add (pv 2) (pe_gc (by rfl) T.g_SECTOR)))))))))), ?_⟩
  walk_at "k"
  walk_at "rd"
  rw [List.length_map]
  refine ⟨M, ns.length, 4, rfl, by decide, hM, fun v1 H1 e1 i1 => ?_⟩
  obtain ⟨a1, xs1, rfl, _, h1, r1⟩ := i1.listV
  walk_at "rd"
  have hI1 := hI.mono e1.any
  refine rd_dlist (hM.ext e1) hI1 fun p2 H2 hp2 e2 _ i2 => ?_
  have s2 := (hM.ext e1).ext e2
  refine rd_dcat s2 (i1.mono e2.any) i2 (by simp [wf_len]; omega) fun p H3 hp e3 ⟨xs, h3, r3⟩ _ => ?_
  have hlx : xs.length = 4 + ns.length := by rw [r3.length]; simp [wf_len]
  have s3 : Al (p :: M) H3 := .cons (some_ne h3) (s2.ext e3)
  walk_at "rd"
  refine ⟨.inl ⟨rfl, _, SqL.of h3⟩, ?_⟩
  walk_at "rd"
  intro D hD
  refine q_lcR (M := p :: M) (fun _ => .int 0) s3 hD (by omega) (fun _ => rfl) (fun i H' hi _ e R k => k _ _ .refl (.int 0)) fun H4 e4 i4 => ?_
  walk_at "rd"
  obtain ⟨zs, _, h4, r4⟩ := i4.list
  have hlz : zs.length = (-(xs.length : Int) % 32).toNat := by rw [r4.length, List.length_map, List.length_range]
  have h34 := e4.keep _ _ (fun q => nomatch q) h3
  refine rd_ext h34 h4 (by rw [hlx, hlz]; omega) ?_
  walk_at "rd"
  have ew : whole ns = (wf ns.length 4 ++ ns) ++ List.replicate (-(xs.length : Int) % 32).toNat 0 := by
    unfold whole
    congr 2
    rw [hlx]
    omega
  have np : p ∉ M := s2.fresh hp
  have hp0 : H p = none := (e1.trans e2).free hp
  have e5 : Ext [] H (upd H4 p (.lst (xs ++ zs))) := (((e1.trans e2).trans e3).trans e4).mut hp0
  have i5 : Is M (upd H4 p (.lst (xs ++ zs))) (.ref p) (nats (whole ns)) := by
    have r := ((r3.mono e4.any).append r4).mono (H' := upd H4 p (.lst (xs ++ zs))) (.set (List.mem_cons_self ..))
    refine .lst np upd_same ?_
    rw [ew, List.map_append, List.map_append, List.map_replicate]
    rw [List.map_const'] at r
    rw [List.length_range] at r
    exact r.on
  have hl5 : (xs ++ zs).length = 32 * nsec ns := by
    rw [← whole_len, ← List.length_map (f := fun n : Nat => PyData.int n)]
    obtain ⟨ys, _, hy, ry⟩ := i5.list
    rw [upd_same] at hy
    cases hy
    exact ry.length
  have hn5 : nsec ns ≤ 10 := by unfold nsec; omega
  rw [hl5]
  refine ⟨_, _, _, _, rfl, rgC_up (by decide) (by decide) (by omega) (by omega) (by omega) (by omega), ?_⟩
  have en : (if (0 : Int) < ((32 * nsec ns : Nat) : Int) then (((32 * nsec ns : Nat) : Int) - 0 - 1) / 32 + 1 else 0).toNat = nsec ns := by
    have := nsec_pos ns
    rw [if_pos (by omega)]
    omega
  rw [en]
  intro D2 hD2
  refine q_lcC (M := M) (fun i => nats (((whole ns).take (32 * i + 32)).drop (32 * i))) (hM.ext e5) hD2 (by omega) (fun _ => rfl) (fun i H' hi sD e R k => ?_) fun H6 e6 i6 => ?_
  · walk_at "rd"
    refine rd_cut (l := 32 * i) (h := 32 * i + 32) sD ((i5.off hD2).mono e.any) (by omega) (by omega) fun p H'' hp e' _ i' => ?_
    rw [map_cut] at i'
    exact k _ _ e' i'
  · have e : ((List.range (nsec ns)).map fun i => nats (((whole ns).take (32 * i + 32)).drop (32 * i))) = (blocks ns).map nats := by rw [blocks, List.map_map]; rfl
    rw [e] at i6
    exact q _ _ (e5.trans e6) i6
/-- a new tuple of a new list and a number -/
def sp_rb : Sp := fun vs H Q _ => ∃ (M : List Addr) (a : Addr) (S : List (List Nat)) (st : Nat), vs = [.ref a, .int st] ∧ Is M H (.ref a) (.list (S.map nats)) ∧ S.length ≤ 100 ∧ (∀ x ∈ S, x.length = 32) ∧ Al M H ∧
  (rb S st = none → ∀ H', Ext [] H H' → Q .non H') ∧ ∀ d e, rb S st = some (d, e) → ∀ t l H', Ext [] H H' → H l = none → H t = none → l ≠ t → H' l = some (.lst (nV d)) → H' t = some (.tup [.ref l, .int e]) → Q (.ref t) H'
theorem ok_read_block (T : Txt K mg) : Cal P w K mg base 2 "read_block" sp_rb [] := by
  refine T.f_read_block.cal sc_read_block bd_read_block (fun vs H Q E h => ?_) fun f cdv A outer s H vs Q E hr h => ?_
  · obtain ⟨M, a, S, st, rfl, _⟩ := h; rfl
  obtain ⟨M, a, S, st, rfl, hI, hl, h32, hM, q1, q2⟩ := h
  refine ⟨_, (pss_cons (ps_if (pt_cmpR op_ge (pv 1) (pe_callB (call_lenK K) (by rfl) T.z_len (by decide +kernel) (pa_cons (pv 0) pa_nil)) (nomark _)) (pss_one (ps_ret pe_non)) pss_nil)
      (pss_cons (ps_set (i := 2) sc_read_block.nd rfl (Or.inl rfl) (pe_c (ok_read_fixed T) hr (by decide) rfl (pa_cons (pe_slice (sl_listK K) (pe_ix (ix_listK K) (pv 0) (pv 1) (fun _ _ => rfl)) po_none (po_some pe_int)) pa_nil)))
      (pss_cons (ps_set (i := 3) sc_read_block.nd rfl (Or.inl rfl) (pe_op op_add (pv 1) (pe_op op_fdiv (pe_op op_sub (pe_op op_add (pe_op op_add pe_int (pv 2)) (pe_gc (by rfl) T.g_SECTOR)) pe_int) (pe_gc (by rfl) T.g_SECTOR))))
      (pss_cons (ps_if (pt_cmpR op_gt (pv 3) (pe_callB (call_lenK K) (by rfl) T.z_len (by decide +kernel) (pa_cons (pv 0) pa_nil)) (nomark _)) (pss_one (ps_ret pe_non)) pss_nil)
      (pss_cons (ps_set (i := 4) sc_read_block.nd rfl (Or.inl rfl) (pe_lst pa_nil))
      (pss_cons (ps_for PassesOwn.never rfl (pi_listK K (pe_slice (sl_listK K) (pv 0) (po_some (pv 1)) (po_some (pv 3)))) (pg_name (i := 5) sc_read_block.nd rfl (Or.inl rfl))
      (pss_one (ps_expr (pe_bm PySem.F.plainAttrs_list PySem.F.slot_list_extend PySem.F.type_list_extend mt_extend (pv 4) (pa_cons (pv 5) pa_nil)))))
      (pss_one (ps_ret (pe_tup (pa_cons (pe_slice (sl_listK K) (pv 4) (po_some pe_int) (po_some (pe_op op_add pe_int (pv 2)))) (pa_cons (pv 3) pa_nil))))))))))), ?_⟩
  walk_at "k"
  walk_at "rd"
  rw [List.length_map]
  refine rd_ite (fun c => ?_) (fun c => ?_)
  · have c' := of_decide_eq_true c
    walk_at "rd"
    exact q1 (by unfold rb; rw [if_pos (by omega)]) _ .refl
  have c' := of_decide_eq_false c
  walk_at "rd"
  have hst : st < S.length := by omega
  refine rd_dix (j := st) (d := nats S[st]) hI rfl (by rw [List.getElem?_map, List.getElem?_eq_getElem hst]; rfl) fun v iv => ?_
  obtain ⟨b, xb, rfl, _, _, _⟩ := iv.listV
  walk_at "rd"
  refine rd_cut0 (h := 4) hM iv rfl fun p1 H1 hp1 e1 _ i1 => ?_
  walk_at "rd"
  rw [← List.map_take] at i1
  refine ⟨M, p1, S[st].take 4, rfl, i1, ?_⟩
  walk_at "rd"
  have hgd : S.getD st [] = S[st] := by rw [List.getD_eq_getElem?_getD, List.getElem?_eq_getElem hst]; rfl
  generalize hsz : rf (S[st].take 4) = size
  have hI1 := hI.mono e1.any
  walk_at "rd"
  rw [List.length_map]
  have ee : (st : Int) + (4 + (size : Int) + 32 - 1) / 32 = ((st + (4 + size + 32 - 1) / 32 : Nat) : Int) := by omega
  rw [ee]
  generalize hend : st + (4 + size + 32 - 1) / 32 = en
  refine rd_ite (fun c2 => ?_) (fun c2 => ?_)
  · have c2' := of_decide_eq_true c2
    walk_at "rd"
    refine q1 ?_ _ e1
    unfold rb
    rw [if_neg (by omega), hgd, hsz]
    simp only [hend]
    rw [if_pos (by omega)]
  have c2' := of_decide_eq_false c2
  have hrb : rb S st = some ((((S.take en).drop st).flatten.take (4 + size)).drop 4, en) := by
    unfold rb
    rw [if_neg (by omega), hgd, hsz]
    simp only [hend]
    rw [if_neg (by omega)]
  walk_at "rd"
  refine ⟨szl (by simp), fun p hp => ?_⟩
  walk_at "rd"
  have e2 : Ext [] H (upd H1 p (.lst [])) := e1.trans (.new hp)
  have s2 : Al (p :: M) (upd H1 p (.lst [])) := .cons upd_there (hM.ext e2)
  refine rd_cut (l := st) (h := en) s2 (hI1.beside hp) rfl rfl fun p2 H2 hp2 e3 _ i2 => ?_
  walk_at "rd"
  rw [← List.map_take, ← List.map_drop] at i2
  have e23 := e2.trans e3
  have hp0 : H p = none := e1.free hp
  have hF : ∀ x ∈ (S.take en).drop st, x.length = 32 := fun x hx => h32 x (List.mem_of_mem_take (List.mem_of_mem_drop hx))
  have hFl : ((S.take en).drop st).length ≤ 100 := by rw [List.length_drop, List.length_take]; omega
  generalize hG : (S.take en).drop st = G at hF i2 hFl hrb
  have hfl : ∀ i, ((G.take i).flatten).length ≤ 3200 := fun i => by
    have z : ∀ L : List (List Nat), (∀ x ∈ L, x.length = 32) → L.flatten.length = 32 * L.length := fun L hL => by
      rw [List.length_flatten, List.map_congr_left (g := fun _ => 32) hL, List.map_const', List.sum_replicate_nat]
      omega
    rw [z _ fun x hx => hF x (List.mem_of_mem_take hx), List.length_take]
    omega
  refine q_data (M := p :: M) (H0 := H2) i2 (fun i σ H' => ∃ x : Option V, σ = [some (.ref a), some (.int st), some (.int size), some (.int en), some (.ref p), x] ∧ Ext [p] H2 H' ∧ H' p = some (.lst (nV (G.take i).flatten))) ⟨none, rfl, .refl, e3.keep _ _ (fun q => nomatch q) upd_same⟩ (fun i σ H' ⟨_, _, e, _⟩ => e.more (by simp)) ?_ ?_
  · rintro i d x σ H' hi hd ⟨y, rfl, e, hx⟩
    rw [List.getElem?_map] at hi
    cases hg : G[i]? with
    | none => rw [hg] at hi; cases hi
    | some g =>
      rw [hg] at hi
      cases hi
      obtain ⟨b', zs, rfl, _, hb, rb'⟩ := hd.listV
      walk_at "rd"
      refine ⟨.inl ⟨rfl, _, SqL.of hx⟩, ?_⟩
      walk_at "rd"
      have hz : zs = nV g := by
        have z := rb'.length
        have rb2 : IsAll (p :: M) H' zs ((g.map fun n : Nat => (n : Int)).map PyData.int) := by rw [List.map_map]; exact rb'
        rw [rb2.ofInts, List.map_map]
        rfl
      have h1 := hfl i
      have h2 := hF g (List.mem_of_getElem? hg)
      refine rd_ext hx hb (by rw [hz, List.length_map, List.length_map]; omega) ?_
      walk_at "rd"
      refine ⟨_, rfl, e.trans (.set (by simp)), ?_⟩
      have et : G.take (i + 1) = G.take i ++ [g] := by rw [List.take_add_one, hg]; rfl
      rw [upd_same, hz, et, List.flatten_append, nV, nV, nV, List.map_append]
      simp
  · rintro σ H' ⟨y, rfl, e, hx⟩
    rw [List.length_map, List.take_length] at hx
    walk_at "rd"
    refine ⟨p, _, rfl, SqL.of hx, fun l hl' => ?_⟩
    walk_at "rd"
    refine ⟨szl (by simp), fun t ht => ?_⟩
    have e4 : Ext [] H H' := ((e23.any (M := [p])).trans e).drop hp0
    have htl : t ≠ l := fun e => by rw [e, upd_same] at ht; cases ht
    have ht' : H' t = none := by rw [upd_ne htl] at ht; exact ht
    refine q2 _ _ hrb t l _ (e4.trans ((Ext.new hl').trans (.new ht))) (e4.free hl') (e4.free ht') htl.symm ?_ upd_same
    rw [upd_ne htl.symm, upd_same]
    have ec : ((4 : Int) + (size : Int)) = ((4 + size : Nat) : Int) := by omega
    rw [ec]
    have z := cut_nn (nV G.flatten) 4 (4 + size)
    rw [show ((4 : Nat) : Int) = 4 from rfl] at z
    rw [z, nV, nV, ← List.map_take, ← List.map_drop]
def sp_tail : Sp := fun vs H Q _ => ∃ (M : List Addr) (a b c d : Nat), vs = [.int a, .int b, .int c, .int d] ∧ Al M H ∧ ∀ v H', Ext [] H H' → Is M H' v (nats (tl a b c d)) → Q v H'
theorem ok_tail (T : Txt K mg) : Cal P w K mg base 2 "tail" sp_tail [] := by
  refine T.f_tail.cal sc_tail bd_tail (fun vs H Q E h => ?_) fun f cdv A outer s H vs Q E hr h => ?_
  · obtain ⟨M, a, b, c, d, rfl, _⟩ := h; rfl
  obtain ⟨M, a, b, c, d, rfl, hM, q⟩ := h
  refine ⟨_, (pss_cons (ps_set (i := 4) sc_tail.nd rfl (Or.inl rfl) (pe_op op_cat (pe_op op_cat (pe_op op_cat (pe_op op_cat (pe_callTy (call_listK K) (by rfl) T.z_list (by decide +kernel) (pa_cons (pe_gc (v := .ref (He.ga K "SIGN")) (by rfl) ⟨_, T.t_SIGN.1, rfl⟩) pa_nil)) (pe_c (ok_write_fixed T) hr (by decide) rfl (pa_cons (pv 0) (pa_cons pe_int pa_nil)))) (pe_lst (pa_cons (pv 1) pa_nil))) (pe_c (ok_write_fixed T) hr (by decide) rfl (pa_cons (pv 2) (pa_cons pe_int pa_nil)))) (pe_c (ok_write_fixed T) hr (by decide) rfl (pa_cons (pv 3) (pa_cons pe_int pa_nil)))))
      (pss_one (ps_ret (pe_op op_cat (pv 4) (pe_lc (own := [("_", 5)]) (g := gName 5) (tt := tYes) rfl sc_tail.nd (pi_range1 rfl T.z_range (pa_cons (pe_op op_sub (pe_gc (by rfl) T.g_SECTOR) (pe_callB (call_lenK K) (by rfl) T.z_len (by decide +kernel) (pa_cons (pv 4) pa_nil))) pa_nil)) (blkOk_by (own := [("_", 5)]) (N := nm_tail) (sc := defScope s_tail) (by decide +kernel)) (fun _ _ _ _ _ => (pg_name (i := 5) sc_tail.nd rfl (Or.inl rfl))) (fun _ _ _ _ _ => pts_nil) (fun _ _ _ _ _ => pe_int)))))), ?_⟩
  walk_at "k"
  walk_at "rd"
  refine rd_listT (T.t_SIGN.2 H) fun p1 hp1 => ?_
  walk_at "rd"
  have i1 : Is M (upd H p1 (.lst [.int 70, .int 73, .int 76, .int 69])) (.ref p1) (nats [70, 73, 76, 69]) := new_lst hM (nats_V [70, 73, 76, 69]) hp1
  have e1 : Ext [] H (upd H p1 (.lst [.int 70, .int 73, .int 76, .int 69])) := .new hp1
  generalize upd H p1 (.lst [.int 70, .int 73, .int 76, .int 69]) = H1 at i1 e1
  refine ⟨M, a, 6, rfl, by decide, hM.ext e1, fun v2 H2 e2 i2 => ?_⟩
  obtain ⟨a2, _, rfl, _⟩ := i2.listV
  walk_at "rd"
  refine rd_dcat ((hM.ext e1).ext e2) (i1.mono e2.any) i2 (by simp [wf_len]) fun p3 H3 hp3 e3 _ i3 => ?_
  have e13 := (e1.trans e2).trans e3
  walk_at "rd"
  refine ⟨szl (by simp), fun p4 hp4 => ?_⟩
  have i4 : Is M (upd H3 p4 (.lst [.int b])) (.ref p4) (nats [b]) := new_lst (hM.ext e13) (nats_V [b]) hp4
  have e4 : Ext [] H3 (upd H3 p4 (.lst [.int b])) := .new hp4
  generalize upd H3 p4 (.lst [.int b]) = H4 at i4 e4
  refine rd_dcat (hM.ext (e13.trans e4)) (i3.mono e4.any) i4 (by simp [wf_len]) fun p5 H5 hp5 e5 _ i5 => ?_
  have e15 := (e13.trans e4).trans e5
  walk_at "rd"
  refine ⟨M, c, 4, rfl, by decide, hM.ext e15, fun v6 H6 e6 i6 => ?_⟩
  obtain ⟨a6, _, rfl, _⟩ := i6.listV
  walk_at "rd"
  refine rd_dcat (hM.ext (e15.trans e6)) (i5.mono e6.any) i6 (by simp [wf_len]) fun p7 H7 hp7 e7 _ i7 => ?_
  have e17 := (e15.trans e6).trans e7
  walk_at "rd"
  refine ⟨M, d, 4, rfl, by decide, hM.ext e17, fun v8 H8 e8 i8 => ?_⟩
  obtain ⟨a8, _, rfl, _⟩ := i8.listV
  walk_at "rd"
  refine rd_dcat (hM.ext (e17.trans e8)) (i7.mono e8.any) i8 (by simp [wf_len]) fun p9 H9 hp9 e9 _ i9 => ?_
  have e19 := (e17.trans e8).trans e9
  rw [← List.map_append, ← List.map_append, ← List.map_append, ← List.map_append] at i9
  walk_at "rd"
  have hL9 : (([70, 73, 76, 69] ++ wf a 6 ++ [b] ++ wf c 4 ++ wf d 4).map fun n : Nat => PyData.int n).length = 19 := by simp [wf_len]
  rw [hL9]
  walk_at "rd"
  intro D hD
  refine q_lcR (M := M) (fun _ => .int 0) (hM.ext e19) hD (by simp [wf_len]) (fun _ => rfl) (fun i H' hi _ e R k => k _ _ .refl (.int 0)) fun H10 e10 i10 => ?_
  have e110 := e19.trans e10
  refine rd_dcat (hM.ext e110) (i9.mono e10.any) i10 (by simp [wf_len]) fun p11 H11 hp11 e11 _ i11 => ?_
  refine q _ _ (e110.trans e11) ?_
  have ez : ((List.range ((32 : Int) - ((19 : Nat) : Int)).toNat).map fun _ => PyData.int 0) = (List.replicate 13 (0 : Nat)).map fun n : Nat => PyData.int n := rfl
  rw [ez, ← List.map_append] at i11
  exact i11
def fourP (t : Nat × Nat × Nat × Nat) : PyData := .tuple [.int t.1, .int t.2.1, .int t.2.2.1, .int t.2.2.2]
def sp_rt : Sp := fun vs H Q _ => (vs = [.non] ∧ Q .non H) ∨ ∃ (M : List Addr) (a : Addr) (s : List Nat), vs = [.ref a] ∧ Is M H (.ref a) (nats s) ∧ s.length = 32 ∧ Al M H ∧
  (rt s = none → ∀ H', Ext [] H H' → Q .non H') ∧ ∀ t, rt s = some t → ∀ v H', Ext [] H H' → Is M H' v (fourP t) → Q v H'
theorem ok_read_tail (T : Txt K mg) : Cal P w K mg base 3 "read_tail" sp_rt [] := by
  refine T.f_read_tail.cal sc_read_tail bd_read_tail (fun vs H Q E h => ?_) fun f cdv A outer s H vs Q E hr h => ?_
  · rcases h with ⟨rfl, _⟩ | ⟨M, a, s, rfl, _⟩ <;> rfl
  refine ⟨_, (pss_cons (ps_if (pt_cmpR op_isNq (pv 0) pe_non (nomark _)) (pss_one (ps_ret pe_non)) pss_nil)
      (pss_cons (ps_set (i := 1) sc_read_tail.nd rfl (Or.inl rfl) (pe_tup (pa_cons (pe_c (ok_read_fixed T) hr (by decide) rfl (pa_cons (pe_slice (sl_listK K) (pv 0) (po_some pe_int) (po_some pe_int)) pa_nil)) (pa_cons (pe_ix (ix_listK K) (pv 0) pe_int (fun _ _ => rfl)) (pa_cons (pe_c (ok_read_fixed T) hr (by decide) rfl (pa_cons (pe_slice (sl_listK K) (pv 0) (po_some pe_int) (po_some pe_int)) pa_nil)) (pa_cons (pe_c (ok_read_fixed T) hr (by decide) rfl (pa_cons (pe_slice (sl_listK K) (pv 0) (po_some pe_int) (po_some pe_int)) pa_nil)) pa_nil))))))
      (pss_cons (ps_if (PW.pt (pw_or (pt_cmpR op_gt (pe_ix (ix_tupK K) (pv 1) pe_int (fun _ _ => rfl)) pe_int (nomark _)) (pw_or1 (pt_cmpR (op_neDK K hr.units) (pe_c (ok_tail T) hr (by decide) rfl (pa_cons (pe_ix (ix_tupK K) (pv 1) pe_int (fun _ _ => rfl)) (pa_cons (pe_ix (ix_tupK K) (pv 1) pe_int (fun _ _ => rfl)) (pa_cons (pe_ix (ix_tupK K) (pv 1) pe_int (fun _ _ => rfl)) (pa_cons (pe_ix (ix_tupK K) (pv 1) pe_int (fun _ _ => rfl)) pa_nil))))) (pv 0) (nomark _))))) (pss_one (ps_ret pe_non)) pss_nil)
      (pss_one (ps_ret (pv 1)))))), ?_⟩
  walk_at "k"
  rcases h with ⟨rfl, q⟩ | ⟨M, a, s, rfl, hI, hl, hM, q1, q2⟩
  · walk_at "rd"
    exact q
  walk_at "rd"
  refine rd_cut (l := 4) (h := 10) hM hI rfl rfl fun p1 H1 _ e1 _ i1 => ?_
  walk_at "rd"
  rw [map_cut] at i1
  refine ⟨M, p1, _, rfl, i1, ?_⟩
  walk_at "rd"
  refine rd_dix (j := 10) (d := .int (s.getD 10 0)) (hI.mono e1.any) rfl (by rw [List.getElem?_map, List.getD_eq_getElem?_getD, List.getElem?_eq_getElem (by omega)]; rfl) fun v iv => ?_
  cases iv
  walk_at "rd"
  refine rd_cut (l := 11) (h := 15) (hM.ext e1) (hI.mono e1.any) rfl rfl fun p2 H2 _ e2 _ i2 => ?_
  walk_at "rd"
  rw [map_cut] at i2
  refine ⟨M, p2, _, rfl, i2, ?_⟩
  walk_at "rd"
  have e12 := e1.trans e2
  refine rd_cut (l := 15) (h := 19) (hM.ext e12) (hI.mono e12.any) rfl rfl fun p3 H3 _ e3 _ i3 => ?_
  walk_at "rd"
  rw [map_cut] at i3
  refine ⟨M, p3, _, rfl, i3, ?_⟩
  walk_at "rd"
  have e13 := e12.trans e3
  refine ⟨szl (by simp), fun t ht => ?_⟩
  have it : Is M (upd H3 t (.tup [.int (told s).1, .int (told s).2.1, .int (told s).2.2.1, .int (told s).2.2.2])) (.ref t) (fourP (told s)) :=
    new_tup (hM.ext e13) (.cons (.int _) (.cons (.int _) (.cons (.int _) (.cons (.int _) .nil)))) ht
  have e4 : Ext [] H (upd H3 t (.tup [.int (told s).1, .int (told s).2.1, .int (told s).2.2.1, .int (told s).2.2.2])) := e13.trans (.new ht)
  have h4 : (upd H3 t (.tup [.int (told s).1, .int (told s).2.1, .int (told s).2.2.1, .int (told s).2.2.2])) t = some (.tup [.int (told s).1, .int (told s).2.1, .int (told s).2.2.1, .int (told s).2.2.2]) := upd_same
  change gName 1 (.ref t) _ (upd H3 t (.tup [.int (told s).1, .int (told s).2.1, .int (told s).2.2.1, .int (told s).2.2.2])) _
  generalize upd H3 t (.tup [.int (told s).1, .int (told s).2.1, .int (told s).2.2.1, .int (told s).2.2.2]) = H4 at it e4 h4
  generalize hd : told s = d at it h4
  obtain ⟨d0, d1, d2, d3⟩ := d
  simp only at h4
  walk_at "rd"
  refine rd_ite (fun c => ?_) (fun c => ?_)
  · have c' := of_decide_eq_true c
    walk_at "rd"
    exact q1 (by unfold rt; rw [hd]; simp only; rw [if_pos (by omega)]) _ e4
  have c' := of_decide_eq_false c
  walk_at "rd"
  refine ⟨M, d0, d1, d2, d3, rfl, hM.ext e4, fun v5 H5 e5 i5 => ?_⟩
  obtain ⟨a5, _, rfl, _⟩ := i5.listV
  walk_at "rd"
  refine rd_neD i5 ((hI.mono e4.any).mono e5.any) (sh_nats (n := 0) _).ok (sh_nats (n := 0) _).ok ?_
  rw [eqv_nats]
  walk_at "rd"
  by_cases c2 : tl d0 d1 d2 d3 = s
  · refine iteNS c2 ?_
    walk_at "rd"
    exact q2 (d0, d1, d2, d3) (by unfold rt; rw [hd]; simp only; rw [if_neg (by omega), if_pos c2]) _ _ (e4.trans e5) (it.mono e5.any)
  · refine iteNS' c2 ?_
    walk_at "rd"
    exact q1 (by unfold rt; rw [hd]; simp only; rw [if_neg (by omega), if_neg c2]) _ (e4.trans e5)
/-! ### the law's own -/
def sp_dat : Sp := fun vs H Q _ => ∃ (M : List Addr) (n : Nat), vs = [.int n] ∧ Al M H ∧ ∀ v H', Ext [] H H' → Is M H' v (nats (dat n)) → Q v H'
theorem ok_law_data (T : Txt K mg) : Cal P w K mg base 1 "_law_data" sp_dat [] := by
  refine T.f_law_data.cal sc_law_data bd_law_data (fun vs H Q E h => ?_) fun f cdv A outer s H vs Q E hr h => ?_
  · obtain ⟨M, n, rfl, _⟩ := h; rfl
  obtain ⟨M, n, rfl, hM, q⟩ := h
  refine ⟨_, (pss_one (ps_ret (pe_lc (own := [("k", 1)]) (g := gName 1) (tt := tYes) rfl sc_law_data.nd (pi_range1 rfl T.z_range (pa_cons (pe_op op_mod (pv 0) pe_int) pa_nil)) (blkOk_by (own := [("k", 1)]) (N := nm_law_data) (sc := defScope s_law_data) (by decide +kernel)) (fun _ _ _ _ _ => (pg_name (i := 1) sc_law_data.nd rfl (Or.inl rfl))) (fun _ _ _ _ _ => pts_nil) (fun _ _ _ _ _ => (pe_op op_mod (pe_op op_add (pe_op op_fdiv (pv 0) (pe_op op_add pe_int (pe_op op_mod (pv 1) pe_int))) (pe_op op_mul pe_int (pv 1))) pe_int))))), ?_⟩
  walk_at "k"
  walk_at "rd"
  intro D hD
  refine q_lcR (M := M) (fun k => .int (((n / (1 + k % 7) + 3 * k) % 256 : Nat) : Int)) hM hD (by omega) (fun _ => rfl) (fun i H' hi _ e R k => ?_) fun H2 e2 i2 => ?_
  · walk_at "rd"
    refine k _ _ .refl ?_
    have e : (((n : Int) / (1 + (0 + (i : Int)) % 7) + 3 * (0 + (i : Int))) % 256) = (((n / (1 + i % 7) + 3 * i) % 256 : Nat) : Int) := by
      rw [Int.zero_add]
      have e1 : (1 + (i : Int) % 7) = ((1 + i % 7 : Nat) : Int) := by omega
      rw [e1, ← Int.natCast_ediv]
      omega
    rw [e]
    exact .int _
  · refine q _ _ e2 ?_
    have e : ((n : Int) % 301).toNat = n % 301 := by omega
    rw [e] at i2
    unfold dat
    rw [nats, List.map_map]
    exact i2
theorem ok_law_fixed (T : Txt K mg) : Cal P w K mg base 1 "_law_fixed" sp_wf [] := by
  refine T.f_law_fixed.cal sc_law_fixed bd_law_fixed (fun vs H Q E h => ?_) fun f cdv A outer s H vs Q E hr h => ?_
  · obtain ⟨M, n, c, rfl, _⟩ := h; rfl
  obtain ⟨M, n, c, rfl, hc, hM, q⟩ := h
  refine ⟨_, (pss_cons (ps_set (i := 2) sc_law_fixed.nd rfl (Or.inl rfl) (pe_lst pa_nil))
      (pss_cons (ps_for PassesOwn.never rfl (pi_range1 rfl T.z_range (pa_cons (pv 1) pa_nil)) (pg_name (i := 3) sc_law_fixed.nd rfl (Or.inl rfl))
      (pss_cons (ps_set (i := 2) sc_law_fixed.nd rfl (Or.inl rfl) (pe_op op_cat (pe_lst (pa_cons (pe_op op_mod (pv 0) pe_int) pa_nil)) (pv 2)))
      (pss_one (ps_set (i := 0) sc_law_fixed.nd rfl (Or.inl rfl) (pe_op op_fdiv (pv 0) pe_int)))))
      (pss_one (ps_ret (pv 2))))), ?_⟩
  walk_at "k"
  walk_at "rd"
  refine ⟨szl (by simp), fun p hp => ?_⟩
  walk_at "rd"
  refine q_range (fun i σ H' => ∃ (p : Addr) (x : Option V), σ = [some (.int ((n / 256 ^ i : Nat) : Int)), some (.int c), some (.ref p), x] ∧ Ext [] H H' ∧ Is M H' (.ref p) (nats (wf n i))) ⟨p, none, by rw [Nat.pow_zero, Nat.div_one] <;> rfl, .new hp, new_lst hM .nil hp⟩ ?_ ?_
  · rintro i σ H' hi ⟨p, x, rfl, e, ix⟩
    walk_at "rd"
    refine ⟨szl (by simp), fun p2 hp2 => ?_⟩
    have s2 : Al M (upd H' p2 (.lst [.int ((n / 256 ^ i : Nat) % 256 : Int)])) := (hM.ext e).ext (.new (M := []) hp2)
    have i2 : Is M (upd H' p2 (.lst [.int ((n / 256 ^ i : Nat) % 256 : Int)])) (.ref p2) (nats [n / 256 ^ i % 256]) := new_lst (hM.ext e) (nats_V [_]) hp2
    walk_at "rd"
    refine rd_dcat s2 i2 (ix.mono (.new hp2)) (by simp [wf_len]; omega) fun p3 H3 hp3 e3 _ i3 => ?_
    walk_at "rd"
    have e1 : ((n / 256 ^ i : Nat) : Int) / 256 = ((n / 256 ^ (i + 1) : Nat) : Int) := by rw [Nat.pow_succ, ← Nat.div_div_eq_div_mul]; rfl
    rw [e1]
    refine ⟨_, _, rfl, (e.trans (.new hp2)).trans e3, ?_⟩
    rw [← List.map_append] at i3
    have e4 : wf n (i + 1) = [n / 256 ^ i % 256] ++ wf n i := by rw [wf, lit_snoc, List.reverse_append]; rfl
    rw [e4]
    exact i3
  · rintro σ H' ⟨p, x, rfl, e, ix⟩
    walk_at "rd"
    exact q _ _ e ix
def sp_lawS (K : PySem.W.Frag) : Sp := fun vs H Q _ => ∃ (a : Addr) (ns : List Int), vs = [.ref a] ∧ SqL K H a (ns.map V.int) ∧ ns.length ≤ 63 ∧ ∀ H', Ext [] H H' → Q (.bl true) H'
theorem nV_app (a b : List Nat) : nV (a ++ b) = nV a ++ nV b := List.map_append
theorem is_nats {M : List Addr} {H : Hp} {xs : List V} {ns : List Nat} (r : IsAll M H xs (ns.map fun n : Nat => PyData.int n)) : xs = nV ns := by
  have r2 : IsAll M H xs ((ns.map fun n : Nat => (n : Int)).map PyData.int) := by rw [List.map_map]; exact r
  rw [r2.ofInts, List.map_map]
  rfl
theorem ok_law_blocks (T : Txt K mg) : Cal P w K mg base 3 "_law_blocks" (sp_lawS K) [] := by
  refine T.f_law_blocks.cal sc_law_blocks bd_law_blocks (fun vs H Q E h => ?_) fun f cdv A outer s H vs Q E hr h => ?_
  · obtain ⟨a, ns, rfl, _⟩ := h; rfl
  obtain ⟨a, ns, rfl, hS, hl63, q⟩ := h
  refine ⟨_, (pss_cons (ps_set (i := 1) sc_law_blocks.nd rfl (Or.inl rfl) (pe_lst pa_nil))
      (pss_cons (ps_set (i := 2) sc_law_blocks.nd rfl (Or.inl rfl) (pe_lst pa_nil))
      (pss_cons (ps_set (i := 3) sc_law_blocks.nd rfl (Or.inl rfl) (pe_lst pa_nil))
      (pss_cons (ps_for PassesOwn.never rfl (pi_range1 rfl T.z_range (pa_cons pe_int pa_nil)) (pg_name (i := 4) sc_law_blocks.nd rfl (Or.inl rfl))
      (pss_cons (ps_set (i := 5) sc_law_blocks.nd rfl (Or.inl rfl) (pe_c (ok_law_data T) hr (by decide) rfl (pa_cons (pe_c (ok_law_draw T) hr (by decide) rfl (pa_cons (pv 0) (pa_cons (pv 4) pa_nil))) pa_nil)))
      (pss_cons (ps_set (i := 6) sc_law_blocks.nd rfl (Or.inl rfl) (pe_c (ok_log_block T) hr (by decide) rfl (pa_cons (pe_callTy (call_listK K) (by rfl) T.z_list (by decide +kernel) (pa_cons (pv 5) pa_nil)) pa_nil)))
      (pss_cons (ps_set (i := 7) sc_law_blocks.nd rfl (Or.inl rfl) (pe_op op_cat (pe_c (ok_law_fixed T) hr (by decide) rfl (pa_cons (pe_callB (call_lenK K) (by rfl) T.z_len (by decide +kernel) (pa_cons (pv 5) pa_nil)) (pa_cons pe_int pa_nil))) (pv 5)))
      (pss_cons (ps_set (i := 7) sc_law_blocks.nd rfl (Or.inl rfl) (pe_op op_cat (pv 7) (pe_lc (own := [("place", 8)]) (g := gName 8) (tt := tYes) rfl sc_law_blocks.nd (pi_range1 rfl T.z_range (pa_cons (pe_op op_mod (pe_op op_sub pe_int (pe_op op_mod (pe_callB (call_lenK K) (by rfl) T.z_len (by decide +kernel) (pa_cons (pv 7) pa_nil)) pe_int)) pe_int) pa_nil)) (blkOk_by (own := [("place", 8)]) (N := nm_law_blocks) (sc := defScope s_law_blocks) (by decide +kernel)) (fun _ _ _ _ _ => (pg_name (i := 8) sc_law_blocks.nd rfl (Or.inl rfl))) (fun _ _ _ _ _ => pts_nil) (fun _ _ _ _ _ => pe_int))))
      (pss_cons (ps_set (i := 9) sc_law_blocks.nd rfl (Or.inl rfl) (pe_lst pa_nil))
      (pss_cons (ps_for PassesOwn.never rfl (pi_listK K (pv 6)) (pg_name (i := 10) sc_law_blocks.nd rfl (Or.inl rfl))
      (pss_cons (ps_if (pt_cmpR op_ne (pe_callB (call_lenK K) (by rfl) T.z_len (by decide +kernel) (pa_cons (pv 10) pa_nil)) pe_int (nomark _)) (pss_one (ps_ret pe_bl)) pss_nil)
      (pss_one (ps_set (i := 9) sc_law_blocks.nd rfl (Or.inl rfl) (pe_op op_cat (pv 9) (pv 10))))))
      (pss_cons (ps_if (pt_cmpR (op_neDK K hr.units) (pv 9) (pv 7) (nomark _)) (pss_one (ps_ret pe_bl)) pss_nil)
      (pss_cons (ps_expr (pe_bm PySem.F.plainAttrs_list PySem.F.slot_list_append PySem.F.type_list_append mt_append (pv 2) (pa_cons (pe_callB (call_lenK K) (by rfl) T.z_len (by decide +kernel) (pa_cons (pv 1) pa_nil)) pa_nil)))
      (pss_cons (ps_expr (pe_bm PySem.F.plainAttrs_list PySem.F.slot_list_append PySem.F.type_list_append mt_append (pv 3) (pa_cons (pv 5) pa_nil)))
      (pss_one (ps_set (i := 1) sc_law_blocks.nd rfl (Or.inl rfl) (pe_op op_cat (pv 1) (pv 6))))))))))))))
      (pss_cons (ps_for PassesOwn.never rfl (pi_range1 rfl T.z_range (pa_cons pe_int pa_nil)) (pg_name (i := 4) sc_law_blocks.nd rfl (Or.inl rfl))
      (pss_cons (ps_set (i := 11) sc_law_blocks.nd rfl (Or.inl rfl) (pe_ix (ix_listK K) (pe_op op_cat (pv 2) (pe_lst (pa_cons (pe_callB (call_lenK K) (by rfl) T.z_len (by decide +kernel) (pa_cons (pv 1) pa_nil)) pa_nil))) (pe_op op_add (pv 4) pe_int) (fun _ _ => rfl)))
      (pss_cons (ps_setLc (i := 12) (own := [("sector", 10)]) (g := gName 10) (tt := tYes) rfl sc_law_blocks.nd rfl rfl (sw_true rfl rfl rfl (by decide +kernel)) (pi_listK K (pv 1)) (blkOk_by (own := [("sector", 10)]) (N := nm_law_blocks) (sc := defScope s_law_blocks) (by decide +kernel)) (fun _ _ _ _ _ => (pg_name (i := 10) sc_law_blocks.nd rfl (Or.inl rfl))) (fun _ _ _ _ _ => pts_nil) (fun _ _ _ _ _ => (pe_callTy (call_listK K) (by rfl) T.z_list (by decide +kernel) (pa_cons (pv 10) pa_nil))))
      (pss_cons (ps_set (i := 13) sc_law_blocks.nd rfl (Or.inl rfl) (pe_c (ok_read_block T) hr (by decide) rfl (pa_cons (pv 1) (pa_cons (pe_ix (ix_listK K) (pv 2) (pv 4) (fun _ _ => rfl)) pa_nil))))
      (pss_cons (ps_if (PW.pt (pw_or (pt_cmpR (op_neDK K hr.units) (pv 13) (pe_tup (pa_cons (pe_ix (ix_listK K) (pv 3) (pv 4) (fun _ _ => rfl)) (pa_cons (pv 11) pa_nil))) (nomark _)) (pw_or (pt_cmpR op_notNq (pe_c (ok_read_block T) hr (by decide) rfl (pa_cons (pe_slice (sl_listK K) (pv 1) po_none (po_some (pe_op op_sub (pv 11) pe_int))) (pa_cons (pe_ix (ix_listK K) (pv 2) (pv 4) (fun _ _ => rfl)) pa_nil))) pe_non (nomark _)) (pw_or1 (pt_cmpR (op_neDK K hr.units) (pv 1) (pv 12) (nomark _)))))) (pss_one (ps_ret pe_bl)) pss_nil)
      (pss_cons (ps_expr (pe_bm PySem.F.plainAttrs_list PySem.F.slot_list_append PySem.F.type_list_append mt_append (pe_ix (ix_tupK K) (pv 13) pe_int (fun _ _ => rfl)) (pa_cons pe_int pa_nil)))
      (pss_one (ps_if (pt_cmpR (op_neDK K hr.units) (pe_c (ok_read_block T) hr (by decide) rfl (pa_cons (pv 1) (pa_cons (pe_ix (ix_listK K) (pv 2) (pv 4) (fun _ _ => rfl)) pa_nil))) (pe_tup (pa_cons (pe_ix (ix_listK K) (pv 3) (pv 4) (fun _ _ => rfl)) (pa_cons (pv 11) pa_nil))) (nomark _)) (pss_one (ps_ret pe_bl)) pss_nil))))))))
      (pss_one (ps_ret (pe_cmpR op_isNq (pe_c (ok_read_block T) hr (by decide) rfl (pa_cons (pv 1) (pa_cons (pe_callB (call_lenK K) (by rfl) T.z_len (by decide +kernel) (pa_cons (pv 1) pa_nil)) pa_nil))) pe_non (nomark _))))))))), ?_⟩
  walk_at "k"
  walk_at "rd"
  refine ⟨szl (by simp), fun a0 ha0 => ?_⟩
  walk_at "rd"
  refine ⟨szl (by simp), fun ps hps => ?_⟩
  walk_at "rd"
  refine ⟨szl (by simp), fun pr hpr => ?_⟩
  walk_at "rd"
  have e0 : Ext [] H (upd (upd (upd H a0 (.lst [])) ps (.lst [])) pr (.lst [])) := ((Ext.new ha0).trans (.new hps)).trans (.new hpr)
  have nps : pr ≠ ps := fun e => by rw [e, upd_same] at hpr; cases hpr
  have n0s : ps ≠ a0 := fun e => by rw [e, upd_same] at hps; cases hps
  have n0r : pr ≠ a0 := fun e => by rw [e, upd_ne n0s.symm, upd_same] at hpr; cases hpr
  have hps0 : H ps = none := (Ext.new (M := []) ha0).free hps
  have hpr0 : H pr = none := ((Ext.new (M := []) ha0).trans (.new hps)).free hpr
  refine q_range (fun i σ H' => ∃ (Ds : List (List Nat)) (as : Addr) (x4 x5 x6 x7 x8 x9 x10 : Option V), Ds.length = i ∧ (∀ d ∈ Ds, d.length ≤ 300) ∧ σ = [some (.ref a), some (.ref as), some (.ref ps), some (.ref pr), x4, x5, x6, x7, x8, x9, x10, none, none, none] ∧ Ext [] H H' ∧ H' ps = some (.lst (nV (starts Ds))) ∧ (∃ xs, H' pr = some (.lst xs) ∧ IsAll [ps, pr] H' xs (Ds.map nats)) ∧ Is [ps, pr] H' (.ref as) (.list ((secs Ds).map nats)))
    ⟨[], a0, _, _, _, _, _, _, _, rfl, by simp, rfl, e0, ?_, ⟨[], upd_same, .nil⟩, ?_⟩ ?_ ?_
  · rw [upd_ne nps.symm, upd_same]; rfl
  · refine .lst (by simp only [List.mem_cons, List.not_mem_nil, or_false, not_or]; exact ⟨n0s.symm, n0r.symm⟩) ?_ .nil
    rw [upd_ne n0r.symm, upd_ne n0s.symm, upd_same]
  · rintro i σ H1 hi ⟨Ds, as, x4, x5, x6, x7, x8, x9, x10, hDl, hD3, rfl, e1, h1s, ⟨xr, h1r, ir⟩, isec⟩
    walk_at "rd"
    have s1 : Al [ps, pr] H1 := .cons (some_ne h1s) (.cons (some_ne h1r) .nil)
    refine rd_draw (e1.same.seq hS) hl63 (by omega) fun n _ => ?_
    walk_at "rd"
    refine ⟨[ps, pr], n, rfl, s1, fun v2 H2 e2 i2 => ?_⟩
    obtain ⟨a2, _, rfl, _⟩ := i2.listV
    have hdl := dat_len n
    have s2 := s1.ext e2
    generalize dat n = d at i2 hdl
    walk_at "rd"
    refine rd_dlist s2 i2 fun p3 H3 hp3 e3 _ i3 => ?_
    walk_at "rd"
    have s3 := s2.ext e3
    refine ⟨[ps, pr], p3, d, rfl, i3, hdl, s3, fun v4 H4 e4 i4 => ?_⟩
    obtain ⟨a4, _, rfl, _⟩ := i4.listV
    have s4 := s3.ext e4
    have i24 := i2.mono (e3.trans e4).any
    walk_at "rd"
    rw [List.length_map]
    refine ⟨[ps, pr], d.length, 4, rfl, by decide, s4, fun v5 H5 e5 i5 => ?_⟩
    obtain ⟨a5, _, rfl, _⟩ := i5.listV
    have s5 := s4.ext e5
    walk_at "rd"
    refine rd_dcat s5 i5 (i24.mono e5.any) (by simp [wf_len]; omega) fun p6 H6 hp6 e6 _ i6 => ?_
    have s6 := s5.ext e6
    rw [← List.map_append] at i6
    walk_at "rd"
    rw [List.length_map, List.length_append, wf_len]
    walk_at "rd"
    intro D hD
    refine q_lcR (M := [ps, pr]) (fun _ => .int 0) s6 hD (by omega) (fun _ => rfl) (fun i H' hi _ e R k => k _ _ .refl (.int 0)) fun H7 e7 i7 => ?_
    have s7 := s6.ext e7
    have ez : ((List.range (((32 : Int) - ((4 + d.length : Nat) : Int) % 32) % 32).toNat).map fun _ => PyData.int 0) = (List.replicate ((32 - (4 + d.length) % 32) % 32) (0 : Nat)).map fun n : Nat => PyData.int n := by
      rw [List.map_const', List.length_range, List.map_replicate]
      congr 1
      omega
    rw [ez] at i7
    refine rd_dcat s7 (i6.mono e7.any) i7 (by simp [wf_len]; omega) fun p8 H8 hp8 e8 _ i8 => ?_
    have s8 := s7.ext e8
    rw [← List.map_append] at i8
    walk_at "rd"
    refine ⟨szl (by simp), fun p9 hp9 => ?_⟩
    have i9 : Is [ps, pr] (upd H8 p9 (.lst [])) (.ref p9) (nats []) := new_lst s8 .nil hp9
    have e9 : Ext [] H8 (upd H8 p9 (.lst [])) := .new hp9
    generalize upd H8 p9 (.lst []) = H9 at i9 e9
    have s9 := s8.ext e9
    have e49 : Ext [] H4 H9 := (((e5.trans e6).trans e7).trans e8).trans e9
    have i49 := i4.mono e49.any
    walk_at "rd"
    refine q_data (M := [ps, pr]) (H0 := H9) i49 (fun j σ H' => ∃ (p10 : Addr) (x10 : Option V), σ = [some (.ref a), some (.ref as), some (.ref ps), some (.ref pr), some (.int (0 + (i : Int))), some (.ref a2), some (.ref a4), some (.ref p8), x8, some (.ref p10), x10, none, none, none] ∧ Ext [] H9 H' ∧ Is [ps, pr] H' (.ref p10) (nats ((blocks d).take j).flatten))
      ⟨p9, _, rfl, .refl, i9⟩ (fun j σ H' ⟨_, _, _, e, _⟩ => e.any) ?_ ?_
    · rintro j dd x σ H' hj hd ⟨p10, x10, rfl, e10, i10⟩
      rw [List.getElem?_map] at hj
      cases hg : (blocks d)[j]? with
      | none => rw [hg] at hj; cases hj
      | some g =>
        rw [hg] at hj
        cases hj
        obtain ⟨b', _, rfl, _⟩ := hd.listV
        have hg32 := blocks_32 d g (List.mem_of_getElem? hg)
        walk_at "rd"
        rw [List.length_map, hg32]
        refine iteNS rfl ?_
        walk_at "rd"
        have hjl : j < (blocks d).length := (List.getElem?_eq_some_iff.mp hg).1
        have hb10 := nsec_le hdl
        rw [blocks_len] at hjl
        have hfl : (((blocks d).take j).flatten).length ≤ 320 := by
          have z : ∀ L : List (List Nat), (∀ x ∈ L, x.length = 32) → L.flatten.length = 32 * L.length := fun L hL => by
            rw [List.length_flatten, List.map_congr_left (g := fun _ => 32) hL, List.map_const', List.sum_replicate_nat]
            omega
          rw [z _ fun x hx => blocks_32 d x (List.mem_of_mem_take hx), List.length_take]
          omega
        refine rd_dcat (s9.ext e10) i10 hd (by rw [List.length_map, List.length_map]; omega) fun p11 H11 hp11 e11 _ i11 => ?_
        rw [← List.map_append] at i11
        walk_at "rd"
        refine ⟨_, _, rfl, e10.trans e11, ?_⟩
        have et : (blocks d).take (j + 1) = (blocks d).take j ++ [g] := by rw [List.take_add_one, hg]; rfl
        rw [et, List.flatten_append]
        simp only [List.flatten_cons, List.flatten_nil, List.append_nil]
        exact i11
    · rintro σ H10 ⟨p10, x10, rfl, e10, i10⟩
      rw [List.length_map, List.take_length, blocks_flat] at i10
      have s10 := s9.ext e10
      have e810 : Ext [] H8 H10 := e9.trans e10
      have i8' := i8.mono e810.any
      have i24' := i24.mono (e49.trans e10).any
      have i49' := i49.mono e10.any
      have e110 : Ext [] H1 H10 := ((e2.trans e3).trans e4).trans (e49.trans e10)
      have isec' := isec.mono e110.any
      walk_at "rd"
      refine rd_neD i10 i8' (sh_nats (n := 0) _).ok (sh_nats (n := 0) _).ok ?_
      rw [eqv_nats]
      walk_at "rd"
      refine iteNS rfl ?_
      walk_at "rd"
      have h10s := e110.keep _ _ (fun q => nomatch q) h1s
      have h10r := e110.keep _ _ (fun q => nomatch q) h1r
      refine rd_app h10s ?_
      walk_at "rd"
      rw [List.length_map]
      refine ⟨_, h10s, szl' (by rw [List.length_map, starts, List.length_map, List.length_range]; omega), ?_⟩
      walk_at "rd"
      have e11 : Ext [ps, pr] H10 (upd H10 ps (.lst (nV (starts Ds) ++ [.int ((secs Ds).length : Int)]))) := .set (by simp)
      have h11s : (upd H10 ps (.lst (nV (starts Ds) ++ [.int ((secs Ds).length : Int)]))) ps = some (.lst (nV (starts (Ds ++ [d])))) := by
        rw [upd_same, starts_snoc, nV_app]; rfl
      have h11r : (upd H10 ps (.lst (nV (starts Ds) ++ [.int ((secs Ds).length : Int)]))) pr = some (.lst xr) := by rw [upd_ne nps]; exact h10r
      have eH11 : Ext [] H (upd H10 ps (.lst (nV (starts Ds) ++ [.int ((secs Ds).length : Int)]))) := (e1.trans e110).mut hps0
      generalize upd H10 ps (.lst (nV (starts Ds) ++ [.int ((secs Ds).length : Int)])) = H11 at e11 h11s h11r eH11
      have i24'' := i24'.mono e11
      refine rd_app h11r ?_
      walk_at "rd"
      have ir11 := (ir.mono e110.any).mono e11
      refine ⟨_, h11r, szl' (by rw [ir11.length, List.length_map]; omega), ?_⟩
      walk_at "rd"
      have e12 : Ext [ps, pr] H11 (upd H11 pr (.lst (xr ++ [.ref a2]))) := .set (by simp)
      have h12s : (upd H11 pr (.lst (xr ++ [.ref a2]))) ps = some (.lst (nV (starts (Ds ++ [d])))) := by rw [upd_ne nps.symm]; exact h11s
      have h12r : (upd H11 pr (.lst (xr ++ [.ref a2]))) pr = some (.lst (xr ++ [.ref a2])) := upd_same
      have eH12 : Ext [] H (upd H11 pr (.lst (xr ++ [.ref a2]))) := eH11.mut hpr0
      generalize upd H11 pr (.lst (xr ++ [.ref a2])) = H12 at e12 h12s h12r eH12
      have s12 : Al [ps, pr] H12 := .cons (some_ne h12s) (.cons (some_ne h12r) .nil)
      have ir12 := (ir11.append (.one i24'')).mono e12
      have isec12 := (isec'.mono e11).mono e12
      have i412 := (i49'.mono e11).mono e12
      have hsl := sums_le hD3
      have hbl := nsec_le hdl
      refine rd_dcat s12 isec12 i412 (by rw [List.length_map, List.length_map, blocks_len]; unfold sums at hsl; omega) fun p13 H13 hp13 e13 _ i13 => ?_
      rw [← List.map_append] at i13
      walk_at "rd"
      refine ⟨Ds ++ [d], p13, _, _, _, _, _, _, _, by rw [List.length_append]; simp [hDl], ?_, rfl, eH12.trans e13, e13.keep _ _ (fun q => nomatch q) h12s, ⟨_, e13.keep _ _ (fun q => nomatch q) h12r, ?_⟩, ?_⟩
      · intro x hx
        rcases List.mem_append.mp hx with hx | hx
        · exact hD3 x hx
        · rw [List.mem_singleton.mp hx]; exact hdl
      · rw [List.map_append]
        exact ir12.mono e13.any
      · rw [secs_app, secs_one]
        exact i13
  · rintro σ H1 ⟨Ds, as, x4, x5, x6, x7, x8, x9, x10, hDl, hD3, rfl, e1, h1s, ⟨xr, h1r, ir⟩, isec⟩
    have s1 : Al [ps, pr] H1 := .cons (some_ne h1s) (.cons (some_ne h1r) .nil)
    have hsl := sums_le hD3
    rw [hDl] at hsl
    have hDl : Ds.length = 3 := hDl
    walk_at "rd"
    refine q_range (fun i σ H' => ∃ (x4 x11 x12 x13 x10 : Option V), σ = [some (.ref a), some (.ref as), some (.ref ps), some (.ref pr), x4, x5, x6, x7, x8, x9, x10, x11, x12, x13] ∧ Ext [] H1 H') ⟨_, _, _, _, _, rfl, .refl⟩ ?_ ?_
    · rintro k σ H2 hk ⟨x4, x11, x12, x13, x10, rfl, e2⟩
      have hk' : k < Ds.length := by rw [hDl]; exact hk
      obtain ⟨r1, r2, r3⟩ := rb_k hD3 hk'
      have h2s := e2.keep _ _ (fun q => nomatch q) h1s
      have h2r := e2.keep _ _ (fun q => nomatch q) h1r
      have is2 := isec.mono e2.any
      have ir2 := ir.mono e2.any
      have s2 := s1.ext e2
      walk_at "rd"
      rw [List.length_map]
      refine ⟨szl (by simp), fun p3 hp3 => ?_⟩
      have e3 : Ext [] H2 (upd H2 p3 (.lst [.int ((secs Ds).length : Int)])) := .new hp3
      have h3p : (upd H2 p3 (.lst [.int ((secs Ds).length : Int)])) p3 = some (.lst [.int ((secs Ds).length : Int)]) := upd_same
      generalize upd H2 p3 (.lst [.int ((secs Ds).length : Int)]) = H3 at e3 h3p
      refine rd_cat (e3.keep _ _ (fun q => nomatch q) h2s) h3p (szl (by simp [starts]; omega)) fun p4 hp4 => ?_
      have e4 : Ext [] H3 (upd H3 p4 (.lst (nV (starts Ds) ++ [.int ((secs Ds).length : Int)]))) := .new hp4
      have h4p : (upd H3 p4 (.lst (nV (starts Ds) ++ [.int ((secs Ds).length : Int)]))) p4 = some (.lst (nV (starts Ds) ++ [.int ((secs Ds).length : Int)])) := upd_same
      generalize upd H3 p4 (.lst (nV (starts Ds) ++ [.int ((secs Ds).length : Int)])) = H4 at e4 h4p
      have e24 := e3.trans e4
      walk_at "rd"
      have hsl3 : (starts Ds).length = 3 := by rw [starts, List.length_map, List.length_range, hDl]
      have hst : atI (nV (starts Ds)) (0 + (k : Int)) = some (.int (sums (Ds.take k))) := by
        rw [Int.zero_add]
        refine atI_nat ?_
        rw [starts, nV, List.getElem?_map, List.getElem?_map, List.getElem?_range hk']
        rfl
      have hend : atI (nV (starts Ds) ++ [.int ((secs Ds).length : Int)]) (0 + (k : Int) + 1) = some (.int (sums (Ds.take (k + 1)))) := by
        have e : (0 + (k : Int) + 1) = ((k + 1 : Nat) : Int) := by omega
        rw [e]
        refine atI_nat ?_
        by_cases h2 : k + 1 < 3
        · rw [List.getElem?_append_left (by rw [List.length_map, hsl3]; exact h2), starts, nV, List.getElem?_map, List.getElem?_map, List.getElem?_range (by omega)]
          rfl
        · have e3 : k + 1 = 3 := by have : Int.toNat 3 = 3 := rfl; omega
          rw [List.getElem?_append_right (by rw [List.length_map, hsl3]; omega), List.length_map, hsl3, e3, List.take_of_length_le (by omega)]
          rfl
      refine rd_ixL (SqL.of h4p) hend ?_
      have is4 := is2.mono e24.any
      have s4 := s2.ext e24
      walk_at "rd"
      intro D hD
      refine q_lcL (M := [ps, pr]) (fun d => d) s4 hD is4 (by rw [List.length_map]; unfold sums at hsl; have : Int.toNat 3 = 3 := rfl; omega) (fun _ => rfl) (fun x d H' hd sD e ix R kk => ?_) fun H5 e5 i5 => ?_
      · obtain ⟨g, _, rfl⟩ := List.mem_map.mp hd
        obtain ⟨b', _, rfl, _⟩ := ix.listV
        walk_at "rd"
        exact rd_dlist sD ix fun p H'' hp e' _ i' => kk _ _ e' i'
      rw [List.map_id'] at i5
      have e25 := e24.trans e5
      have h5s := e25.keep _ _ (fun q => nomatch q) h2s
      have is5 := is2.mono e25.any
      have s5 := s2.ext e25
      have hS100 : (secs Ds).length ≤ 100 := by unfold sums at hsl; have : Int.toNat 3 = 3 := rfl; omega
      walk_at "rd"
      refine rd_ixL (SqL.of h5s) hst ?_
      walk_at "rd"
      refine ⟨[ps, pr], as, secs Ds, sums (Ds.take k), rfl, is5, hS100, secs_32 Ds, s5, (fun hn => by rw [r1] at hn; cases hn), fun d e he t l H6 e6 hl6 ht6 ntl h6l h6t => ?_⟩
      rw [r1] at he
      cases he
      have e26 := e25.trans e6
      have h6r := e26.keep _ _ (fun q => nomatch q) h2r
      have h6s := e26.keep _ _ (fun q => nomatch q) h2s
      obtain ⟨vk, hvk, ivk⟩ := ir2.get (i := k) (d := nats Ds[k]) (by rw [List.getElem?_map, List.getElem?_eq_getElem hk']; rfl)
      have hrk : atI xr (0 + (k : Int)) = some vk := by rw [Int.zero_add]; exact atI_nat hvk
      have hsh : Sh 2 (.tuple [nats Ds[k], .int (sums (Ds.take (k + 1)))]) := Sh.tuple fun d hd => by
        simp only [List.mem_cons, List.not_mem_nil, or_false] at hd
        rcases hd with rfl | rfl
        · exact sh_nats _
        · exact .int _
      walk_at "rd"
      refine rd_ixL (SqL.of h6r) hrk ?_
      walk_at "rd"
      refine ⟨szl (by simp), fun p7 hp7 => ?_⟩
      have s6 := s2.ext e26
      have i7 : Is [ps, pr] (upd H6 p7 (.tup [vk, .int (sums (Ds.take (k + 1)))])) (.ref p7) (.tuple [nats Ds[k], .int (sums (Ds.take (k + 1)))]) := new_tup s6 (.cons (ivk.mono e26.any) (.cons (.int _) .nil)) hp7
      have e7 : Ext [] H6 (upd H6 p7 (.tup [vk, .int (sums (Ds.take (k + 1)))])) := .new hp7
      generalize upd H6 p7 (.tup [vk, .int (sums (Ds.take (k + 1)))]) = H7 at i7 e7
      have h7l := e7.keep _ _ (fun q => nomatch q) h6l
      have h7t := e7.keep _ _ (fun q => nomatch q) h6t
      have it7 : Is [ps, pr] H7 (.ref t) (.tuple [nats Ds[k], .int (sums (Ds.take (k + 1)))]) := .tup (s5.fresh ht6) h7t (.cons (.lst (s5.fresh hl6) h7l (nats_V _)) (.cons (.int _) .nil))
      refine rd_neD it7 i7 hsh.ok hsh.ok ?_
      rw [hsh.refl]
      walk_at "rd"
      have e27 := e26.trans e7
      refine rd_cut0 (h := sums (Ds.take (k + 1)) - 1) (s2.ext e27) (is2.mono e27.any) (by omega) fun p8 H8 hp8 e8 _ i8 => ?_
      have e28 := e27.trans e8
      rw [← List.map_take] at i8
      walk_at "rd"
      refine rd_ixL (SqL.of (e28.keep _ _ (fun q => nomatch q) h2s)) hst ?_
      walk_at "rd"
      refine ⟨[ps, pr], p8, _, sums (Ds.take k), rfl, i8, by rw [List.length_take]; omega, fun x hx => secs_32 Ds x (List.mem_of_mem_take hx), s2.ext e28, fun _ H9 e9 => ?_, fun d e he => by rw [r2] at he; cases he⟩
      have e29 := e28.trans e9
      walk_at "rd"
      have shS : Sh 2 (.list ((secs Ds).map nats)) := Sh.list fun d hd => by
        obtain ⟨g, _, rfl⟩ := List.mem_map.mp hd
        exact sh_nats _
      have e59 : Ext [] H5 H9 := ((e6.trans e7).trans e8).trans e9
      refine rd_neD (is2.mono e29.any) (i5.mono e59.any) shS.ok shS.ok ?_
      rw [shS.refl]
      have h9l := ((e7.trans e8).trans e9).keep _ _ (fun q => nomatch q) h6l
      have h9t := ((e7.trans e8).trans e9).keep _ _ (fun q => nomatch q) h6t
      walk_at "rd"
      refine rd_app h9l ?_
      walk_at "rd"
      refine ⟨_, h9l, szl' (by rw [List.length_map]; have := hD3 _ (List.getElem_mem hk'); omega), ?_⟩
      have e210 : Ext [] H2 (upd H9 l (.lst (nV Ds[k] ++ [.int 3]))) := e29.mut (e25.free hl6)
      generalize upd H9 l (.lst (nV Ds[k] ++ [.int 3])) = H10 at e210
      have h10s := e210.keep _ _ (fun q => nomatch q) h2s
      have h10r := e210.keep _ _ (fun q => nomatch q) h2r
      walk_at "rd"
      refine rd_ixL (SqL.of h10s) hst ?_
      walk_at "rd"
      refine ⟨[ps, pr], as, secs Ds, sums (Ds.take k), rfl, is2.mono e210.any, hS100, secs_32 Ds, s2.ext e210, (fun hn => by rw [r1] at hn; cases hn), fun d e he t' l' H11 e11 hl11 ht11 ntl' h11l h11t => ?_⟩
      rw [r1] at he
      cases he
      have e211 := e210.trans e11
      walk_at "rd"
      refine rd_ixL (SqL.of (e211.keep _ _ (fun q => nomatch q) h2r)) hrk ?_
      walk_at "rd"
      refine ⟨szl (by simp), fun p12 hp12 => ?_⟩
      have i12 : Is [ps, pr] (upd H11 p12 (.tup [vk, .int (sums (Ds.take (k + 1)))])) (.ref p12) (.tuple [nats Ds[k], .int (sums (Ds.take (k + 1)))]) := new_tup (s2.ext e211) (.cons (ivk.mono e211.any) (.cons (.int _) .nil)) hp12
      have e12 : Ext [] H11 (upd H11 p12 (.tup [vk, .int (sums (Ds.take (k + 1)))])) := .new hp12
      generalize upd H11 p12 (.tup [vk, .int (sums (Ds.take (k + 1)))]) = H12 at i12 e12
      have it12 : Is [ps, pr] H12 (.ref t') (.tuple [nats Ds[k], .int (sums (Ds.take (k + 1)))]) := .tup ((s2.ext e210).fresh ht11) (e12.keep _ _ (fun q => nomatch q) h11t) (.cons (.lst ((s2.ext e210).fresh hl11) (e12.keep _ _ (fun q => nomatch q) h11l) (nats_V _)) (.cons (.int _) .nil))
      refine rd_neD it12 i12 hsh.ok hsh.ok ?_
      rw [hsh.refl]
      walk_at "rd"
      exact ⟨_, _, _, _, _, rfl, e2.trans (e211.trans e12)⟩
    · rintro σ H2 ⟨x4, x11, x12, x13, x10, rfl, e2⟩
      have is2 := isec.mono e2.any
      walk_at "rd"
      rw [List.length_map]
      refine ⟨[ps, pr], as, secs Ds, (secs Ds).length, rfl, is2, by unfold sums at hsl; have : Int.toNat 3 = 3 := rfl; omega, secs_32 Ds, s1.ext e2, fun _ H3 e3 => ?_, fun d e he => by rw [rb_end] at he; cases he⟩
      walk_at "rd"
      exact q _ ((e1.trans e2).trans e3)
theorem ok_law_parts (T : Txt K mg) : Cal P w K mg base 4 "_law_parts" (fun vs H Q _ => ∃ n : Int, vs = [.int n] ∧ Q (.bl true) H) [] := by
  refine T.f_law_parts.cal sc_law_parts bd_law_parts (fun vs H Q E h => ?_) fun f cdv A outer s H vs Q E hr h => ?_
  · obtain ⟨n, rfl, _⟩ := h; rfl
  obtain ⟨n, rfl, q⟩ := h
  refine ⟨_, (pss_cons (ps_set (i := 1) sc_law_parts.nd rfl (Or.inl rfl) (pe_op op_fdiv (pe_op op_sub (pv 0) pe_int) pe_int))
      (pss_cons (ps_if (PW.pt (pw_or (pt_cmpR op_ne (pe_c (ok_area_size T) hr (by decide) rfl (pa_cons (pv 0) pa_nil)) (pv 1) (nomark _)) (pw_or (pt_cmpR op_ne (pe_c (ok_area_start T) hr (by decide) rfl (pa_cons (pv 0) (pa_cons pe_int pa_nil))) pe_int (nomark _)) (pw_or1 (pt_cmpR op_ne (pe_c (ok_area_start T) hr (by decide) rfl (pa_cons (pv 0) (pa_cons pe_int pa_nil))) (pe_op op_add pe_int (pv 1)) (nomark _)))))) (pss_one (ps_ret pe_bl)) pss_nil)
      (pss_one (ps_ret (pe_and (pe_cmpR op_eq (pe_c (ok_region_start T) hr (by decide) rfl (pa_cons (pv 0) pa_nil)) (pe_op op_add pe_int (pe_op op_mul pe_int (pv 1))) (nomark _)) (pe_one (pe_cmpR op_eq (pe_c (ok_stripe_count T) hr (by decide) rfl (pa_cons (pv 0) pa_nil)) (pe_op op_sub (pe_op op_sub (pv 0) pe_int) (pe_op op_mul pe_int (pv 1))) (nomark _)))))))), ?_⟩
  walk_at "k"
  walk_at "rd"
  refine ⟨n, rfl, ?_⟩
  walk_at "rd"
  refine iteNS rfl ?_
  walk_at "rd"
  refine ⟨n, 0, rfl, by decide, ?_⟩
  walk_at "rd"
  refine iteNS (by omega) ?_
  walk_at "rd"
  refine ⟨n, 1, rfl, by decide, ?_⟩
  walk_at "rd"
  refine iteNS (by omega) ?_
  walk_at "rd"
  refine ⟨n, rfl, ?_⟩
  walk_at "rd"
  rw [decide_eq_true rfl]
  refine iteT ?_
  walk_at "rd"
  refine ⟨n, rfl, ?_⟩
  walk_at "rd"
  rw [decide_eq_true (by omega : n - (2 + 2 * ((n - 2) / 4)) = n - 2 - 2 * ((n - 2) / 4))]
  exact q
theorem atI_nV {s : List Nat} {p : Nat} (h : p < s.length) : atI (nV s) (p : Int) = some (.int (s.getD p 0)) := by
  refine atI_nat ?_
  rw [nV, List.getElem?_map, List.getD_eq_getElem?_getD, List.getElem?_eq_getElem h]
  rfl
theorem ixN_n {n j : Nat} (hj : j < n) : ixN n (j : Int) = some j := by
  unfold ixN
  rw [if_pos (by omega), if_pos (by omega)]
  simp
theorem nV_set (s : List Nat) (p v : Nat) : (nV s).set p (.int v) = nV (s.set p v) := by rw [nV, nV, List.map_set]
def sp_tails : Sp := fun vs H Q _ => ∃ n : Nat, vs = [.int n] ∧ n < 1000000 ∧ ∀ H', Ext [] H H' → Q (.bl true) H'
theorem ok_law_tails (T : Txt K mg) : Cal P w K mg base 4 "_law_tails" sp_tails [] := by
  refine T.f_law_tails.cal sc_law_tails bd_law_tails (fun vs H Q E h => ?_) fun f cdv A outer s H vs Q E hr h => ?_
  · obtain ⟨n, rfl, _⟩ := h; rfl
  obtain ⟨n, rfl, hn, q⟩ := h
  refine ⟨_, (pss_cons (ps_set (i := 1) sc_law_tails.nd rfl (Or.inl rfl) (pe_op op_mod (pe_op op_pow (pv 0) pe_int) (pe_op op_pow pe_int pe_int)))
      (pss_cons (ps_set (i := 2) sc_law_tails.nd rfl (Or.inl rfl) (pe_tup (pa_cons (pv 1) (pa_cons (pe_op op_mod (pv 0) pe_int) (pa_cons (pe_op op_mod (pe_op op_pow (pv 0) pe_int) (pe_op op_pow pe_int pe_int)) (pa_cons (pe_op op_mod (pe_op op_mul (pe_op op_add (pe_op op_pow (pv 0) pe_int) pe_int) pe_int) (pe_op op_pow pe_int pe_int)) pa_nil))))))
      (pss_cons (ps_set (i := 3) sc_law_tails.nd rfl (Or.inl rfl) (pe_c (ok_tail T) hr (by decide) rfl (pa_cons (pe_ix (ix_tupK K) (pv 2) pe_int (fun _ _ => rfl)) (pa_cons (pe_ix (ix_tupK K) (pv 2) pe_int (fun _ _ => rfl)) (pa_cons (pe_ix (ix_tupK K) (pv 2) pe_int (fun _ _ => rfl)) (pa_cons (pe_ix (ix_tupK K) (pv 2) pe_int (fun _ _ => rfl)) pa_nil))))))
      (pss_cons (ps_set (i := 4) sc_law_tails.nd rfl (Or.inl rfl) (pe_op op_cat (pe_op op_cat (pe_op op_cat (pe_op op_cat (pe_lst (pa_cons pe_int (pa_cons pe_int (pa_cons pe_int (pa_cons pe_int pa_nil))))) (pe_c (ok_law_fixed T) hr (by decide) rfl (pa_cons (pv 1) (pa_cons pe_int pa_nil)))) (pe_lst (pa_cons (pe_op op_mod (pv 0) pe_int) pa_nil))) (pe_c (ok_law_fixed T) hr (by decide) rfl (pa_cons (pe_ix (ix_tupK K) (pv 2) pe_int (fun _ _ => rfl)) (pa_cons pe_int pa_nil)))) (pe_c (ok_law_fixed T) hr (by decide) rfl (pa_cons (pe_ix (ix_tupK K) (pv 2) pe_int (fun _ _ => rfl)) (pa_cons pe_int pa_nil)))))
      (pss_cons (ps_set (i := 4) sc_law_tails.nd rfl (Or.inl rfl) (pe_op op_cat (pv 4) (pe_lc (own := [("k", 5)]) (g := gName 5) (tt := tYes) rfl sc_law_tails.nd (pi_range1 rfl T.z_range (pa_cons pe_int pa_nil)) (blkOk_by (own := [("k", 5)]) (N := nm_law_tails) (sc := defScope s_law_tails) (by decide +kernel)) (fun _ _ _ _ _ => (pg_name (i := 5) sc_law_tails.nd rfl (Or.inl rfl))) (fun _ _ _ _ _ => pts_nil) (fun _ _ _ _ _ => pe_int))))
      (pss_cons (ps_if (PW.pt (pw_or (pt_cmpR (op_neDK K hr.units) (pv 3) (pv 4) (nomark _)) (pw_or (pt_cmpR (op_neDK K hr.units) (pe_c (ok_read_tail T) hr (by decide) rfl (pa_cons (pv 3) pa_nil)) (pv 2) (nomark _)) (pw_or (pt_cmpR (op_neDK K hr.units) (pv 3) (pv 4) (nomark _)) (pw_or1 (pt_cmpR op_notNq (pe_c (ok_read_tail T) hr (by decide) rfl (pa_cons pe_non pa_nil)) pe_non (nomark _))))))) (pss_one (ps_ret pe_bl)) pss_nil)
      (pss_cons (ps_for PassesOwn.never rfl (pi_listK K (pe_lst (pa_cons pe_int (pa_cons pe_int (pa_cons pe_int (pa_cons pe_int (pa_cons pe_int (pa_cons pe_int (pa_cons pe_int pa_nil))))))))) (pg_name (i := 6) sc_law_tails.nd rfl (Or.inl rfl))
      (pss_cons (ps_set (i := 7) sc_law_tails.nd rfl (Or.inl rfl) (pe_callTy (call_listK K) (by rfl) T.z_list (by decide +kernel) (pa_cons (pv 3) pa_nil)))
      (pss_cons (ps_asg (pe_op op_mod (pe_op op_add (pe_op op_add (pe_ix (ix_listK K) (pv 7) (pv 6) (fun _ _ => rfl)) pe_int) (pe_op op_mod (pv 0) pe_int)) pe_int) (pg_sub (pv 7) (pv 6) set_list))
      (pss_one (ps_if (pt_cmpR op_notNq (pe_c (ok_read_tail T) hr (by decide) rfl (pa_cons (pv 7) pa_nil)) pe_non (nomark _)) (pss_one (ps_ret pe_bl)) pss_nil)))))
      (pss_cons (ps_set (i := 7) sc_law_tails.nd rfl (Or.inl rfl) (pe_callTy (call_listK K) (by rfl) T.z_list (by decide +kernel) (pa_cons (pv 3) pa_nil)))
      (pss_cons (ps_asg (pe_op op_add pe_int (pe_op op_mod (pv 0) pe_int)) (pg_sub (pv 7) pe_int set_list))
      (pss_one (ps_ret (pe_and (pe_cmpR op_isNq (pe_c (ok_read_tail T) hr (by decide) rfl (pa_cons (pv 7) pa_nil)) pe_non (nomark _)) (pe_one (pe_cmpR op_isNq (pe_c (ok_read_tail T) hr (by decide) rfl (pa_cons (pe_lc (own := [("k", 5)]) (g := gName 5) (tt := tYes) rfl sc_law_tails.nd (pi_range1 rfl T.z_range (pa_cons pe_int pa_nil)) (blkOk_by (own := [("k", 5)]) (N := nm_law_tails) (sc := defScope s_law_tails) (by decide +kernel)) (fun _ _ _ _ _ => (pg_name (i := 5) sc_law_tails.nd rfl (Or.inl rfl))) (fun _ _ _ _ _ => pts_nil) (fun _ _ _ _ _ => pe_int)) pa_nil)) pe_non (nomark _))))))))))))))), ?_⟩
  walk_at "k"
  walk_at "rd"
  have ec : (n : Int) ^ Int.toNat 3 % 2 ^ Int.toNat 48 = ((n ^ 3 % 2 ^ 48 : Nat) : Int) := by rw [Int.natCast_emod, Int.natCast_pow]; rfl
  have ei : (n : Int) ^ Int.toNat 2 % 2 ^ Int.toNat 32 = ((n ^ 2 % 2 ^ 32 : Nat) : Int) := by rw [Int.natCast_emod, Int.natCast_pow]; rfl
  have en : ((n : Int) ^ Int.toNat 2 + 12345) * 65537 % 2 ^ Int.toNat 32 = (((n ^ 2 + 12345) * 65537 % 2 ^ 32 : Nat) : Int) := by rw [Int.natCast_emod, Int.natCast_mul, Int.natCast_add, Int.natCast_pow]; rfl
  rw [ec, ei, en]
  have ha : n ^ 3 % 2 ^ 48 < 2 ^ 48 := Nat.mod_lt _ (by decide)
  have hc : n ^ 2 % 2 ^ 32 < 2 ^ 32 := Nat.mod_lt _ (by decide)
  have hd : (n ^ 2 + 12345) * 65537 % 2 ^ 32 < 2 ^ 32 := Nat.mod_lt _ (by decide)
  have hb : n % 2 < 2 := Nat.mod_lt _ (by decide)
  generalize n ^ 3 % 2 ^ 48 = a at *
  generalize n ^ 2 % 2 ^ 32 = c at *
  generalize (n ^ 2 + 12345) * 65537 % 2 ^ 32 = d at *
  refine ⟨szl (by simp), fun t ht => ?_⟩
  have it : Is [] (upd H t (.tup [.int a, .int ((n : Int) % 2), .int c, .int d])) (.ref t) (fourP (a, n % 2, c, d)) := new_tup .nil (.cons (.int _) (.cons (.int _) (.cons (.int _) (.cons (.int _) .nil)))) ht
  have e1 : Ext [] H (upd H t (.tup [.int a, .int ((n : Int) % 2), .int c, .int d])) := .new ht
  have ht1 : (upd H t (.tup [.int a, .int ((n : Int) % 2), .int c, .int d])) t = some (.tup [.int a, .int ((n : Int) % 2), .int c, .int d]) := upd_same
  generalize upd H t (.tup [.int a, .int ((n : Int) % 2), .int c, .int d]) = H1 at it e1 ht1
  walk_at "rd"
  refine ⟨[], a, n % 2, c, d, rfl, .nil, fun v2 H2 e2 i2 => ?_⟩
  obtain ⟨a2, _, rfl, _⟩ := i2.listV
  walk_at "rd"
  refine ⟨szl (by simp), fun p3 hp3 => ?_⟩
  have i3 : Is [] (upd H2 p3 (.lst [.int 70, .int 73, .int 76, .int 69])) (.ref p3) (nats [70, 73, 76, 69]) := new_lst .nil (nats_V [70, 73, 76, 69]) hp3
  have e3 : Ext [] H2 (upd H2 p3 (.lst [.int 70, .int 73, .int 76, .int 69])) := .new hp3
  generalize upd H2 p3 (.lst [.int 70, .int 73, .int 76, .int 69]) = H3 at i3 e3
  walk_at "rd"
  refine ⟨[], a, 6, rfl, by decide, .nil, fun v4 H4 e4 i4 => ?_⟩
  obtain ⟨a4, _, rfl, _⟩ := i4.listV
  refine rd_dcat .nil (i3.mono e4) i4 (by simp [wf_len]) fun p5 H5 hp5 e5 _ i5 => ?_
  walk_at "rd"
  refine ⟨szl (by simp), fun p6 hp6 => ?_⟩
  have i6 : Is [] (upd H5 p6 (.lst [.int ((n : Int) % 2)])) (.ref p6) (nats [n % 2]) := new_lst .nil (nats_V [n % 2]) hp6
  have e6 : Ext [] H5 (upd H5 p6 (.lst [.int ((n : Int) % 2)])) := .new hp6
  generalize upd H5 p6 (.lst [.int ((n : Int) % 2)]) = H6 at i6 e6
  refine rd_dcat .nil (i5.mono e6) i6 (by simp [wf_len]) fun p7 H7 hp7 e7 _ i7 => ?_
  have e27 := ((((e3.trans e4).trans e5).trans e6).trans e7)
  have ht7 := (e2.trans e27).keep _ _ (fun q => nomatch q) ht1
  walk_at "rd"
  refine ⟨[], c, 4, rfl, by decide, .nil, fun v8 H8 e8 i8 => ?_⟩
  obtain ⟨a8, _, rfl, _⟩ := i8.listV
  refine rd_dcat .nil (i7.mono e8) i8 (by simp [wf_len]) fun p9 H9 hp9 e9 _ i9 => ?_
  have ht9 := (e8.trans e9).keep _ _ (fun q => nomatch q) ht7
  walk_at "rd"
  refine ⟨[], d, 4, rfl, by decide, .nil, fun v10 H10 e10 i10 => ?_⟩
  obtain ⟨a10, _, rfl, _⟩ := i10.listV
  refine rd_dcat .nil (i9.mono e10) i10 (by simp [wf_len]) fun p11 H11 hp11 e11 _ i11 => ?_
  rw [← List.map_append, ← List.map_append, ← List.map_append, ← List.map_append] at i11
  walk_at "rd"
  intro D hD
  refine q_lcR (M := []) (fun _ => .int 0) .nil hD (by decide) (fun _ => rfl) (fun i H' hi _ e R k => k _ _ .refl (.int 0)) fun H12 e12 i12 => ?_
  have ez : ((List.range (Int.toNat 13)).map fun _ => PyData.int 0) = (List.replicate 13 (0 : Nat)).map fun n : Nat => PyData.int n := rfl
  rw [ez] at i12
  refine rd_dcat .nil (i11.mono e12) i12 (by simp [wf_len]) fun p13 H13 hp13 e13 _ i13 => ?_
  rw [← List.map_append] at i13
  have i13 : Is [] H13 (.ref p13) (nats (tl a (n % 2) c d)) := i13
  have e913 := ((e10.trans e11).trans e12).trans e13
  have e213 := (e27.trans (e8.trans e9)).trans e913
  have is13 := i2.mono e213
  have it13 := it.mono (e2.trans e213)
  have hl := tl_len a (n % 2) c d
  walk_at "rd"
  have eqs : ∀ xs : List Nat, PyData.eqv (nats xs) (nats xs) = true := fun xs => by rw [eqv_nats]; exact decide_eq_true rfl
  refine rd_neD is13 i13 (sh_nats (n := 0) _).ok (sh_nats (n := 0) _).ok ?_
  rw [eqs]
  walk_at "rd"
  refine .inr ⟨[], a2, _, rfl, is13, hl, .nil, (fun h0 => by rw [rt_tl ha hb hc hd] at h0; cases h0), fun tt h0 v14 H14 e14 i14 => ?_⟩
  rw [rt_tl ha hb hc hd] at h0
  cases h0
  have sh4 : ∀ t : Nat × Nat × Nat × Nat, Sh 2 (fourP t) := fun t => Sh.tuple fun d hd => by
    simp only [List.mem_cons, List.not_mem_nil, or_false] at hd
    rcases hd with rfl | rfl | rfl | rfl <;> exact .int _
  walk_at "rd"
  refine rd_neD i14 (it13.mono e14) (sh4 _).ok (sh4 _).ok ?_
  rw [(sh4 _).refl]
  walk_at "rd"
  refine rd_neD (is13.mono e14) (i13.mono e14) (sh_nats (n := 0) _).ok (sh_nats (n := 0) _).ok ?_
  rw [eqs]
  walk_at "rd"
  refine .inl ⟨rfl, ?_⟩
  walk_at "rd"
  refine ⟨szl (by simp), fun p15 hp15 => ?_⟩
  have i15 : Is [] (upd H14 p15 (.lst [.int 0, .int 1, .int 2, .int 3, .int 19, .int 25, .int 31])) (.ref p15) (nats [0, 1, 2, 3, 19, 25, 31]) := new_lst .nil (nats_V [0, 1, 2, 3, 19, 25, 31]) hp15
  have e15 : Ext [] H14 (upd H14 p15 (.lst [.int 0, .int 1, .int 2, .int 3, .int 19, .int 25, .int 31])) := .new hp15
  generalize upd H14 p15 (.lst [.int 0, .int 1, .int 2, .int 3, .int 19, .int 25, .int 31]) = H15 at i15 e15
  have is15 := (is13.mono e14).mono e15
  have e015 : Ext [] H H15 := ((e1.trans e2).trans e213).trans (e14.trans e15)
  walk_at "rd"
  have upto : ∀ (H' : Hp) (Q' : VK), Ext [] H15 H' → (∀ p H2, H' p = none → Ext [] H' H2 → H2 p = some (.lst (nV (tl a (n % 2) c d))) → Q' (.ref p) H2) → qListOf K [.ref a2] H' Q' := fun H' Q' e k =>
    rd_dlist .nil (is15.mono e) fun p H2 hp e2 ⟨xs, hx, rx⟩ _ => k p H2 hp e2 (by rw [hx, is_nats rx])
  refine q_data (M := []) (H0 := H15) i15 (fun j σ H' => ∃ (x5 x6 x7 : Option V), σ = [some (.int n), some (.int a), some (.ref t), some (.ref a2), some (.ref p13), x5, x6, x7] ∧ Ext [] H15 H') ⟨_, _, _, rfl, .refl⟩ (fun i σ H' ⟨_, _, _, _, e⟩ => e) ?_ ?_
  · rintro j dd x σ H16 hj hx ⟨x5, x6, x7, rfl, e16⟩
    obtain ⟨pl, hpl, rfl⟩ := List.mem_map.mp (List.mem_of_getElem? hj)
    cases hx
    have hp32 : pl < 32 := by
      simp only [List.mem_cons, List.not_mem_nil, or_false] at hpl
      omega
    walk_at "rd"
    refine upto _ _ e16 fun p H17 hp e17 h17 => ?_
    walk_at "rd"
    refine rd_ixL (SqL.of h17) (atI_nV (by rw [hl]; exact hp32)) ?_
    walk_at "rd"
    refine rd_setL h17 (ixN_n (by rw [List.length_map, hl]; exact hp32)) ?_
    rw [tl_fixed hpl]
    have hv : ((fixed pl : Int) + 1 + (n : Int) % 255) % 256 = (((fixed pl + 1 + n % 255) % 256 : Nat) : Int) := by omega
    rw [hv, nV_set]
    have hne : (fixed pl + 1 + n % 255) % 256 ≠ fixed pl := by
      have : fixed pl < 256 := by
        simp only [List.mem_cons, List.not_mem_nil, or_false] at hpl
        rcases hpl with rfl | rfl | rfl | rfl | rfl | rfl | rfl <;> decide
      omega
    walk_at "rd"
    refine .inr ⟨[], p, _, rfl, .lst (by simp) upd_same (nats_V _), by rw [List.length_set, hl], .nil, fun _ H18 e18 => ?_, fun tt h0 => by rw [rt_changed hpl hl hne] at h0; cases h0⟩
    walk_at "rd"
    exact ⟨_, _, _, rfl, ((e16.trans e17).mut (e16.free hp)).trans e18⟩
  · rintro σ H16 ⟨x5, x6, x7, rfl, e16⟩
    walk_at "rd"
    refine upto _ _ e16 fun p H17 hp e17 h17 => ?_
    walk_at "rd"
    have hv : (2 + (n : Int) % 254) = ((2 + n % 254 : Nat) : Int) := by omega
    rw [hv, show Int.toNat 10 = 10 from rfl, nV_set]
    refine .inr ⟨[], p, _, rfl, .lst (by simp) upd_same (nats_V _), by rw [List.length_set, hl], .nil, fun _ H18 e18 => ?_, fun tt h0 => by rw [rt_area hl (by omega)] at h0; cases h0⟩
    have e018 : Ext [] H15 H18 := ((e16.trans e17).mut (e16.free hp)).trans e18
    walk_at "rd"
    intro D2 hD2
    refine q_lcR (M := []) (fun _ => .int 0) .nil hD2 (by decide) (fun _ => rfl) (fun i H' hi _ e R k => k _ _ .refl (.int 0)) fun H19 e19 i19 => ?_
    have ez : ((List.range (Int.toNat 32)).map fun _ => PyData.int 0) = (List.replicate 32 (0 : Nat)).map fun n : Nat => PyData.int n := rfl
    rw [ez] at i19
    walk_at "rd"
    refine .inr ⟨[], D2, _, rfl, i19, List.length_replicate, .nil, fun _ H20 e20 => ?_, fun tt h0 => by rw [rt_zero] at h0; cases h0⟩
    walk_at "rd"
    exact q _ (((e015.trans e018).trans e19).trans e20)
def sp_law (K : PySem.W.Frag) : Sp := fun vs H Q _ => ∃ (a : Addr) (ns : List Int), vs = [.ref a] ∧ SqL K H a (ns.map V.int) ∧ ns.length ≤ 63 ∧ Only H ∧ ∀ H', Q (.bl true) H'
theorem law_end {fa : Addr} (T : Txt K mg) (hmg : mg "law" = some (.ref fa)) :
    ∃ fd : FuncData, (∀ (s : Shared) (v : Value), BindsTo s fd ⟨[v], []⟩ [("script", v)]) ∧ ∀ base : Heap, FnOk P w K mg base CX0 6 fa fd ["script"] (sp_law K) := by
  refine T.f_law.law hmg sc_law bd_law (fun vs H Q E h => ?_) fun base f cdv A outer s H vs Q E hr h => ?_
  · obtain ⟨a, ns, rfl, _⟩ := h; rfl
  obtain ⟨a, ns, rfl, hS, hl63, hO, k⟩ := h
  refine ⟨_, (pss_cons (ps_set (i := 1) sc_law.nd rfl (Or.inl rfl) (pe_op op_mod (pe_c (ok_law_draw T) hr (by decide) rfl (pa_cons (pv 0) (pa_cons pe_int pa_nil))) pe_int))
      (pss_one (ps_ret (pe_and (pe_c (ok_law_blocks T) hr (by decide) rfl (pa_cons (pv 0) pa_nil)) (pe_and (pe_c (ok_law_tails T) hr (by decide) rfl (pa_cons (pv 1) pa_nil)) (pe_one (pe_c (ok_law_parts T) hr (by decide) rfl (pa_cons (pe_op op_add pe_int (pe_op op_mod (pv 1) pe_int)) pa_nil)))))))), ?_⟩
  walk_at "k"
  walk_at "rd"
  refine rd_draw hS hl63 (by decide) fun n _ => ?_
  walk_at "rd"
  refine ⟨a, ns, rfl, hS, hl63, fun H1 e1 => ?_⟩
  walk_at "rd"
  have en : (n : Int) % 1000000 = ((n % 1000000 : Nat) : Int) := by omega
  rw [en]
  refine ⟨n % 1000000, rfl, Nat.mod_lt _ (by decide), fun H2 e2 => ?_⟩
  walk_at "rd"
  refine ⟨_, rfl, ?_⟩
  walk_at "rd"
  exact k _
end
def d_area_size : He.DefD := ⟨("area_size", none), "area_size", "area_size", defArgs s_area_size, defBody s_area_size, defScope s_area_size, [], []⟩
def d_area_start : He.DefD := ⟨("area_start", none), "area_start", "area_start", defArgs s_area_start, defBody s_area_start, defScope s_area_start, [], []⟩
def d_region_start : He.DefD := ⟨("region_start", none), "region_start", "region_start", defArgs s_region_start, defBody s_region_start, defScope s_region_start, [], []⟩
def d_stripe_count : He.DefD := ⟨("stripe_count", none), "stripe_count", "stripe_count", defArgs s_stripe_count, defBody s_stripe_count, defScope s_stripe_count, [], []⟩
def d_write_fixed : He.DefD := ⟨("write_fixed", none), "write_fixed", "write_fixed", defArgs s_write_fixed, defBody s_write_fixed, defScope s_write_fixed, [], []⟩
def d_read_fixed : He.DefD := ⟨("read_fixed", none), "read_fixed", "read_fixed", defArgs s_read_fixed, defBody s_read_fixed, defScope s_read_fixed, [], []⟩
def d_log_block : He.DefD := ⟨("log_block", none), "log_block", "log_block", defArgs s_log_block, defBody s_log_block, defScope s_log_block, [], []⟩
def d_read_block : He.DefD := ⟨("read_block", none), "read_block", "read_block", defArgs s_read_block, defBody s_read_block, defScope s_read_block, [], []⟩
def d_tail : He.DefD := ⟨("tail", none), "tail", "tail", defArgs s_tail, defBody s_tail, defScope s_tail, [], []⟩
def d_read_tail : He.DefD := ⟨("read_tail", none), "read_tail", "read_tail", defArgs s_read_tail, defBody s_read_tail, defScope s_read_tail, [], []⟩
def d_law_draw : He.DefD := ⟨("_law_draw", none), "_law_draw", "_law_draw", defArgs s_law_draw, defBody s_law_draw, defScope s_law_draw, [], []⟩
def d_law_data : He.DefD := ⟨("_law_data", none), "_law_data", "_law_data", defArgs s_law_data, defBody s_law_data, defScope s_law_data, [], []⟩
def d_law_fixed : He.DefD := ⟨("_law_fixed", none), "_law_fixed", "_law_fixed", defArgs s_law_fixed, defBody s_law_fixed, defScope s_law_fixed, [], []⟩
def d_law_blocks : He.DefD := ⟨("_law_blocks", none), "_law_blocks", "_law_blocks", defArgs s_law_blocks, defBody s_law_blocks, defScope s_law_blocks, [], []⟩
def d_law_tails : He.DefD := ⟨("_law_tails", none), "_law_tails", "_law_tails", defArgs s_law_tails, defBody s_law_tails, defScope s_law_tails, [], []⟩
def d_law_parts : He.DefD := ⟨("_law_parts", none), "_law_parts", "_law_parts", defArgs s_law_parts, defBody s_law_parts, defScope s_law_parts, [], []⟩
def d_law : He.DefD := ⟨("law", none), "law", "law", defArgs s_law, defBody s_law, defScope s_law, [], []⟩
def fn : List He.DefD := [d_area_size, d_area_start, d_region_start, d_stripe_count, d_write_fixed, d_read_fixed, d_log_block, d_read_block, d_tail, d_read_tail, d_law_draw, d_law_data, d_law_fixed, d_law_blocks, d_law_tails, d_law_parts, d_law]
def fa : List He.Fa := [.glo "area_size", .glo "area_start", .glo "region_start", .glo "stripe_count", .glo "write_fixed", .glo "read_fixed", .glo "log_block", .glo "read_block", .glo "tail", .glo "read_tail", .glo "_law_draw", .glo "_law_data", .glo "_law_fixed", .glo "_law_blocks", .glo "_law_tails", .glo "_law_parts", .glo "law", .int "SECTOR" 32, .glo "SIGN", .free "int", .free "len", .free "list", .free "min", .free "range"]
def exs : List (PySem.W.Frag → Bool) := [fun K => He.tupB K "SIGN" [.int 70, .int 73, .int 76, .int 69]]
def ex (K : PySem.W.Frag) : Bool := exs.all fun f => f K
theorem txt_of {K : PySem.W.Frag} {h : Heap} {mg : Str → Option Value} (X : K.In h) (G : h.Ns mainGlobals mg) (c : He.SaysD fa fn K) (cx : ex K = true) : Txt K mg where
  f_area_size := by obtain ⟨fd, F⟩ := c.def_ 0 (d := d_area_size) rfl; exact ⟨_, fd, F, He.glo_ok X G (c.fact 0 (f := .glo "area_size") rfl)⟩
  f_area_start := by obtain ⟨fd, F⟩ := c.def_ 1 (d := d_area_start) rfl; exact ⟨_, fd, F, He.glo_ok X G (c.fact 1 (f := .glo "area_start") rfl)⟩
  f_region_start := by obtain ⟨fd, F⟩ := c.def_ 2 (d := d_region_start) rfl; exact ⟨_, fd, F, He.glo_ok X G (c.fact 2 (f := .glo "region_start") rfl)⟩
  f_stripe_count := by obtain ⟨fd, F⟩ := c.def_ 3 (d := d_stripe_count) rfl; exact ⟨_, fd, F, He.glo_ok X G (c.fact 3 (f := .glo "stripe_count") rfl)⟩
  f_write_fixed := by obtain ⟨fd, F⟩ := c.def_ 4 (d := d_write_fixed) rfl; exact ⟨_, fd, F, He.glo_ok X G (c.fact 4 (f := .glo "write_fixed") rfl)⟩
  f_read_fixed := by obtain ⟨fd, F⟩ := c.def_ 5 (d := d_read_fixed) rfl; exact ⟨_, fd, F, He.glo_ok X G (c.fact 5 (f := .glo "read_fixed") rfl)⟩
  f_log_block := by obtain ⟨fd, F⟩ := c.def_ 6 (d := d_log_block) rfl; exact ⟨_, fd, F, He.glo_ok X G (c.fact 6 (f := .glo "log_block") rfl)⟩
  f_read_block := by obtain ⟨fd, F⟩ := c.def_ 7 (d := d_read_block) rfl; exact ⟨_, fd, F, He.glo_ok X G (c.fact 7 (f := .glo "read_block") rfl)⟩
  f_tail := by obtain ⟨fd, F⟩ := c.def_ 8 (d := d_tail) rfl; exact ⟨_, fd, F, He.glo_ok X G (c.fact 8 (f := .glo "tail") rfl)⟩
  f_read_tail := by obtain ⟨fd, F⟩ := c.def_ 9 (d := d_read_tail) rfl; exact ⟨_, fd, F, He.glo_ok X G (c.fact 9 (f := .glo "read_tail") rfl)⟩
  f_law_draw := by obtain ⟨fd, F⟩ := c.def_ 10 (d := d_law_draw) rfl; exact ⟨_, fd, F, He.glo_ok X G (c.fact 10 (f := .glo "_law_draw") rfl)⟩
  f_law_data := by obtain ⟨fd, F⟩ := c.def_ 11 (d := d_law_data) rfl; exact ⟨_, fd, F, He.glo_ok X G (c.fact 11 (f := .glo "_law_data") rfl)⟩
  f_law_fixed := by obtain ⟨fd, F⟩ := c.def_ 12 (d := d_law_fixed) rfl; exact ⟨_, fd, F, He.glo_ok X G (c.fact 12 (f := .glo "_law_fixed") rfl)⟩
  f_law_blocks := by obtain ⟨fd, F⟩ := c.def_ 13 (d := d_law_blocks) rfl; exact ⟨_, fd, F, He.glo_ok X G (c.fact 13 (f := .glo "_law_blocks") rfl)⟩
  f_law_tails := by obtain ⟨fd, F⟩ := c.def_ 14 (d := d_law_tails) rfl; exact ⟨_, fd, F, He.glo_ok X G (c.fact 14 (f := .glo "_law_tails") rfl)⟩
  f_law_parts := by obtain ⟨fd, F⟩ := c.def_ 15 (d := d_law_parts) rfl; exact ⟨_, fd, F, He.glo_ok X G (c.fact 15 (f := .glo "_law_parts") rfl)⟩
  f_law := by obtain ⟨fd, F⟩ := c.def_ 16 (d := d_law) rfl; exact ⟨_, fd, F, He.glo_ok X G (c.fact 16 (f := .glo "law") rfl)⟩
  g_SECTOR := by obtain ⟨t, e⟩ := He.int_ok X G (c.fact 17 (f := .int "SECTOR" 32) rfl); exact ⟨_, e, t, rfl⟩
  t_SIGN := ⟨He.glo_ok X G (c.fact 18 (f := .glo "SIGN") rfl), fun H => He.tupB_ok (ex_at (exs := exs) cx 0) H⟩
  z_int := He.free_ok X G (c.fact 19 (f := .free "int") rfl)
  z_len := He.free_ok X G (c.fact 20 (f := .free "len") rfl)
  z_list := He.free_ok X G (c.fact 21 (f := .free "list") rfl)
  z_min := He.free_ok X G (c.fact 22 (f := .free "min") rfl)
  z_range := He.free_ok X G (c.fact 23 (f := .free "range") rfl)
def loose : List Str := (["SECTOR", "SIGN", "area_size", "area_start", "region_start", "stripe_count", "write_fixed", "read_fixed", "log_block", "read_block", "tail", "read_tail", "_law_draw", "_law_data", "_law_fixed", "_law_blocks", "_law_tails", "_law_parts"] : List Str)
abbrev R : PySem.W.OpenRow := PySem.W.OpenLaw.row PySem.Challenge.rw_steadwhole_k02_log_blocks_and_tails
abbrev hk : PySem.W.Hook := hookX 5 fa fn ex
def ob (s : PySem.W.SharedT) : He.AlD × Bool := obsX 5 fa fn ex (HandSHeadRun.getT s)
theorem ob_eq (s : PySem.W.SharedT) : ob s = hk.obs s.abs := obsX_eq (HandSHeadRun.getT_eq s)
theorem run (w : World) : HandSHeadRun.RunEq R (PySem.W.view R.prog [20]) hk ob 2000 loose w := by
  intro os
  kernel_rfl
end Z
open PySem PySem.W PySem.Calls PyProof.Rows
theorem PySem.Challenge.cw_steadwhole_k02_log_blocks_and_tails_holds : PySem.Challenge.rw_steadwhole_k02_log_blocks_and_tails.Holds := by
  w_on; o_law
  refine HandSHeadRun.head_any (r := OpenLaw.row PySem.Challenge.rw_steadwhole_k02_log_blocks_and_tails) (q := view (OpenLaw.row PySem.Challenge.rw_steadwhole_k02_log_blocks_and_tails).prog [20]) (H := Z.hk) (ob := Z.ob) (M := 2000) (loose := Z.loose) (d := HandSHeadRun.topDef (OpenLaw.row PySem.Challenge.rw_steadwhole_k02_log_blocks_and_tails).prog 20) (kwd := []) Z.ob_eq
    (by kernel_rfl) (fun s => by kernel_rfl) Z.run (by kernel_rfl) (by kernel_rfl) (by kernel_rfl) (by rfl) (by first | assumption | decide +kernel) (by decide +kernel) ⟨rfl, rfl, rfl, rfl, rfl, by decide +kernel⟩ ?hw ?hc
  case hw => w_witness2
  case hc =>
    refine L2.walk_ofE (l := PySem.Challenge.rw_steadwhole_k02_log_blocks_and_tails) (n := 63) (k := 6) (x := "script") (CX := L2.CX0) rfl (by decide) (by kernel_rfl) ⟨rfl, by decide, by decide⟩ ?F (fun _ _ _ _ z => z)
    intro w mg fa h Y G hmg0
    obtain ⟨K, KX, c, cx⟩ := Y
    have hmg : mg ("law" : PySem.Str) = some (.ref fa) := by
      have e : (HandSHeadRun.topDef (OpenLaw.row PySem.Challenge.rw_steadwhole_k02_log_blocks_and_tails).prog 20).name = ("law" : PySem.Str) := by kernel_rfl
      rw [← e]
      exact hmg0
    have T : Z.Txt K mg := Z.txt_of KX G c cx
    obtain ⟨fd, hb, hF⟩ := Z.law_end (P := (PySem.Challenge.rw_steadwhole_k02_log_blocks_and_tails).prog) (w := w) T hmg
    exact ⟨K, fd, Z.sp_law K, KX, hb, fun H a ns hl hO hS => ⟨a, ns, rfl, hS, hl, hO, fun _ => rfl⟩, fun base _ _ => hF base⟩

