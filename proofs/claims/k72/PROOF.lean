import PyProof.Rows.All
import Wide.All
import OpenK.AllK
import Wide.FinOn
import HandS.ForMost
import HandS.ForExc
import HandS.ExcInit
import HandS.ExcField
import HandS.Property
import HandS.IsInst
import HandS.Star
import HandS.MakeKwOnly
import HandS.Conv
import HandS.Wide
import HandS.Codes
import HandS.Deep
import HandS.Flow
import HandS.Style
import HandS.RevRange
import HandS.Head2
import HandS.HeadEnd
import HandS.HeadHook4
import KE.KStateDown
import HandS.Head0
import HandS.Head1
import HandS.Ends
import PySem.Challenge.RW_rungrepeats_k72_whole_deeds_taken_back
set_option Elab.async false
set_option linter.all false
set_option maxRecDepth 100000
set_option maxHeartbeats 2000000
namespace Rg
open PySem PySem.Spec PyProof.Rows L2

/-! ## calls: one form for all -/
theorem pa0 {X : Cx} {σ : L2.St} : PassesAt CX0 X σ E0 := fun _ _ _ _ _ _ h => h.elim
theorem paL {X : Cx} {σ : L2.St} : PassesAt (L2.CX X.prog X.w) X σ E0 := fun _ _ _ _ _ _ h => by
  obtain ⟨_, _, _, _, _, _, _, _, _, _, _, _, z⟩ := h
  exact z.elim
theorem paE {X : Cx} {E : XK} {σ : L2.St} (tk : Takes X (fun cls d _ H => E cls d H)) : PassesAt (L2.CX X.prog X.w) X σ E :=
  fun pins H s e s' I c => passes_call tk (fun _ _ _ _ h => h) pins σ H s e s' I c

/-- the module's name x stands for a def with a promise -/
structure CalS (P : Program) (w : World) (K : PySem.W.Frag) (mg : Str → Option Value) (base : Heap) (CX : CXT) (k : Nat) (x : Str) (sp : Sp) : Prop where
  ex : ∃ (f : Addr) (fd : FuncData) (ps : List Str), FnOk P w K mg base CX k f fd ps sp ∧ mg x = some (.ref f) ∧ PySem.W.keepIn K (.ref f) = true ∧ Binds K fd ps []
structure MetS (P : Program) (w : World) (K : PySem.W.Frag) (mg : Str → Option Value) (base : Heap) (CX : CXT) (k : Nat) (C : Addr) (m : Str) (sp : Sp) : Prop where
  ex : ∃ (f : Addr) (fd : FuncData) (ps : List Str), Cls K C ∧ Meth K C m f ∧ FnOk P w K mg base CX k f fd ps sp ∧ Binds K fd ps []
structure MakS (P : Program) (w : World) (K : PySem.W.Frag) (mg : Str → Option Value) (base : Heap) (CX : CXT) (k : Nat) (x : Str) (C : Addr) (sp : Sp) : Prop where
  ex : ∃ (f : Addr) (fd : FuncData) (ps : List Str), Mk K C f ∧ FnOk P w K mg base CX k f fd ps sp ∧ mg x = some (.ref C) ∧ Binds K fd ps []
structure PrpS (P : Program) (w : World) (K : PySem.W.Frag) (mg : Str → Option Value) (base : Heap) (CX : CXT) (k : Nat) (C : Addr) (m : Str) (sp : Sp) : Prop where
  ex : ∃ (p f : Addr) (fd : FuncData) (ps : List Str), Cls K C ∧ PropOf K C m p f ∧ FnOk P w K mg base CX k f fd ps sp ∧ Binds K fd ps []
structure InsS (P : Program) (w : World) (K : PySem.W.Frag) (mg : Str → Option Value) (base : Heap) (CX : CXT) (k : Nat) (C : Addr) (sp : Sp) : Prop where
  ex : ∃ (f : Addr) (fd : FuncData) (ps : List Str), StX.CallO K C f ∧ FnOk P w K mg base CX k f fd ps sp ∧ Binds K fd ps []

def tMethS (C : Addr) (m : Str) (sp : Sp) (E : L2.St → XK) (ta : TE) (t : TA) : TE := fun σ H Q => ta σ H fun x H1 => ∃ a dx fs, x = .ref a ∧ H1 a = some (.ins C dx fs) ∧ fs.lookup m = none ∧
  t σ H1 fun vs H2 => sp (x :: vs) H2 Q (E σ)
def tMakeS (C : Addr) (sp : Sp) (E : L2.St → XK) (t : TA) : TE := fun σ H Q => t σ H fun vs H1 => ∀ x dx, H1 x = none → H1 dx = none → dx ≠ x →
  sp (.ref x :: vs) (upd (upd H1 dx (.own x)) x (.ins C dx [])) (fun v H2 => v = .non ∧ Q (.ref x) H2) (E σ)
def tPropS (C : Addr) (sp : Sp) (E : L2.St → XK) (ta : TE) : TE := fun σ H Q => ta σ H fun x H1 => ∃ a dx fs, x = .ref a ∧ H1 a = some (.ins C dx fs) ∧ sp [.ref a] H1 Q (E σ)
def tInstS (C : Addr) (sp : Sp) (E : L2.St → XK) (tf : TE) (t : TA) : TE := fun σ H Q => tf σ H fun y H1 => ∃ a, y = V.ref a ∧ t σ H1 fun vs H2 => (∃ dx fs, H2 a = some (.ins C dx fs)) ∧ sp (V.ref a :: vs) H2 Q (E σ)
def tInstKS (C : Addr) (sp : Sp) (n : Nat) (gV : List V → List V → List V) (E : L2.St → XK) (tf : TE) (tk : TA) : TE := fun σ H Q => tf σ H fun y H1 => ∃ a, y = V.ref a ∧ tk σ H1 fun zs H2 => (∃ dx fs, H2 a = some (.ins C dx fs)) ∧ zs.length = n ∧ sp (gV [.ref a] zs) H2 Q (E σ)
def tMakeKS (C : Addr) (sp : Sp) (n : Nat) (gV : List V → List V → List V) (E : L2.St → XK) (tk : TA) : TE := fun σ H Q => tk σ H fun zs H1 => zs.length = n ∧ ∀ x dx, H1 x = none → H1 dx = none → dx ≠ x →
      sp (gV [.ref x] zs) (upd (upd H1 dx (.own x)) x (.ins C dx [])) (fun v H2 => v = .non ∧ Q (.ref x) H2) (E σ)
/-- .. with keywords alone; gV: the keywords' values in the parameters' order -/
def tCallKS (sp : Sp) (n m : Nat) (gV : List V → List V → List V) (E : L2.St → XK) (t tk : TA) : TE := fun σ H Q => t σ H fun vs H1 => tk σ H1 fun zs H2 => vs.length = n ∧ zs.length = m ∧ sp (gV vs zs) H2 Q (E σ)

section
variable {X : Cx} {CX : CXT} {k j : Nat} {f C : Addr} {fd : FuncData} {ps ks : List Str} {sp : Sp} {E : L2.St → XK} {x m : Str} {p pos apos : Pos} {e o : Expr} {es : List Expr} {ta te : TE} {t tk : TA} {kws : List Keyword}
theorem run_fnS0 {pins : List (Addr × Obj)} {σ : L2.St} {H : Hp} {s : Shared} {Q : VK} {us : List Value} {vs : List V} (F : FnOk X.prog X.w X.K X.mg X.base CX k f fd ps sp) (hr : Room k X.A) (hb : Binds X.K fd ps []) (hx : PassesAt CX X σ (E σ))
    (I : Inv X pins σ H s) (r : Vals vs us) (h : sp vs H Q (E σ)) : wpAny (model X.prog X.w) X.A (call (.ref f) us) (EP X pins σ Q) X.xe s := run_fnS (E := E) F hr hb hx I r h
theorem pe_cs (c : CalS X.prog X.w X.K X.mg X.base CX k x sp) (hr : Room j X.A) (hk : k ≤ j) (hg : Gl X x) (hx : ∀ σ, PassesAt CX X σ (E σ)) (ha : PA X (e :: es) t)
    (hdb : (x == ("__debug__" : Str)) = false := by decide) (he : starEach (e :: es) X.env = (false, eval e X.env) :: starEach es X.env := by rfl) (hpl : (backTo pos (starEach es X.env)).any (·.1) = false := by rfl) :
    PE X (.Call (.Name x p) (e :: es) [] pos) (tCallS sp E t) := by
  obtain ⟨f, fd, ps, F, hm, kp, b⟩ := c.ex
  exact pe_callS F (hr.mono hk) hg hm kp b hx ha hdb he hpl
theorem pe_cs0 (c : CalS X.prog X.w X.K X.mg X.base CX k x sp) (hr : Room j X.A) (hk : k ≤ j) (hg : Gl X x) (hx : ∀ σ, PassesAt CX X σ (E σ))
    (hdb : (x == ("__debug__" : Str)) = false := by decide) :
    PE X (.Call (.Name x p) [] [] pos) (tCallS sp E tNil) := by
  obtain ⟨f, fd, ps, F, hm, kp, b⟩ := c.ex
  refine ⟨fun pins s σ H Q I h => ?_⟩
  refine wpAny_Call_Name_kw (ld_glob I hg hm ?_ hdb)
  exact PySem.W.callWith_K0 I.kIn kp (run_fnS (us := []) F (hr.mono hk) b (hx σ) I .nil h)
theorem pe_ms {pl : Sem Bool} (c : MetS X.prog X.w X.K X.mg X.base CX k C m sp) (hr : Room j X.A) (hk : k ≤ j) (hx : ∀ σ, PassesAt CX X σ (E σ)) (he : PE X o ta) (ha : PA X (e :: es) t)
    (hst : starEach (e :: es) X.env = (false, eval e X.env) :: starEach es X.env := by rfl) (hpl : (backTo pos (starEach es X.env)).any (·.1) = false := by rfl)
    (ht : eval (.Call (.Attribute o m apos) (e :: es) [] pos) X.env = (do
      let ov ← eval o X.env
      standAt apos.atName
      let (f, first) ← holding [ov] (getMethod ov m pl)
      callWith pos f first (backTo pos (starEach (e :: es) X.env)) (backToKw pos (keywordEach [] X.env))) := by rfl) :
    PE X (.Call (.Attribute o m apos) (e :: es) [] pos) (tMethS C m sp E ta t) := by
  obtain ⟨f, fd, ps, hc, hm, F, b⟩ := c.ex
  refine ⟨fun pins s σ H Q I h => ?_⟩
  refine PySem.W.methodCall_KW (pl := pl) (thn (he.run pins s σ H _ I h) fun u s1 ⟨x, H1, I1, rx, a, dx, fs, ex, ea, l, q⟩ => ?_) ht
  subst ex
  obtain rfl : u = Value.ref a := rx
  refine getmeth_ok I1 ea hc hm l ?_
  refine PySem.W.callWith_K (first := [.ref a]) (h₀ := X.base) I.ok.mod.kin hm.kp (thn (ha.run pos pins s1 σ H1 _ I1 q) fun us s2 ⟨vs, H2, I2, r, q2⟩ => ⟨I2.kIn, ?_⟩) hst hpl
  exact run_fnS (us := .ref a :: us) (vs := .ref a :: vs) F (hr.mono hk) b (hx σ) I2 (.cons rfl r) q2
theorem pe_ms0 {pl : Sem Bool} (c : MetS X.prog X.w X.K X.mg X.base CX k C m sp) (hr : Room j X.A) (hk : k ≤ j) (hx : ∀ σ, PassesAt CX X σ (E σ)) (he : PE X o ta)
    (ht : eval (.Call (.Attribute o m apos) [] [] pos) X.env = (do
      let ov ← eval o X.env
      standAt apos.atName
      let (f, first) ← holding [ov] (getMethod ov m pl)
      callWith pos f first (backTo pos (starEach [] X.env)) (backToKw pos (keywordEach [] X.env))) := by rfl) :
    PE X (.Call (.Attribute o m apos) [] [] pos) (tMethS C m sp E ta tNil) := by
  obtain ⟨f, fd, ps, hc, hm, F, b⟩ := c.ex
  refine ⟨fun pins s σ H Q I h => ?_⟩
  refine PySem.W.methodCall_KW (pl := pl) (thn (he.run pins s σ H _ I h) fun u s1 ⟨x, H1, I1, rx, a, dx, fs, ex, ea, l, q⟩ => ?_) ht
  subst ex
  obtain rfl : u = Value.ref a := rx
  refine getmeth_ok I1 ea hc hm l ?_
  exact PySem.W.callWith_K0 (first := [.ref a]) I1.kIn hm.kp (run_fnS (us := [.ref a]) (vs := [.ref a]) F (hr.mono hk) b (hx σ) I1 (.cons rfl .nil) q)

/-! ### making an instance -/
theorem run_makeS {n : Nat} {g : List Value → List Value → List Value} {gV : List V → List V → List V} {pins : List (Addr × Obj)} {σ : L2.St} {H : Hp} {s : Shared} {Q : VK} {us ws : List Value} {vs zs : List V} (M : Mk X.K C f) (F : FnOk X.prog X.w X.K X.mg X.base CX k f fd ps sp) (hr : Room (k + 1) X.A)
    (hb : KBn X.K fd ps (n + 1) ks g gV) (hx : PassesAt CX X σ (E σ)) (I : Inv X pins σ H s) (r : Vals vs us) (rz : Vals zs ws) (l1 : vs.length = n) (l2 : zs.length = ks.length)
    (h : ∀ x dx, H x = none → H dx = none → dx ≠ x → sp (gV (.ref x :: vs) zs) (upd (upd H dx (.own x)) x (.ins C dx [])) (fun v H2 => v = .non ∧ Q (.ref x) H2) (E σ)) :
    wpAny (model X.prog X.w) X.A (call (.ref C) us (ks.zip ws)) (EP X pins σ Q) X.xe s := by
  have hq := h (s.heap.objs.size + 1) s.heap.objs.size (I.hok.fresh (Nat.le_succ _)) (I.hok.fresh (Nat.le_refl _)) (Nat.ne_of_lt (Nat.lt_succ_self _))
  have I2 := Inv.made (C := C) I
  have r1 : Vals (V.ref (s.heap.objs.size + 1) :: vs) (Value.ref (s.heap.objs.size + 1) :: us) := .cons rfl r
  have r2 := hb.rel r1 rz
  have n1 : (Value.ref (s.heap.objs.size + 1) :: us).length = n + 1 := by
    rw [List.length_cons, ← r.length, l1]
  refine wpAny_call (make_map (f := f) I.kIn M.makes M.init (beq_iff_eq.mp M.fn) (codeAny_mono (F.run _ X.stack _ _ ⟨Value.ref (s.heap.objs.size + 1) :: us, ks.zip ws⟩ (g (Value.ref (s.heap.objs.size + 1) :: us) ws) _ _ (E σ) (hr.make C us (ks.zip ws))
    (I2.env0.make C us (ks.zip ws)) (hb.to _ (Value.ref (s.heap.objs.size + 1) :: us) ws I2.kIn n1 (rz.length.symm.trans l2)) r2 hq) fun r s' hq' => ?_))
  cases r with
  | error e => exact hx pins _ _ e s' I2 hq'
  | ok fl =>
    cases fl with
    | ret u =>
      obtain ⟨v, H', I3, rv, ev, q3⟩ := I2.after hq'
      subst ev
      exact ⟨rv, ⟨V.ref (s.heap.objs.size + 1), H', I3, rfl, q3⟩⟩
    | next => exact False.elim hq'
    | brk => exact False.elim hq'
    | cont => exact False.elim hq'
theorem kbn_of_binds {n : Nat} (hb : Binds X.K fd ps []) (hn : ps.length = n) : KBn X.K fd ps n [] (fun us _ => us) (fun vs _ => vs) where
  to := fun s us ws X h1 h2 => by
    have := hb s us X (by rw [List.append_nil, h1, hn])
    rw [List.append_nil] at this
    exact this
  rel := fun r _ => r
theorem pe_mks (c : MakS X.prog X.w X.K X.mg X.base CX k x C sp) (hr : Room j X.A) (hk : k + 1 ≤ j) (hg : Gl X x) (hx : ∀ σ, PassesAt CX X σ (E σ)) (ha : PA X (e :: es) t)
    (hdb : (x == ("__debug__" : Str)) = false := by decide) (he : starEach (e :: es) X.env = (false, eval e X.env) :: starEach es X.env := by rfl) (hpl : (backTo pos (starEach es X.env)).any (·.1) = false := by rfl) :
    PE X (.Call (.Name x p) (e :: es) [] pos) (tMakeS C sp E t) := by
  obtain ⟨f, fd, ps, M, F, hm, b⟩ := c.ex
  refine ⟨fun pins s σ H Q I h => ?_⟩
  refine wpAny_Call_Name_kw (ld_glob I hg hm ?_ hdb)
  refine PySem.W.callWith_K (h₀ := X.base) I.ok.mod.kin M.kp (thn (ha.run pos pins s σ H _ I h) fun us s1 ⟨vs, H1, I1, r, q⟩ => ⟨I1.kIn, ?_⟩) he hpl
  have hl : ps.length = vs.length + 1 := by
    have q1 := q (s1.heap.objs.size + 1) s1.heap.objs.size (I1.hok.fresh (Nat.le_succ _)) (I1.hok.fresh (Nat.le_refl _)) (Nat.ne_of_lt (Nat.lt_succ_self _))
    exact (F.len _ _ _ _ q1).symm
  exact run_makeS (ks := []) (ws := []) (zs := []) (n := vs.length) M F (hr.mono hk) (kbn_of_binds b hl) (hx σ) I1 r .nil rfl rfl q

/-! ### keywords alone -/
structure CalK (P : Program) (w : World) (K : PySem.W.Frag) (mg : Str → Option Value) (base : Heap) (CX : CXT) (k : Nat) (x : Str) (n : Nat) (ks : List Str) (gV : List V → List V → List V) (sp : Sp) : Prop where
  ex : ∃ (f : Addr) (fd : FuncData) (ps : List Str) (g : List Value → List Value → List Value), FnOk P w K mg base CX k f fd ps sp ∧ mg x = some (.ref f) ∧ PySem.W.keepIn K (.ref f) = true ∧ KBn K fd ps n ks g gV
structure MakK (P : Program) (w : World) (K : PySem.W.Frag) (mg : Str → Option Value) (base : Heap) (CX : CXT) (k : Nat) (x : Str) (C : Addr) (n : Nat) (ks : List Str) (gV : List V → List V → List V) (sp : Sp) : Prop where
  ex : ∃ (f : Addr) (fd : FuncData) (ps : List Str) (g : List Value → List Value → List Value), Mk K C f ∧ FnOk P w K mg base CX k f fd ps sp ∧ mg x = some (.ref C) ∧ KBn K fd ps (n + 1) ks g gV
structure InsK (P : Program) (w : World) (K : PySem.W.Frag) (mg : Str → Option Value) (base : Heap) (CX : CXT) (k : Nat) (C : Addr) (ks : List Str) (gV : List V → List V → List V) (sp : Sp) : Prop where
  ex : ∃ (f : Addr) (fd : FuncData) (ps : List Str) (g : List Value → List Value → List Value), StX.CallO K C f ∧ FnOk P w K mg base CX k f fd ps sp ∧ KBn K fd ps 1 ks g gV
theorem run_fnKS {n : Nat} {g : List Value → List Value → List Value} {gV : List V → List V → List V} {pins : List (Addr × Obj)} {σ : L2.St} {H : Hp} {s : Shared} {Q : VK} {us ws : List Value} {vs zs : List V} (F : FnOk X.prog X.w X.K X.mg X.base CX k f fd ps sp) (hr : Room k X.A)
    (hb : KBn X.K fd ps n ks g gV) (hx : PassesAt CX X σ (E σ)) (I : Inv X pins σ H s) (r : Vals vs us) (rz : Vals zs ws) (l1 : vs.length = n) (l2 : zs.length = ks.length) (h : sp (gV vs zs) H Q (E σ)) :
    codeAny (model X.prog X.w) X.A (.call (.ref f) ⟨us, ks.zip ws⟩) (fun r s' => match r with
      | .ok (.ret u) => EP X pins σ Q u s'
      | .ok _ => False
      | .error e => X.xe e s') s := by
  have r2 := hb.rel r rz
  refine codeAny_mono (F.run X.A X.stack s H ⟨us, ks.zip ws⟩ (g us ws) (gV vs zs) Q (E σ) hr I.env0 (hb.to s us ws I.kIn (r.length.symm.trans l1) (rz.length.symm.trans l2)) r2 h) fun r s' hq => ?_
  cases r with
  | error e => exact hx pins H s e s' I hq
  | ok fl =>
    cases fl with
    | ret u => exact I.after hq
    | next => exact False.elim hq
    | brk => exact False.elim hq
    | cont => exact False.elim hq

theorem pe_mks0 {gV : List V → List V → List V} (c : MakK X.prog X.w X.K X.mg X.base CX k x C 0 ks gV sp) (hr : Room j X.A) (hk : k + 1 ≤ j) (hg : Gl X x) (hx : ∀ σ, PassesAt CX X σ (E σ)) (hkw : PK X kws tk)
    (hall : (backToKw pos (keywordEach kws X.env)).all (·.1.isSome) = true := by rfl) (hks : (backToKw pos (keywordEach kws X.env)).filterMap (·.1) = ks := by rfl) (hdb : (x == ("__debug__" : Str)) = false := by decide)
    (hpl : ((backTo pos (starEach [] X.env)).any (·.1) || (backToKw pos (keywordEach kws X.env)).any (·.1.isNone)) = false := by rfl) :
    PE X (.Call (.Name x p) [] kws pos) (tMakeKS C sp ks.length gV E tk) := by
  obtain ⟨f, fd, ps, g, M, F, hm, b⟩ := c.ex
  refine ⟨fun pins s σ H Q I h => ?_⟩
  refine wpAny_Call_Name_kw (ld_glob I hg hm ?_ hdb)
  refine PySem.W.callWith_KW0 (h₀ := X.base) I.ok.mod.kin M.kp hall ?_ hpl
  refine thn (hkw.run pos pins s σ H _ I h) fun ws s2 ⟨zs, H2, I2, rz, l2, q2⟩ => ⟨I2.kIn, ?_⟩
  rw [hks]
  exact run_makeS (us := []) (vs := []) M F (hr.mono hk) b (hx σ) I2 .nil rz rfl l2 q2
theorem pe_cks0 {gV : List V → List V → List V} (c : CalK X.prog X.w X.K X.mg X.base CX k x 0 ks gV sp) (hr : Room j X.A) (hk : k ≤ j) (hg : Gl X x) (hx : ∀ σ, PassesAt CX X σ (E σ)) (hkw : PK X kws tk)
    (hall : (backToKw pos (keywordEach kws X.env)).all (·.1.isSome) = true := by rfl) (hks : (backToKw pos (keywordEach kws X.env)).filterMap (·.1) = ks := by rfl) (hdb : (x == ("__debug__" : Str)) = false := by decide)
    (hpl : ((backTo pos (starEach [] X.env)).any (·.1) || (backToKw pos (keywordEach kws X.env)).any (·.1.isNone)) = false := by rfl) :
    PE X (.Call (.Name x p) [] kws pos) (fun σ H Q => tk σ H fun zs H1 => zs.length = ks.length ∧ sp (gV [] zs) H1 Q (E σ)) := by
  obtain ⟨f, fd, ps, g, F, hm, kp, b⟩ := c.ex
  refine ⟨fun pins s σ H Q I h => ?_⟩
  refine wpAny_Call_Name_kw (ld_glob I hg hm ?_ hdb)
  refine PySem.W.callWith_KW0 (h₀ := X.base) I.ok.mod.kin kp hall ?_ hpl
  refine thn (hkw.run pos pins s σ H _ I h) fun ws s2 ⟨zs, H2, I2, rz, l2, q2⟩ => ⟨I2.kIn, ?_⟩
  rw [hks]
  exact wpAny_call (run_fnKS (us := []) (vs := []) F (hr.mono hk) b (hx σ) I2 .nil rz rfl l2 q2)
theorem pe_cks {n : Nat} {gV : List V → List V → List V} (c : CalK X.prog X.w X.K X.mg X.base CX k x n ks gV sp) (hr : Room j X.A) (hk : k ≤ j) (hg : Gl X x) (hx : ∀ σ, PassesAt CX X σ (E σ)) (ha : PA X (e :: es) t) (hkw : PK X kws tk)
    (hall : (backToKw pos (keywordEach kws X.env)).all (·.1.isSome) = true := by rfl) (hks : (backToKw pos (keywordEach kws X.env)).filterMap (·.1) = ks := by rfl) (hdb : (x == ("__debug__" : Str)) = false := by decide)
    (he : starEach (e :: es) X.env = (false, eval e X.env) :: starEach es X.env := by rfl) (hpl : ((backTo pos (starEach (e :: es) X.env)).any (·.1) || (backToKw pos (keywordEach kws X.env)).any (·.1.isNone)) = false := by rfl) :
    PE X (.Call (.Name x p) (e :: es) kws pos) (fun σ H Q => t σ H fun vs H1 => tk σ H1 fun zs H2 => vs.length = n ∧ zs.length = ks.length ∧ sp (gV vs zs) H2 Q (E σ)) := by
  obtain ⟨f, fd, ps, g, F, hm, kp, b⟩ := c.ex
  refine ⟨fun pins s σ H Q I h => ?_⟩
  refine wpAny_Call_Name_kw (ld_glob I hg hm ?_ hdb)
  refine PySem.W.callWith_KW (h₀ := X.base) I.ok.mod.kin kp hall (thn (ha.run pos pins s σ H _ I h) fun us s1 ⟨vs, H1, I1, r, q⟩ => ?_) hpl he
  refine thn (hkw.run pos pins s1 σ H1 _ I1 q) fun ws s2 ⟨zs, H2, I2, rz, l1, l2, q2⟩ => ⟨I2.kIn, ?_⟩
  rw [hks]
  exact wpAny_call (run_fnKS F (hr.mono hk) b (hx σ) I2 r rz l1 l2 q2)

/-! ### an instance called -/
theorem insS_at {pins : List (Addr × Obj)} {σ : L2.St} {H : Hp} {s : Shared} {a : Addr} (I : Inv X pins σ H s) (h : ∃ dx fs, H a = some (.ins C dx fs)) : ∃ ox od, PySem.W.InstAt s.heap a ox C od ∧ ox.data = .plain :=
  StX.insC_at I (.inr h)
theorem pe_is {fe : Expr} {tf : TE} (c : InsS X.prog X.w X.K X.mg X.base CX k C sp) (hr : Room j X.A) (hk : k ≤ j) (hx : ∀ σ, PassesAt CX X σ (E σ)) (hf : PE X fe tf) (ha : PA X (e :: es) t)
    (ht : eval (.Call fe (e :: es) [] pos) X.env = (do callWith pos (← eval fe X.env) [] (backTo pos (starEach (e :: es) X.env)) (backToKw pos (keywordEach [] X.env))) := by rfl)
    (he : starEach (e :: es) X.env = (false, eval e X.env) :: starEach es X.env := by rfl) (hpl : (backTo pos (starEach es X.env)).any (·.1) = false := by rfl) : PE X (.Call fe (e :: es) [] pos) (tInstS C sp E tf t) := by
  obtain ⟨g, fd, ps, c, F, b⟩ := c.ex
  refine ⟨fun pins s σ H Q I h => ?_⟩
  refine Call_ (thn (hf.run pins s σ H _ I h) fun u s1 ⟨y, H1, I1, ry, a, ey, q⟩ => ?_) ht
  subst ey
  obtain rfl : u = Value.ref a := ry
  refine StX.callO_with (thn (ha.run pos pins s1 σ H1 _ I1 q) fun us s2 ⟨vs, H2, I2, r, hi, q2⟩ => ?_) he hpl
  obtain ⟨ox, od, J, hd⟩ := insS_at I2 hi
  have hl := (F.len _ _ _ _ q2).symm
  have run := run_fnKS (ks := []) (ws := []) (zs := []) (us := .ref a :: us) (vs := .ref a :: vs) (n := vs.length + 1) F (hr.mono hk) (kbn_of_binds b hl) (hx σ) I2 (.cons rfl r) .nil rfl rfl q2
  exact ⟨⟨C, ox, od, J, hd⟩, wpAny_call (PySem.W.kco_code I2.kIn J hd c.at_ c.fn c.fi run)⟩
theorem pe_isk {fe : Expr} {tf : TE} {gV : List V → List V → List V} (c : InsK X.prog X.w X.K X.mg X.base CX k C ks gV sp) (hr : Room j X.A) (hk : k ≤ j) (hx : ∀ σ, PassesAt CX X σ (E σ)) (hf : PE X fe tf) (hkw : PK X kws tk)
    (ht : eval (.Call fe [] kws pos) X.env = (do callWith pos (← eval fe X.env) [] (backTo pos (starEach [] X.env)) (backToKw pos (keywordEach kws X.env))) := by rfl)
    (hall : (backToKw pos (keywordEach kws X.env)).all (·.1.isSome) = true := by rfl) (hks : (backToKw pos (keywordEach kws X.env)).filterMap (·.1) = ks := by rfl)
    (hpl : ((backTo pos (starEach [] X.env)).any (·.1) || (backToKw pos (keywordEach kws X.env)).any (·.1.isNone)) = false := by rfl) :
    PE X (.Call fe [] kws pos) (tInstKS C sp ks.length gV E tf tk) := by
  obtain ⟨f, fd, ps, g, c, F, b⟩ := c.ex
  refine ⟨fun pins s σ H Q I h => ?_⟩
  rw [ht]
  refine wpAny_bind (thn (hf.run pins s σ H _ I h) fun u s1 ⟨y, H1, I1, ry, a, ey, q⟩ => ?_)
  subst ey
  obtain rfl : u = Value.ref a := ry
  have go : wpAny (model X.prog X.w) X.A (evalArgs (.ref a) true (backTo pos (starEach [] X.env)) (backToKw pos (keywordEach kws X.env))) (fun z s₁ => (∃ C ox od, PySem.W.InstAt s₁.heap a ox C od ∧ ox.data = .plain) ∧ wpAny (model X.prog X.w) X.A (call (.ref a) ([] ++ z.pos) z.kw) (EP X pins σ Q) X.xe s₁) X.xe s1 := by
    refine evalArgs_kw2_nil (env := X.env) hall (thn (hkw.run pos pins s1 σ H1 _ I1 q) fun ws s2 ⟨zs, H2, I2, rz, hi, l2, q2⟩ => ?_)
    obtain ⟨ox, od, J, hd⟩ := insS_at I2 hi
    rw [hks]
    have run := run_fnKS (us := [.ref a]) (vs := [.ref a]) F (hr.mono hk) b (hx σ) I2 (.cons rfl .nil) rz rfl l2 q2
    exact ⟨⟨C, ox, od, J, hd⟩, wpAny_call (PySem.W.kco_code I2.kIn J hd c.at_ c.fn c.fi run)⟩
  unfold callWith
  refine wpAny_bind (wpAny_holding (wpAny_mono go (fun z s₁ h₁ => wpAny_bind (wpAny_standAt ?_)) fun _ _ y => y))
  obtain ⟨⟨C, ox, od, J, hd⟩, h₁⟩ := h₁
  have L := PySem.W.kco_keeper (M := model X.prog X.w) J hd
  simp only [hpl]
  refine wpAny_bind (L.here ?_)
  have tail : ∀ {t : Sem Value}, wpAny (model X.prog X.w) X.A t (EP X pins σ Q) X.xe s₁ → wpAny (model X.prog X.w) X.A (t >>= fun r => holding [r] point >>= fun _ => pure r) (EP X pins σ Q) X.xe s₁ :=
    fun ht => wpAny_bind (wpAny_mono ht (fun r s₂ hr => wpAny_bind (wpAny_holding (wpAny_point (wpAny_pure hr)))) fun _ _ y => y)
  exact tail (wpAny_operateT h₁)

/-! ### a property -/
theorem passNox0 {X : Cx} : Passes CX0 X.nox E0 := fun _ _ _ _ _ _ _ h => h.elim
theorem passNoxL {X : Cx} : Passes (L2.CX X.prog X.w) X.nox E0 := fun _ _ _ _ _ _ _ h => by
  obtain ⟨_, _, _, _, _, _, _, _, _, _, _, _, z⟩ := h
  exact z.elim
theorem pe_ps (c : PrpS X.prog X.w X.K X.mg X.base CX k C m sp) (hr : Room j X.A) (hk : k + 1 ≤ j) (hx : Passes CX X.nox E0) (he : PE X e ta) (hab : attributeBase e m X.env (eval e X.env) = eval e X.env) :
    PE X (.Attribute e m pos) (tPropS C sp (fun _ => E0) ta) := by
  obtain ⟨q, f, fd, ps, hc, hp, F, b⟩ := c.ex
  exact pe_prop he hc hp F (hr.mono hk) b .nil hx hab

/-! ### len of an own instance -/
structure LenS (P : Program) (w : World) (K : PySem.W.Frag) (mg : Str → Option Value) (base : Heap) (CX : CXT) (k : Nat) (C : Addr) (sp : Sp) : Prop where
  ex : ∃ (f : Addr) (fd : FuncData) (ps : List Str), PySem.W.findIn K (.ref C) "__len__" = some (some (.ref f)) ∧ PySem.W.isFn K (.ref f) = true ∧ FnOk P w K mg base CX k f fd ps sp ∧ Binds K fd ps []
def rLenO (C : Addr) (sp : Sp) : List V → Hp → VK → Prop := fun xs H Q => ∃ a, xs = [.ref a] ∧ (∃ dx fs, H a = some (.ins C dx fs)) ∧ sp [.ref a] H (fun v H2 => ∃ n : Int, v = .int n ∧ (0 ≤ n ∧ n < 2 ^ 63) ∧ Q (.int n) H2) E0
theorem passAt_in1 {k : Nat} {A : Around} (r : Room (k + 1) A) : Room k A.in1 := r.in1
theorem call_lenO (c : LenS X.prog X.w X.K X.mg X.base CX k C sp) (hr : Room j X.A) (hk : k + 1 ≤ j) (hx : Passes CX X.nox E0) : CallR X (.builtin "len") (rLenO C sp) := by
  obtain ⟨f, fd, ps, hs, hf, F, b⟩ := c.ex
  intro pins s σ H xs us Q I r h
  obtain ⟨a, rfl, ⟨dx, fs, ha⟩, q⟩ := h
  cases r with
  | cons r1 r2 =>
  cases r2
  cases r1
  obtain ⟨ox, od, J, hd⟩ := insS_at I ⟨dx, fs, ha⟩
  obtain ⟨m, hF⟩ := I.fr
  have hl := F.len _ _ _ _ q
  have hb := b s [.ref a] I.kIn (by rw [List.append_nil]; exact hl)
  rw [List.append_nil] at hb
  refine PySem.W.len_K hF I.ok.mod.kin J hs hf (wpAny_call (codeAny_mono (F.run X.A.in1 X.stack s H ⟨[.ref a], []⟩ [.ref a] [.ref a] _ E0 (hr.mono hk).in1 I.env0.in1 hb (.cons rfl .nil) q) fun r s' hq => ?_))
  cases r with
  | error er => exact False.elim (hx pins σ H s er s' (I.wish _) hq)
  | ok fl =>
    cases fl with
    | ret u =>
      obtain ⟨v, H', I3, rv, n, ev, hn, q3⟩ := I.after hq
      subst ev
      obtain ⟨t, rfl⟩ := rv
      exact ⟨hn, ⟨.int n, H', I3.tok _, ⟨_, rfl⟩, q3⟩⟩
    | next => exact False.elim hq
    | brk => exact False.elim hq
    | cont => exact False.elim hq

/-! ### text * int -/
def rRepS : R2 := fun x y H Q => ∃ (z : Str) (n : Int), x = .str z ∧ y = .int n ∧ z.length ≤ 1000 ∧ n ≤ 10000 ∧ -(2 ^ 63) ≤ n ∧ Q (.str (Txt.mul z n)) H
theorem op_repS : OpR X (binaryOp .Mult) rRepS := by
  intro pins s σ H x y v u Q I rx ry h
  obtain ⟨z, n, rfl, rfl, h1, h2, h3, q⟩ := h
  obtain ⟨t, rfl⟩ := rx
  obtain ⟨t', rfl⟩ := ry
  refine PySem.SB.mul (show MulOk z n from ⟨?_, ?_, ?_⟩) fun t' k => ⟨.str _, H, I.tok _, ⟨_, rfl⟩, q⟩
  · simp only [Bool.or_eq_false_iff, decide_eq_false_iff_not]
    omega
  · intro a b
    have e : (2 ^ 63 - 1 : Int) / n ≥ 1000 := by
      refine Int.le_ediv_of_mul_le (by omega) ?_
      omega
    omega
  · intro a b
    have e1 : z.length * n.toNat ≤ 1000 * 10000 := Nat.mul_le_mul h1 (by omega)
    unfold Builtin.Str.tooLong
    simp only [decide_eq_false_iff_not]
    have : sizeLine = 16777216 := by decide
    omega

/-! ### an exception of an own class that keeps one value -/
/-- the promise of the base's __init__, at an exception of the class at C -/
def spInitX (C : Addr) : Sp := fun vs H Q _ => ∃ (a : Addr) (v : V), vs = [.ref a, v] ∧ H a = some (exo a C none) ∧ ∀ d, H d = none → d ≠ a → Q .non (upd (upd H d (exd d [("value", v)])) a (exo a C (some d)))
structure ExS (P : Program) (w : World) (K : PySem.W.Frag) (mg : Str → Option Value) (base : Heap) (k : Nat) (x : Str) (C : Addr) : Prop where
  ox : OexC K C
  ex : ∃ (f : Addr) (fd : FuncData) (ps : List Str), PySem.W.findIn K (.ref C) "__init__" = some (some (.ref f)) ∧ PySem.W.typeIn K (.ref f) = some (.type "function") ∧ FnOk P w K mg base CX0 k f fd ps (spInitX C) ∧ Binds K fd ps [] ∧ mg x = some (.ref C)

theorem passF {X : Cx} : Passes CX0 X (fun _ _ _ => False) := fun _ _ _ _ _ _ _ h => h.elim
theorem pmk_os (c : ExS X.prog X.w X.K X.mg X.base k x C) (hr : Room j X.A) (hk : k + 1 ≤ j) (hg : Gl X x) (ha : PA X (e :: es) t)
    (hdb : (x == ("__debug__" : Str)) = false := by decide) (he : starEach (e :: es) X.env = (false, eval e X.env) :: starEach es X.env := by rfl) (hpl : (backTo pos (starEach es X.env)).any (·.1) = false := by rfl) :
    PMk X (.Call (.Name x p) (e :: es) [] pos) (tMkO C (spInitX C) [] t) := by
  obtain ⟨f, fd, ps, iC, tI, F, b, hm⟩ := c.ex
  exact pmk_oex (p := p) (pos := pos) c.ox iC tI F (hr.mono hk) b .nil passF hg hm ha hdb he hpl
theorem w_mko {C : Addr} {H1 : Hp} {v : V} {Q : XK} (h : ∀ d, H1 d = none → Q (.ref C) (some d) (upd H1 d (.xd [("value", v)]))) :
    ([v] : List V).length ≤ 1000 ∧ ∀ a, H1 a = none → spInitX C (.ref a :: ([v] ++ [])) (upd H1 a (exo a C none))
      (fun v H2 => v = .non ∧ ∃ (d : Addr) (fs : List (Str × V)), H2 a = some (exo a C (some d)) ∧ H2 d = some (exd d fs) ∧ H1 d = none ∧ Q (.ref C) (some d) (upd (del H2 a) d (.xd fs))) (fun _ _ _ => False) := by
  refine ⟨by show 1 ≤ 1000; decide, fun a ha => ⟨a, v, rfl, upd_same, fun d hd hda => ⟨rfl, d, [("value", v)], upd_same, ?_, ?_, ?_⟩⟩⟩
  · rw [upd_ne hda, upd_same]
  · rw [upd_ne hda] at hd
    exact hd
  · rw [upd_ne hda] at hd
    have e : upd (del (upd (upd (upd H1 a (exo a C none)) d (exd d [("value", v)])) a (exo a C (some d))) a) d (.xd [("value", v)]) = upd H1 d (.xd [("value", v)]) := by
      funext b
      by_cases h1 : b = d
      · rw [h1, upd_same, upd_same]
      · rw [upd_ne h1, upd_ne h1]
        by_cases h2 : b = a
        · rw [h2, del_same, ha]
        · rw [del_ne h2, upd_ne h2, upd_ne h1, upd_ne h2]
    rw [e]
    exact h d hd
end
/-! ### try with several clauses, with and without a name -/
def wN (K : PySem.W.Frag) (Wout : WX) (D : Ends) : List (Value × Option Nat × (Addr → Value → Option Addr → TS)) → WX
  | [] => Wout
  | (c, none, ts) :: r => fun cls d σ H => ∃ b, PySem.W.exmOne K cls c = some b ∧ (b = true → ∀ a, H a = none → ts a cls d D σ H) ∧ (b = false → wN K Wout D r cls d σ H)
  | (c, some i, ts) :: r => fun cls d σ H => ∃ b, PySem.W.exmOne K cls c = some b ∧ (b = true → ∀ a, H a = none → ts a cls d
      { nx := fun σ' H' => D.nx (σ'.set i none) H', rt := D.rt, bk := fun σ' H' => D.bk (σ'.set i none) H', ct := fun σ' H' => D.ct (σ'.set i none) H' } (σ.set i (some (.ref a))) H) ∧ (b = false → wN K Wout D r cls d σ H)
inductive HdsN (X : Cx) : List ExceptHandler → List (Value × Option Nat × (Addr → Value → Option Addr → TS)) → Prop
  | nil : HdsN X [] []
  | no {x : Str} {c : Value} {ts : Addr → Value → Option Addr → TS} {b₀ : Stmt} {suite : List Stmt} {np pos' : Pos} {hds : List ExceptHandler} {l : List (Value × Option Nat × (Addr → Value → Option Addr → TS))} (hc : Names X x c)
      (hsu : ∀ (a : Addr) (oe : Obj) (cls : Value) (d : Option Addr) (pn : List (Addr × Obj)), Zc cls d oe → (∃ vs, oe.data = .fields vs) → PSs (X.suite a ((a, oe) :: pn)) (b₀ :: suite) (ts a cls d)) (r : HdsN X hds l) :
      HdsN X (.ExceptHandler (some (.Name x np)) none (b₀ :: suite) pos' :: hds) ((c, none, ts) :: l)
  | as {x n : Str} {i : Nat} {c : Value} {ts : Addr → Value → Option Addr → TS} {b₀ : Stmt} {suite : List Stmt} {np pos' : Pos} {hds : List ExceptHandler} {l : List (Value × Option Nat × (Addr → Value → Option Addr → TS))} (hc : Names X x c)
      (hN : X.N.Nodup) (hi : X.N[i]? = some n) (hln : X.env.kindOf n = some .local)
      (hsu : ∀ (a : Addr) (oe : Obj) (cls : Value) (d : Option Addr) (pn : List (Addr × Obj)), Zc cls d oe → (∃ vs, oe.data = .fields vs) → PSs (X.suite a ((a, oe) :: pn)) (b₀ :: suite) (ts a cls d)) (r : HdsN X hds l) :
      HdsN X (.ExceptHandler (some (.Name x np)) (some n) (b₀ :: suite) pos' :: hds) ((c, some i, ts) :: l)
section
variable {X : Cx} {body : List Stmt} {h₀ : ExceptHandler} {hds : List ExceptHandler} {l : List (Value × Option Nat × (Addr → Value → Option Addr → TS))} {pos : Pos} {tb : WX → TS} {Wout : WX}
theorem ps_tryN (hs : X.stack = X.env :: X.outer) (hf : X.env.frame = some X.env.locals) (tk : Takes X Wout)
    (hb : ∀ (W : WX) (pn : List (Addr × Obj)) (xe : Value → Shared → Prop), Takes (X.tr pn xe) W → PassesOwn (model X.prog X.w) X.A X.env xe → PSs (X.tr pn xe) body (tb W))
    (hh : HdsN X (h₀ :: hds) l) : PS X (.Try body (h₀ :: hds) [] [] pos) (fun D σ H => tb (wN X.K Wout D l) D σ H) := by
  refine ⟨fun pins s σ H D I h => ?_⟩
  have ok := I.ok
  have hfr : X.A.frames = some (X.env :: X.outer) := by rw [ok.frames, hs]
  refine wpAny_Try_except ?_
  refine wpAny_mono ((hb (wN X.K Wout D l) (X.pn ++ pins) (fun e s₁ => wpAny (model X.prog X.w) X.A (noteFrame e X.env) (fun _ s₂ => wpAny (model X.prog X.w) X.A (setFlight e none) (fun _ s₃ =>
    wpAny (model X.prog X.w) X.A (handleBy e X.env (h₀ :: hds)) (SP X pins D) X.xe s₃) X.xe s₂) X.xe s₁) (fun u s' xx => ?_) PassesOwn.looking).run [] s σ H D (I.toTry _) h) (fun f s1 hsp => ?_) (fun e s1 he => he)
  · obtain ⟨a, B, sI, pins', σ', H', cls, d, rfl, J', nb, up, sky, na, os, ag, w⟩ := xx
    have J : L2.Inv X pins σ' H' sI := J'.ofTry ok
    have sky' : Sky B (X.env :: X.outer) a (Zc cls d) X.env.locals s'.heap := by rw [← hs]; exact sky
    show wpAny (model X.prog X.w) X.A (noteFrame (.ref a) X.env) _ _ _
    refine Sky.land Zc.steady hfr hf sky' fun h3 fl3 up3 => ?_
    have J3 : L2.Inv X pins σ' H' { s' with heap := h3 } := J.landed nb fl3.1 (up.trans up3) os ag
    obtain ⟨oe3, vs3, he3, hz3, hd3⟩ := fl3.there
    have notFr : ∀ {h : Heap} {o : Obj} {vs : Array Value}, h.FunFrames B (X.env :: X.outer) → h.get? a = some o → o.data = .fields vs → a ∉ frs (X.env :: X.outer) := fun {h o vs} ff e dd hm => by
      obtain ⟨_, o', e', hnf⟩ := ff.mem hm
      rw [e] at e'; cases e'
      exact hnf _ dd
    have nfr := notFr fl3.2.2.1 he3 hd3
    have nL : a ≠ X.env.locals := fun z => nfr (List.mem_filterMap.mpr ⟨X.env, List.mem_cons_self, by rw [hf, z]⟩)
    have nF : a ∉ X.fs := fun hm => by
      obtain ⟨e, he, q⟩ := List.mem_filterMap.mp hm
      exact nfr (List.mem_filterMap.mpr ⟨e, List.mem_cons_of_mem _ he, q⟩)
    have S3 := J3.suite he3 hd3 na nL nF
    have tst : ∀ {x : Str} {c : Value} {np : Pos} (hc : Names X x c) {Q : Value → Shared → Prop} {E : Value → Shared → Prop}, Q c { s' with heap := h3 } → wpAny (model X.prog X.w) (X.A.mark (some (.ref a))) (eval (.Name x np) X.env) Q E { s' with heap := h3 } := fun {x c np} hc {Q E} q => by
      obtain ⟨hg, hdbg, hm | ⟨hm, hv, hnn⟩⟩ := hc
      · exact ld_glob (X := X.suite a ((a, oe3) :: (X.pn ++ pins))) S3 hg hm q hdbg
      · exact ld_blt (X := X.suite a ((a, oe3) :: (X.pn ++ pins))) S3 hg hm hv q hnn hdbg
    have LT : PySem.W.Looks (model X.prog X.w) h3 (typeOf (.ref a)) cls := fun A Q E s k q => wpAny_typeOf_ref (k _ _ he3) (by rw [hz3.1]; exact q)
    have go : ∀ {hds' : List ExceptHandler} {l' : List (Value × Option Nat × (Addr → Value → Option Addr → TS))}, HdsN X hds' l' → wN X.K Wout D l' cls d σ' H' →
        wpAny (model X.prog X.w) X.A (handleBy (.ref a) X.env hds') (SP X pins D) X.xe { s' with heap := h3 } := by
      intro hds' l' hk
      induction hk with
      | nil =>
        intro w
        refine wpAny_handleBy_nil ?_
        obtain ⟨k1, k2, k3, oe, vs, T, oT, ts', he, hz, hd, h1, hr⟩ := id fl3
        unfold PySem.passOn
        refine wpAny_bind (wpAny_field he hd h1 ?_)
        rw [if_neg (show ¬ ((Value.ref T == Value.none) = true) from by simp)]
        have fin : wpAny (model X.prog X.w) X.A (setFlight (.ref a) X.env.frame) (fun _ s4 => wpAny (model X.prog X.w) X.A (throw (.ref a) : Sem Flow) (SP X pins D) X.xe s4) X.xe { s' with heap := h3 } := by
          rw [hf]
          refine HandSPX.setFlight_upZ fl3 fun h4 hh4 up4 => wpAny_throw (tk _ _ ?_)
          exact ⟨a, B, sI, pins, σ', H', cls, d, rfl, J, nb, (up.trans up3).trans up4, .inr (.inr (by rw [hs]; exact hh4)), na, os, ag, w⟩
        first
          | exact wpAny_bind (wpAny_pure (wpAny_bind fin))
          | exact wpAny_bind fin
      | @no x c ts b₀ suite np pos' hds2 l2 hc hsu r ih =>
        intro w
        obtain ⟨b, hb1, hyes, hno⟩ := w
        refine wpAny_handleBy_cons (codeAny_handlers_test ?_) (by intro q; cases q)
        have LM := PySem.W.exm_one (M := model X.prog X.w) (J3.kIn) LT hb1
        refine tst hc (LM.here ?_)
        cases b with
        | true =>
          refine codeAny_handlers_suite ?_
          refine HandSPX.lands_againZ fl3 fun h4 fl4 up4 => ?_
          have J4 : L2.Inv X pins σ' H' { s' with heap := h4 } := J.landed nb fl4.1 ((up.trans up3).trans up4) os ag
          obtain ⟨oe4, vs4, he4, hz4, hd4⟩ := fl4.there
          have S4 := J4.suite he4 hd4 na nL nF
          refine wpAny_mono ((hsu a oe4 cls d (X.pn ++ pins) hz4 ⟨_, hd4⟩).run [] _ _ H' _ S4 (hyes rfl a na)) (fun f s6 hsp => ?_) (fun _ _ z => False.elim z)
          cases f with
          | next =>
            obtain ⟨σ6, H6, S6, q6⟩ := hsp
            exact ⟨_, _, S6.unsuite ok, q6⟩
          | brk =>
            obtain ⟨σ6, H6, S6, q6⟩ := hsp
            exact ⟨_, _, S6.unsuite ok, q6⟩
          | cont =>
            obtain ⟨σ6, H6, S6, q6⟩ := hsp
            exact ⟨_, _, S6.unsuite ok, q6⟩
          | ret u =>
            obtain ⟨v6, σ6, H6, S6, r6, q6⟩ := hsp
            exact ⟨_, _, _, S6.unsuite ok, r6, q6⟩
        | false =>
          show wpAny _ X.A (handleBy (.ref a) X.env hds2) _ _ _
          exact ih (hno rfl)
      | @as x n i c ts b₀ suite np pos' hds2 l2 hc hN hi hln hsu r ih =>
        intro w
        obtain ⟨b, hb1, hyes, hno⟩ := w
        have hloc : Loc X.env.scope n := .inl hln
        refine wpAny_handleBy_cons (codeAny_handlers_test ?_) (by intro q; cases q)
        have LM := PySem.W.exm_one (M := model X.prog X.w) (J3.kIn) LT hb1
        refine tst hc (LM.here ?_)
        cases b with
        | true =>
          refine codeAny_handlers_suite_as ?_
          refine HandSPX.lands_againZ fl3 fun h4 fl4 up4 => ?_
          have J4 : L2.Inv X pins σ' H' { s' with heap := h4 } := J.landed nb fl4.1 ((up.trans up3).trans up4) os ag
          obtain ⟨oe4, vs4, he4, hz4, hd4⟩ := fl4.there
          have S4 := J4.suite he4 hd4 na nL nF
          refine store_ok (X := X.suite a ((a, oe4) :: (X.pn ++ pins))) (v := .ref a) S4 hN hi hloc rfl (fun s5 S5 => ?_) (.inr hln)
          refine wpAny_mono ((hsu a oe4 cls d (X.pn ++ pins) hz4 ⟨_, hd4⟩).run [] s5 _ H' _ S5 (hyes rfl a na)) (fun f s6 hsp => ?_) (fun _ _ z => False.elim z)
          have end_ : ∀ {σ6 : L2.St} {H6 : Hp} {Q : Shared → Prop}, L2.Inv (X.suite a ((a, oe4) :: (X.pn ++ pins))) [] σ6 H6 s6 → (∀ s7, L2.Inv X pins (σ6.set i none) H6 s7 → Q s7) →
              wpAny (model X.prog X.w) X.A (do bindName X.env n .none; unbindBehindTheSuite X.env n pos') (fun _ s7 => Q s7) X.xe s6 := fun {σ6 H6 Q} S6 hq => gone_ok (S6.unsuite ok) hN hi hln hq
          cases f with
          | next =>
            obtain ⟨σ6, H6, S6, q6⟩ := hsp
            exact end_ S6 fun s7 J7 => ⟨_, _, J7, q6⟩
          | brk =>
            obtain ⟨σ6, H6, S6, q6⟩ := hsp
            exact end_ S6 fun s7 J7 => ⟨_, _, J7, q6⟩
          | cont =>
            obtain ⟨σ6, H6, S6, q6⟩ := hsp
            exact end_ S6 fun s7 J7 => ⟨_, _, J7, q6⟩
          | ret u =>
            obtain ⟨v6, σ6, H6, S6, r6, q6⟩ := hsp
            exact end_ S6 fun s7 J7 => ⟨_, _, _, J7, r6, q6⟩
        | false =>
          show wpAny _ X.A (handleBy (.ref a) X.env hds2) _ _ _
          exact ih (hno rfl)
    exact go hh w
  · cases f with
    | next =>
      obtain ⟨σ', H', J', q⟩ := hsp
      exact wpAny_execs_nil ⟨σ', H', J'.ofTry ok, q⟩
    | brk =>
      obtain ⟨σ', H', J', q⟩ := hsp
      exact ⟨σ', H', J'.ofTry ok, q⟩
    | cont =>
      obtain ⟨σ', H', J', q⟩ := hsp
      exact ⟨σ', H', J'.ofTry ok, q⟩
    | ret u =>
      obtain ⟨v, σ', H', J', r, q⟩ := hsp
      exact ⟨v, σ', H', J'.ofTry ok, r, q⟩
end

/-! ## readings, step by step: each names the head of the goal -/
section
variable {σ : L2.St} {H : Hp} {Q : VK} {nx bk ct : L2.St → Hp → Prop} {rt : VK} {t u : TS} {te ta tb tc : TE} {tt : TT} {ts tr : TA} {v x y : V} {i : Nat} {K : PySem.W.Frag}
theorem w_seq (h : t ⟨u ⟨nx, rt, bk, ct⟩, rt, bk, ct⟩ σ H) : tSeq t u ⟨nx, rt, bk, ct⟩ σ H := h
theorem w_cut (Mid : L2.St → Hp → Prop) (h : t ⟨Mid, rt, bk, ct⟩ σ H) (k : ∀ σ' H', Mid σ' H' → u ⟨nx, rt, bk, ct⟩ σ' H') : C8.tCut t u ⟨nx, rt, bk, ct⟩ σ H := ⟨Mid, h, k⟩
theorem w_asg (h : te σ H fun v H1 => nx (σ.set i (some v)) H1) : tAsg te (gName i) ⟨nx, rt, bk, ct⟩ σ H := h
theorem w_asgG {g : TG} (h : te σ H fun v H1 => g v σ H1 nx) : tAsg te g ⟨nx, rt, bk, ct⟩ σ H := h
theorem w_ret (h : te σ H rt) : tRet te ⟨nx, rt, bk, ct⟩ σ H := h
theorem w_retN (h : rt .non H) : tRetN ⟨nx, rt, bk, ct⟩ σ H := h
theorem w_drop (h : te σ H fun _ H1 => nx σ H1) : tDrop te ⟨nx, rt, bk, ct⟩ σ H := h
theorem w_next (h : nx σ H) : tNext ⟨nx, rt, bk, ct⟩ σ H := h
theorem w_brk (h : bk σ H) : tBreak ⟨nx, rt, bk, ct⟩ σ H := h
theorem w_cont (h : ct σ H) : tCont ⟨nx, rt, bk, ct⟩ σ H := h
theorem w_if (h : tt σ H fun b H1 => if b = true then t ⟨nx, rt, bk, ct⟩ σ H1 else u ⟨nx, rt, bk, ct⟩ σ H1) : tIfS tt t u ⟨nx, rt, bk, ct⟩ σ H := h
theorem w_ifE {Q : VK} (h : tt σ H fun b H1 => if b = true then ta σ H1 Q else tb σ H1 Q) : tIf tt ta tb σ H Q := h
theorem w_var (e : σ[i]? = some (some v)) (h : Q v H) : tVar i σ H Q := ⟨v, e, h⟩
theorem w_c (h : Q v H) : tC v σ H Q := h
theorem w_op {r : R2} (h : ta σ H fun x H1 => tb σ H1 fun y H2 => r x y H2 Q) : tOp r ta tb σ H Q := h
theorem w_un {r : V → Hp → VK → Prop} (h : ta σ H fun x H1 => r x H1 Q) : tUn r ta σ H Q := h
theorem w_test {Q : Bool → Hp → Prop} (h : te σ H fun x H' => ∃ k, x = .bl k ∧ Q k H') : tTest te σ H Q := h
theorem w_B {Q : Bool → Hp → Prop} (h : te σ H fun x H' => ∃ k, x = .bl k ∧ Q k H') : tB te σ H Q := h
theorem w_not {Q : Bool → Hp → Prop} (h : tt σ H fun c H1 => Q (!c) H1) : tNot tt σ H Q := h
theorem w_and {u : TT} {Q : Bool → Hp → Prop} (h : tt σ H fun c H1 => if c = true then u σ H1 Q else Q false H1) : tAnd tt u σ H Q := h
theorem w_or {u : TT} {Q : Bool → Hp → Prop} (h : tt σ H fun c H1 => if c = true then Q true H1 else u σ H1 Q) : tOr tt u σ H Q := h
theorem w_andV (h : ta σ H fun x H1 => ∃ c, x = .bl c ∧ if c = true then tb σ H1 Q else Q (.bl false) H1) : tAndV ta tb σ H Q := h
theorem w_orV (h : ta σ H fun x H1 => ∃ c, x = .bl c ∧ if c = true then Q (.bl true) H1 else tb σ H1 Q) : tOrV ta tb σ H Q := h
theorem w_notV (h : ta σ H fun x H1 => ∃ c, x = .bl c ∧ Q (.bl (!c)) H1) : tNotV ta σ H Q := h
theorem w_nil {Q : List V → Hp → Prop} (h : Q [] H) : tNil σ H Q := h
theorem w_cons {Q : List V → Hp → Prop} (h : ta σ H fun x H1 => tr σ H1 fun xs H2 => Q (x :: xs) H2) : tCons ta tr σ H Q := h
theorem w_bl {P : Bool → Prop} {k : Bool} (h : P k) : ∃ k', V.bl k = V.bl k' ∧ P k' := ⟨k, rfl, h⟩
theorem w_I0 {g : Int → Int → V} {a b : Int} (h : Q (g a b) H) : rI0 g (.int a) (.int b) H Q := ⟨a, b, rfl, rfl, h⟩
theorem w_I {C : Int → Int → Prop} {g : Int → Int → V} {a b : Int} (c : C a b) (h : Q (g a b) H) : rI C g (.int a) (.int b) H Q := ⟨a, b, rfl, rfl, c, h⟩
theorem w_U {g : Int → V} {a : Int} (h : Q (g a) H) : rU g (.int a) H Q := ⟨a, rfl, h⟩
theorem w_eq (c : scal x y = true) (h : Q (.bl (decide (x = y))) H) : rEq x y H Q := ⟨c, h⟩
theorem w_ne (c : scal x y = true) (h : Q (.bl (!decide (x = y))) H) : rNe x y H Q := ⟨c, h⟩
theorem w_tup (h : ts σ H fun xs H1 => xs.length ≤ sizeLine ∧ ∀ p, H1 p = none → Q (.ref p) (upd H1 p (.tup xs))) : tTup ts σ H Q := h
theorem w_lst (h : ts σ H fun xs H1 => xs.length ≤ sizeLine ∧ ∀ p, H1 p = none → Q (.ref p) (upd H1 p (.lst xs))) : tLst ts σ H Q := h
theorem w_cb {r : List V → Hp → VK → Prop} (h : ts σ H fun vs H1 => r vs H1 Q) : tCB r ts σ H Q := h
theorem w_callS {sp : Sp} {E : L2.St → XK} (h : ts σ H fun vs H1 => sp vs H1 Q (E σ)) : tCallS sp E ts σ H Q := h
theorem w_meth {C : Addr} {m : Str} {sp : Sp} {E : L2.St → XK} (h : ta σ H fun x H1 => ∃ a dx fs, x = .ref a ∧ H1 a = some (.ins C dx fs) ∧ fs.lookup m = none ∧ ts σ H1 fun vs H2 => sp (x :: vs) H2 Q (E σ)) : tMethS C m sp E ta ts σ H Q := h
theorem w_fld {f : Str} (h : ta σ H fun x H1 => ∃ a C dx fs v, x = .ref a ∧ H1 a = some (.ins C dx fs) ∧ Cls K C ∧ NoAttr K C f ∧ fs.lookup f = some v ∧ Q v H1) : tFld K ta f σ H Q := h
theorem w_sl {r : V → Option Int → Option Int → Hp → VK → Prop} {tl th : TO} (h : te σ H fun x H1 => tl σ H1 fun lo H2 => th σ H2 fun hi H3 => r x lo hi H3 Q) : tSl r te tl th σ H Q := h
theorem w_noPart {Q : Option Int → Hp → Prop} (h : Q none H) : tNoPart σ H Q := h
theorem w_part {Q : Option Int → Hp → Prop} (h : te σ H fun x H1 => ∃ i, x = .int i ∧ Q (some i) H1) : tPart te σ H Q := h
theorem w_int {P : Int → Prop} {k : Int} (h : P k) : ∃ k', V.int k = V.int k' ∧ P k' := ⟨k, rfl, h⟩
/-- a new object -/
theorem w_new {o : HO} {R : Addr → Hp → Prop} (h : ∀ p H1, H p = none → Same H H1 → H1 p = some o → R p H1) : ∀ p, H p = none → R p (upd H p o) :=
  fun p hp => h p _ hp (fun b u e => by rw [upd_ne (ne_of_none e hp)]; exact e) upd_same
theorem w_newL {xs : List V} {R : Addr → Hp → Prop} (l : xs.length ≤ 100000) (h : ∀ p H1, H p = none → Same H H1 → H1 p = some (.lst xs) → R p H1) : xs.length ≤ sizeLine ∧ ∀ p, H p = none → R p (upd H p (.lst xs)) :=
  ⟨Nat.le_trans l (by decide), w_new h⟩
theorem w_newT {xs : List V} {R : Addr → Hp → Prop} (l : xs.length ≤ 100000) (h : ∀ p H1, H p = none → Same H H1 → H1 p = some (.tup xs) → R p H1) : xs.length ≤ sizeLine ∧ ∀ p, H p = none → R p (upd H p (.tup xs)) :=
  ⟨Nat.le_trans l (by decide), w_new h⟩
/-- tests whose answer is known or open -/
theorem w_T {b : Bool} {A B : Prop} (e : b = true) (h : A) : if b = true then A else B := by rw [if_pos e]; exact h
theorem w_F {b : Bool} {A B : Prop} (e : b = false) (h : B) : if b = true then A else B := by rw [e]; exact h
theorem w_ite {b : Bool} {A B : Prop} (h1 : b = true → A) (h2 : b = false → B) : if b = true then A else B := by
  cases b
  · exact h2 rfl
  · exact h1 rfl
theorem w_dec {p : Prop} [Decidable p] {A B : Prop} (h1 : p → A) (h2 : ¬ p → B) : if decide p = true then A else B := by
  by_cases h : p
  · rw [if_pos (decide_eq_true h)]; exact h1 h
  · rw [decide_eq_false h]; exact h2 h
theorem w_ndec {p : Prop} [Decidable p] {A B : Prop} (h1 : ¬ p → A) (h2 : p → B) : if (!decide p) = true then A else B := by
  by_cases h : p
  · rw [decide_eq_true h]; exact h2 h
  · rw [decide_eq_false h]; exact h1 h
/-- facts carried on -/
theorem _root_.L2.Same.at {H H' : Hp} {a : Addr} {o : HO} (s : Same H H') (h : H a = some o) : H' a = some o := s a o h
theorem _root_.L2.Same.mut {H0 H : Hp} {p : Addr} {o : HO} (s : Same H0 H) (h : H0 p = none) : Same H0 (upd H p o) := fun b u e => by
  rw [upd_ne (ne_of_none e h)]
  exact s b u e
theorem _root_.L2.Same.seqT {H H' : Hp} {a : Addr} {xs : List V} (e : Same H H') (h : SqT K H a xs) : SqT K H' a xs := by
  rcases h with (h | ⟨o, h⟩) | h
  · exact .inl (.inl (e _ _ h))
  · exact .inl (.inr ⟨o, e _ _ h⟩)
  · exact .inr h
end

section
theorem cxK {CX : CXT} {P : Program} {w : World} {K : PySem.W.Frag} {mg : Str → Option Value} {base : Heap} {N : List Str} {q : Str} {sc : Scope} {f : Addr} {cd : Value} {A : Around} {outer : List Env} {s : Shared} {H : Hp} {E : XK} : (cxOf CX P w K mg base N q sc f cd A outer s H E).K = K := rfl
theorem noxK {X : Cx} : X.nox.K = X.K := rfl
theorem blkK {X : Cx} {s : Shared} {H : Hp} {sc : Scope} {env : Env} {fp : List Addr} : (X.blk s H sc env fp).K = X.K := rfl
theorem trK {X : Cx} {pn : List (Addr × Obj)} {xe : Value → Shared → Prop} : (X.tr pn xe).K = X.K := rfl
theorem suK {X : Cx} {a : Addr} {pn : List (Addr × Obj)} : (X.suite a pn).K = X.K := rfl
end

/-! ## readings of built-ins -/
section
variable {σ : L2.St} {H : Hp} {Q : VK} {nx bk ct : L2.St → Hp → Prop} {rt : VK} {t u tb : TS} {te ta to ti tl : TE} {tt : TT} {ts tr : TA} {v x y : V} {i j : Nat} {K : PySem.W.Frag} {a b p : Addr} {xs ys : List V}
theorem w_lenL {P : List V → Prop} (h : SqL K H a xs) (q : P xs) : ∃ p ys, [V.ref a] = [V.ref p] ∧ (SqL K H p ys ∨ SqT K H p ys) ∧ P ys := ⟨a, xs, rfl, .inl h, q⟩
theorem w_lenT {P : List V → Prop} (h : SqT K H a xs) (q : P xs) : ∃ p ys, [V.ref a] = [V.ref p] ∧ (SqL K H p ys ∨ SqT K H p ys) ∧ P ys := ⟨a, xs, rfl, .inr h, q⟩
theorem w_lenS {z : Str} {P : Str → Prop} (h : z.length ≤ sizeLine) (q : P z) : ∃ z', [V.str z] = [V.str z'] ∧ z'.length ≤ sizeLine ∧ P z' := ⟨z, rfl, h, q⟩
theorem w_ixL {k : Int} (h : SqL K H a xs) (e : atI xs k = some v) (q : Q v H) : rIxL K (.ref a) (.int k) H Q := ⟨a, xs, k, v, rfl, rfl, h, e, q⟩
theorem w_ixT {k : Int} (h : SqT K H a xs) (e : atI xs k = some v) (q : Q v H) : rIxT K (.ref a) (.int k) H Q := ⟨a, xs, k, v, rfl, rfl, h, e, q⟩
theorem w_ixS {k : Int} {z : Str} {c : Nat} (h : z.length ≤ sizeLine) (e : atI z.cps.toList k = some c) (q : Q (.str ⟨#[c]⟩) H) : rIxS (.str z) (.int k) H Q := ⟨z, k, c, rfl, rfl, h, e, q⟩
theorem w_int1 {n : Int} {P : Int → Prop} {R : Prop} (q : P n) : (∃ i, [V.int n] = [V.int i] ∧ P i) ∨ R := .inl ⟨n, rfl, q⟩
theorem w_2i {m n : Int} {P : Int → Int → Prop} (q : P m n) : ∃ i j, [V.int m, V.int n] = [V.int i, V.int j] ∧ P i j := ⟨m, n, rfl, q⟩
theorem w_1i {m : Int} {P : Int → Prop} (q : P m) : ∃ i, [V.int m] = [V.int i] ∧ P i := ⟨m, rfl, q⟩
theorem w_cat {z z' : Str} {P : Str → Str → Prop} (l : z.length + z'.length ≤ sizeLine) (q : P z z') : ∃ i j, V.str z = V.str i ∧ V.str z' = V.str j ∧ i.length + j.length ≤ sizeLine ∧ P i j := ⟨z, z', rfl, rfl, l, q⟩
theorem w_slS {z : Str} {lo hi : Option Int} (l : z.length ≤ sizeLine) (q : Q (.str (cutS z lo hi)) H) : rSlS (.str z) lo hi H Q := ⟨z, rfl, l, q⟩
theorem w_slL {lo hi : Option Int} (h : SqL K H a xs) (q : ∀ p H1, H p = none → Same H H1 → H1 p = some (.lst (cutV xs lo hi)) → Q (.ref p) H1) : rSlL K (.ref a) lo hi H Q := ⟨a, xs, rfl, h, w_new q⟩
theorem w_repS {z : Str} {n : Int} (h1 : z.length ≤ 1000) (h2 : n ≤ 10000) (h3 : -(2 ^ 63) ≤ n) (q : Q (.str (Txt.mul z n)) H) : rRepS (.str z) (.int n) H Q := ⟨z, n, rfl, rfl, h1, h2, h3, q⟩
theorem w_rep {n : Int} (h : H a = some (.lst xs)) (h1 : -(2 ^ 63) ≤ n) (h2 : n < 2 ^ 63) (h3 : xs.length * n.toNat ≤ 100000) (q : ∀ p H1, H p = none → Same H H1 → H1 p = some (.lst (List.replicate n.toNat xs).flatten) → Q (.ref p) H1) : rRep (.ref a) (.int n) H Q :=
  ⟨a, n, xs, rfl, rfl, h, h1, h2, Nat.le_trans h3 (by decide), w_new q⟩
theorem w_catL (h : H a = some (.lst xs)) (h' : H b = some (.lst ys)) (l : xs.length + ys.length ≤ 100000) (q : ∀ p H1, H p = none → Same H H1 → H1 p = some (.lst (xs ++ ys)) → Q (.ref p) H1) : rCat (.ref a) (.ref b) H Q :=
  ⟨a, b, xs, ys, rfl, rfl, h, h', Nat.le_trans l (by decide), w_new q⟩
/-- built-in methods of a list -/
theorem w_bm {T : String} {r : V → List V → Hp → VK → Prop} (h : to σ H fun x H1 => tyV K T x H1 ∧ ts σ H1 fun vs H2 => r x vs H2 Q) : tBM K T r to ts σ H Q := h
theorem w_bm0 {T : String} {r : V → List V → Hp → VK → Prop} (h : to σ H fun x H1 => tyV K T x H1 ∧ r x [] H1 Q) : tBM0 K T r to σ H Q := h
theorem w_tyL {R : Prop} (h : H a = some (.lst xs)) (q : R) : tyV K "list" (.ref a) H ∧ R := ⟨.inl ⟨rfl, _, SqL.of h⟩, q⟩
/-- what a change of the object at p leaves -/
def But (p : Addr) (H H' : Hp) : Prop := ∀ b o, b ≠ p → H b = some o → H' b = some o
theorem But.upd {o : HO} : But p H (upd H p o) := fun b u n e => by rw [upd_ne n]; exact e
theorem But.same {H0 H' : Hp} (s : Same H0 H) (n : H0 p = none) (m : But p H H') : Same H0 H' := fun b o e => m b o (ne_of_none e n) (s b o e)
theorem But.free {H' : Hp} {o : HO} (h : H' p = some o) (m : But p H H') {q : Addr} (n : H' q = none) : H q = none := by
  cases e : H q with
  | none => rfl
  | some u =>
    by_cases hq : q = p
    · subst hq
      rw [h] at n
      cases n
    · rw [m q u hq e] at n
      cases n
theorem w_app (h : H a = some (.lst xs)) (l : xs.length < 100000) (q : ∀ H1, But a H H1 → H1 a = some (.lst (xs ++ [y])) → Q .non H1) : rAppend (.ref a) [y] H Q :=
  ⟨a, xs, y, rfl, rfl, h, Nat.lt_of_lt_of_le l (by decide), q _ But.upd upd_same⟩
theorem w_ext (h : H a = some (.lst xs)) (h' : H b = some (.lst ys)) (l : xs.length + ys.length ≤ 100000) (q : ∀ H1, But a H H1 → H1 a = some (.lst (xs ++ ys)) → Q .non H1) : rExtend (.ref a) [.ref b] H Q :=
  ⟨a, b, xs, ys, rfl, rfl, h, h', Nat.le_trans l (by decide), q _ But.upd upd_same⟩
theorem w_pop (h : H a = some (.lst xs)) (e : xs[xs.length - 1]? = some y) (q : ∀ H1, But a H H1 → H1 a = some (.lst xs.dropLast) → Q y H1) : rPop (.ref a) [] H Q := ⟨a, xs, y, rfl, rfl, h, e, q _ But.upd upd_same⟩
theorem w_reverse (h : H a = some (.lst xs)) (q : ∀ H1, But a H H1 → H1 a = some (.lst xs.reverse) → Q .non H1) : rReverse (.ref a) [] H Q := ⟨a, xs, rfl, rfl, h, q _ But.upd upd_same⟩
/-- targets -/
theorem w_gsub {s : TSet} {R : L2.St → Hp → Prop} (h : to σ H fun o H1 => ti σ H1 fun i H2 => s o i v H2 fun H3 => R σ H3) : gSub to ti s v σ H R := h
theorem w_gtup {n : Nat} {g : TGs} {R : L2.St → Hp → Prop} (h : SqT K H a xs) (l : xs.length = n) (q : g xs σ H R) : gTup K n g (.ref a) σ H R := ⟨a, xs, rfl, h, l, q⟩
theorem w_gcons {g : TG} {gs : TGs} {R : L2.St → Hp → Prop} (h : g v σ H fun σ' H' => gs xs σ' H' R) : gCons g gs (v :: xs) σ H R := ⟨v, xs, rfl, h⟩
theorem w_gnil {R : L2.St → Hp → Prop} (h : R σ H) : gNil [] σ H R := ⟨rfl, h⟩
theorem w_gname {R : L2.St → Hp → Prop} (h : R (σ.set i (some v)) H) : gName i v σ H R := h
theorem w_setL {k : Int} {R : Hp → Prop} (h : H a = some (.lst xs)) (e : ixN xs.length k = some j) (q : ∀ H1, But a H H1 → H1 a = some (.lst (xs.set j v)) → R H1) : rSetL (.ref a) (.int k) v H R := ⟨a, xs, k, j, rfl, rfl, h, e, q _ But.upd upd_same⟩
theorem ixN_nat {n : Nat} {k : Int} (e : k = (j : Int)) (h : j < n) : ixN n k = some j := by
  unfold ixN
  rw [if_pos (by omega), if_pos (by omega), e]
  rfl
theorem ixN_last {n : Nat} (h : 0 < n) : ixN n (-1) = some (n - 1) := by
  unfold ixN
  rw [if_neg (by decide), if_pos (by omega)]
  have : (-1 + (n : Int)).toNat = n - 1 := by omega
  rw [this]
/-- loops -/
def ForR (lo : Int) (n : Nat) (g : TG) (tb : TS) (D : Ends) (σ : L2.St) (H : Hp) : Prop := ∃ W : Nat → Nat → L2.St → Hp → Prop, (∃ m, W 0 m σ H) ∧ ∀ i m σ H, W i m σ H →
      ((Itr lo n).stop i H ∧ D.nx σ H) ∨ ((Itr lo n).go i H ∧ ∃ N : L2.St → Hp → Prop, (∀ σ' H', N σ' H' → ∃ m', m' < m ∧ W (i + 1) m' σ' H') ∧ ∀ x H', (Itr lo n).yld i H x H' → g x σ H' fun σ2 H2 => tb { D with nx := N, ct := N, bk := D.nx } σ2 H2)
def ForL (K : PySem.W.Frag) (a : Addr) (g : TG) (tb : TS) (D : Ends) (σ : L2.St) (H : Hp) : Prop := ∃ W : Nat → Nat → L2.St → Hp → Prop, (∃ m, W 0 m σ H) ∧ ∀ i m σ H, W i m σ H →
      ((Itl K a).stop i H ∧ D.nx σ H) ∨ ((Itl K a).go i H ∧ ∃ N : L2.St → Hp → Prop, (∀ σ' H', N σ' H' → ∃ m', m' < m ∧ W (i + 1) m' σ' H') ∧ ∀ x H', (Itl K a).yld i H x H' → g x σ H' fun σ2 H2 => tb { D with nx := N, ct := N, bk := D.nx } σ2 H2)
def ForT (K : PySem.W.Frag) (a : Addr) (g : TG) (tb : TS) (D : Ends) (σ : L2.St) (H : Hp) : Prop := ∃ W : Nat → Nat → L2.St → Hp → Prop, (∃ m, W 0 m σ H) ∧ ∀ i m σ H, W i m σ H →
      ((Itt K a).stop i H ∧ D.nx σ H) ∨ ((Itt K a).go i H ∧ ∃ N : L2.St → Hp → Prop, (∀ σ' H', N σ' H' → ∃ m', m' < m ∧ W (i + 1) m' σ' H') ∧ ∀ x H', (Itt K a).yld i H x H' → g x σ H' fun σ2 H2 => tb { D with nx := N, ct := N, bk := D.nx } σ2 H2)
theorem w_forR1 {g : TG} (h : ts σ H fun vs H1 => ∃ m : Int, vs = [.int m] ∧ -(2 ^ 62) ≤ m ∧ m < 2 ^ 62 ∧ ForR 0 m.toNat g tb ⟨nx, rt, bk, ct⟩ σ H1) : tFor (iRng1 ts) g tb ⟨nx, rt, bk, ct⟩ σ H := h
theorem w_forR2 {g : TG} (h : ts σ H fun vs H1 => ∃ l m : Int, vs = [.int l, .int m] ∧ (-(2 ^ 62) ≤ l ∧ l < 2 ^ 62 ∧ -(2 ^ 62) ≤ m ∧ m < 2 ^ 62) ∧ ForR l (m - l).toNat g tb ⟨nx, rt, bk, ct⟩ σ H1) : tFor (iRng2 ts) g tb ⟨nx, rt, bk, ct⟩ σ H := h
theorem w_forL {g : TG} (h : te σ H fun x H1 => ∃ a, x = .ref a ∧ (∃ xs, SqL K H1 a xs) ∧ ForL K a g tb ⟨nx, rt, bk, ct⟩ σ H1) : tFor (iList K te) g tb ⟨nx, rt, bk, ct⟩ σ H := h
theorem w_forT {g : TG} (h : te σ H fun x H1 => ∃ a, x = .ref a ∧ (∃ xs, SqT K H1 a xs) ∧ ForT K a g tb ⟨nx, rt, bk, ct⟩ σ H1) : tFor (iTup K te) g tb ⟨nx, rt, bk, ct⟩ σ H := h
theorem w_r1 {m : Int} {R : Int → Prop} (h : -(2 ^ 62) ≤ m ∧ m < 2 ^ 62) (q : R m) : ∃ m' : Int, [V.int m] = [V.int m'] ∧ -(2 ^ 62) ≤ m' ∧ m' < 2 ^ 62 ∧ R m' := ⟨m, rfl, h.1, h.2, q⟩
theorem w_r2 {l m : Int} {R : Int → Int → Prop} (h : -(2 ^ 62) ≤ l ∧ l < 2 ^ 62 ∧ -(2 ^ 62) ≤ m ∧ m < 2 ^ 62) (q : R l m) : ∃ l' m' : Int, [V.int l, V.int m] = [V.int l', V.int m'] ∧ (-(2 ^ 62) ≤ l' ∧ l' < 2 ^ 62 ∧ -(2 ^ 62) ≤ m' ∧ m' < 2 ^ 62) ∧ R l' m' := ⟨l, m, rfl, h, q⟩
theorem w_rL {R : Addr → Prop} (h : SqL K H a xs) (q : R a) : ∃ a', V.ref a = V.ref a' ∧ (∃ xs, SqL K H a' xs) ∧ R a' := ⟨a, rfl, ⟨xs, h⟩, q⟩
theorem w_rT {R : Addr → Prop} (h : SqT K H a xs) (q : R a) : ∃ a', V.ref a = V.ref a' ∧ (∃ xs, SqT K H a' xs) ∧ R a' := ⟨a, rfl, ⟨xs, h⟩, q⟩
theorem ForR.run {lo : Int} {n : Nat} {g : TG} (Pv : Nat → L2.St → Hp → Prop) (h0 : Pv 0 σ H) (hs : ∀ i σ H, i < n → Pv i σ H → g (.int (lo + i)) σ H fun σ2 H2 => tb ⟨Pv (i + 1), rt, nx, Pv (i + 1)⟩ σ2 H2) (hd : ∀ σ H, Pv n σ H → nx σ H) : ForR lo n g tb ⟨nx, rt, bk, ct⟩ σ H :=
  for_range (D := ⟨nx, rt, bk, ct⟩) Pv h0 hs hd
theorem ForL.run {g : TG} (xs : List V) (Pv : Nat → L2.St → Hp → Prop) (h0 : Pv 0 σ H) (hl : ∀ i σ H, i ≤ xs.length → Pv i σ H → SqL K H a xs) (hs : ∀ i x σ H, xs[i]? = some x → Pv i σ H → g x σ H fun σ2 H2 => tb ⟨Pv (i + 1), rt, nx, Pv (i + 1)⟩ σ2 H2) (hd : ∀ σ H, Pv xs.length σ H → nx σ H) :
    ForL K a g tb ⟨nx, rt, bk, ct⟩ σ H := for_list (D := ⟨nx, rt, bk, ct⟩) Pv h0 hl hs hd
theorem ForT.run {g : TG} (xs : List V) (Pv : Nat → L2.St → Hp → Prop) (h0 : Pv 0 σ H) (hl : ∀ i σ H, i ≤ xs.length → Pv i σ H → SqT K H a xs) (hs : ∀ i x σ H, xs[i]? = some x → Pv i σ H → g x σ H fun σ2 H2 => tb ⟨Pv (i + 1), rt, nx, Pv (i + 1)⟩ σ2 H2) (hd : ∀ σ H, Pv xs.length σ H → nx σ H) :
    ForT K a g tb ⟨nx, rt, bk, ct⟩ σ H := for_tup (D := ⟨nx, rt, bk, ct⟩) Pv h0 hl hs hd
/-- list(range(..)) -/
theorem w_listRg1 (h : te σ H fun x H1 => ∃ m : Int, x = .int m ∧ RgOk 0 m ∧ ∀ q, H1 q = none → Q (.ref q) (upd H1 q (.lst (rgV 0 m)))) : tLstRg (tRg1 te) σ H Q := h
theorem w_rg {m : Int} {R : Addr → Hp → Prop} (h : 0 ≤ m ∧ m ≤ 100000) (q : ∀ p H1, H p = none → Same H H1 → H1 p = some (.lst (rgV 0 m)) → R p H1) : ∃ m' : Int, V.int m = V.int m' ∧ RgOk 0 m' ∧ ∀ p, H p = none → R p (upd H p (.lst (rgV 0 m'))) :=
  ⟨m, rfl, ⟨by decide, by decide, by omega, by omega, by omega⟩, w_new q⟩
/-! comprehensions -/
def LcR (lo : Int) (n : Nat) (g : TG) (tt : TT) (te : TE) (vs : List Nat) (σ : L2.St) (H1 : Hp) (Q : VK) : Prop := ∀ D, H1 D = none → ∃ W : Nat → Nat → Hp → Prop, (∃ m, W 0 m (upd H1 D (.lst []))) ∧ ∀ i m H, W i m H → ((Itr lo n).stop i H ∧ Q (.ref D) H) ∨
  ((Itr lo n).go i H ∧ ∃ Nx : Hp → Prop, (∀ H', Nx H' → ∃ m', m' < m ∧ W (i + 1) m' H') ∧ ∀ x H', (Itr lo n).yld i H x H' → g x (wipe σ vs) H' fun σ2 H2 => wipe σ2 vs = wipe σ vs ∧ tt σ2 H2 fun b H3 => if b = true then te σ2 H3 fun y H4 => ∃ acc, H4 D = some (.lst acc) ∧ acc.length < sizeLine ∧ Nx (upd H4 D (.lst (acc ++ [y]))) else Nx H3)
def LcL (K : PySem.W.Frag) (a : Addr) (g : TG) (tt : TT) (te : TE) (vs : List Nat) (σ : L2.St) (H1 : Hp) (Q : VK) : Prop := ∀ D, H1 D = none → ∃ W : Nat → Nat → Hp → Prop, (∃ m, W 0 m (upd H1 D (.lst []))) ∧ ∀ i m H, W i m H → ((Itl K a).stop i H ∧ Q (.ref D) H) ∨
  ((Itl K a).go i H ∧ ∃ Nx : Hp → Prop, (∀ H', Nx H' → ∃ m', m' < m ∧ W (i + 1) m' H') ∧ ∀ x H', (Itl K a).yld i H x H' → g x (wipe σ vs) H' fun σ2 H2 => wipe σ2 vs = wipe σ vs ∧ tt σ2 H2 fun b H3 => if b = true then te σ2 H3 fun y H4 => ∃ acc, H4 D = some (.lst acc) ∧ acc.length < sizeLine ∧ Nx (upd H4 D (.lst (acc ++ [y]))) else Nx H3)
theorem w_lcR1 {g : TG} {vs : List Nat} (h : ts σ H fun us H1 => ∃ m : Int, us = [.int m] ∧ -(2 ^ 62) ≤ m ∧ m < 2 ^ 62 ∧ LcR 0 m.toNat g tt te vs σ H1 Q) : tLc (iRng1 ts) g tt te vs σ H Q := h
theorem w_lcR2 {g : TG} {vs : List Nat} (h : ts σ H fun us H1 => ∃ l m : Int, us = [.int l, .int m] ∧ (-(2 ^ 62) ≤ l ∧ l < 2 ^ 62 ∧ -(2 ^ 62) ≤ m ∧ m < 2 ^ 62) ∧ LcR l (m - l).toNat g tt te vs σ H1 Q) : tLc (iRng2 ts) g tt te vs σ H Q := h
theorem w_lcL {g : TG} {vs : List Nat} (h : tl σ H fun x H1 => ∃ a, x = .ref a ∧ (∃ xs, SqL K H1 a xs) ∧ LcL K a g tt te vs σ H1 Q) : tLc (iList K tl) g tt te vs σ H Q := h
theorem w_yes {R : Bool → Hp → Prop} (h : R true H) : tYes σ H R := h
theorem del_upd {H : Hp} {D : Addr} {o : HO} : L2.del (upd H D o) D = L2.del H D := by
  funext b
  by_cases h : b = D
  · rw [h, del_same, del_same]
  · rw [del_ne h, del_ne h, upd_ne h]
theorem _root_.L2.Same.del {H H' : Hp} {D : Addr} (s : Same H H') : Same (L2.del H D) (L2.del H' D) := fun b o e => by
  by_cases h : b = D
  · rw [h, del_same] at e
    cases e
  · rw [del_ne h] at e ⊢
    exact s b o e
theorem _root_.L2.Same.undel {H : Hp} {D : Addr} : Same (L2.del H D) H := fun b o e => by
  by_cases h : b = D
  · rw [h, del_same] at e
    cases e
  · rw [del_ne h] at e
    exact e
theorem _root_.L2.Same.todel {H H' : Hp} {D : Addr} (s : Same H H') (n : H D = none) : Same H (L2.del H' D) := fun b o e => by
  rw [del_ne (ne_of_none e n)]
  exact s b o e
theorem wipe_set {v : Option V} : wipe ((wipe σ [j]).set j v) [j] = wipe σ [j] := by
  show ((((σ.set j none).set j v)).set j none) = σ.set j none
  rw [List.set_set, List.set_set]
theorem lc_keep {R : Nat → V → Hp → Prop} (mono : ∀ i y H H', Same H H' → R i y H → R i y H') {ys : List V} {y : V} {D : Addr} {H2 H3 : Hp} (s3 : Same H2 H3) (hy : ∀ l y, ys[l]? = some y → R l y (L2.del H2 D)) (r : R ys.length y (L2.del H3 D)) :
    ∀ l z, (ys ++ [y])[l]? = some z → R l z (L2.del (upd H3 D (.lst (ys ++ [y]))) D) := fun l z e => by
  rw [del_upd]
  by_cases h : l < ys.length
  · rw [List.getElem?_append_left h] at e
    exact mono _ _ _ _ (Same.del s3) (hy l z e)
  · rw [List.getElem?_append_right (by omega)] at e
    obtain ⟨h1, h2⟩ := List.getElem?_eq_some_iff.mp e
    simp at h1
    have e1 : l = ys.length := by omega
    subst e1
    simp at h2
    subst h2
    exact r
/-- [e for k in range(..)]: each element with what is true of it -/
theorem LcR.map {lo : Int} {n : Nat} (R : Nat → V → Hp → Prop) (mono : ∀ i y H H', Same H H' → R i y H → R i y H') (hn : n ≤ 100000)
    (step : ∀ i D H2 (k : VK), i < n → H D = none → Same H H2 → (∃ zs, H2 D = some (.lst zs)) → (∀ y H3, Same H2 H3 → R i y (L2.del H3 D) → k y H3) → te ((wipe σ [j]).set j (some (.int (lo + i)))) H2 k)
    (fin : ∀ D ys H2, H D = none → Same H H2 → H2 D = some (.lst ys) → ys.length = n → (∀ i y, ys[i]? = some y → R i y H2) → Q (.ref D) H2) : LcR lo n (gName j) tYes te [j] σ H Q := by
  intro D nD
  refine lc_range (fun i H2 => Same H H2 ∧ ∃ ys, H2 D = some (.lst ys) ∧ ys.length = i ∧ ∀ l y, ys[l]? = some y → R l y (L2.del H2 D)) ⟨fun b o e => by rw [upd_ne (ne_of_none e nD)]; exact e, [], upd_same, rfl, fun l y e => by simp at e⟩ ?_ ?_
  · rintro i H2 hi ⟨s2, ys, h2, rfl, hy⟩
    refine ⟨wipe_set, ?_⟩
    show te _ H2 _
    refine step _ D H2 _ hi nD s2 ⟨_, h2⟩ fun y H3 s3 r => ⟨ys, s3 _ _ h2, Nat.lt_of_lt_of_le (by omega) (show 100000 ≤ sizeLine by decide), Same.mut (s2.trans s3) nD, ys ++ [y], upd_same, by rw [List.length_append]; rfl, lc_keep mono s3 hy r⟩
  · rintro H2 ⟨s2, ys, h2, hl, hy⟩
    exact fin D ys H2 nD s2 h2 hl fun i y e => mono _ _ _ _ Same.undel (hy i y e)
theorem LcL.map {xs : List V} (R : Nat → V → Hp → Prop) (mono : ∀ i y H H', Same H H' → R i y H → R i y H') (hx : SqL K H a xs) (hn : xs.length ≤ 100000)
    (step : ∀ (i : Nat) (x : V) (D : Addr) (H2 : Hp) (k : VK), xs[i]? = some x → H D = none → Same H H2 → (∃ zs, H2 D = some (.lst zs)) → (∀ y H3, Same H2 H3 → R i y (L2.del H3 D) → k y H3) → te ((wipe σ [j]).set j (some x)) H2 k)
    (fin : ∀ D ys H2, H D = none → Same H H2 → H2 D = some (.lst ys) → ys.length = xs.length → (∀ i y, ys[i]? = some y → R i y H2) → Q (.ref D) H2) : LcL K a (gName j) tYes te [j] σ H Q := by
  intro D nD
  refine lc_list (xs := xs) (fun i H2 => Same H H2 ∧ ∃ ys, H2 D = some (.lst ys) ∧ ys.length = i ∧ ∀ l y, ys[l]? = some y → R l y (L2.del H2 D)) ⟨fun b o e => by rw [upd_ne (ne_of_none e nD)]; exact e, [], upd_same, rfl, fun l y e => by simp at e⟩ (fun i H2 _ h => h.1.seq hx) ?_ ?_
  · rintro i x H2 hi ⟨s2, ys, h2, rfl, hy⟩
    refine ⟨wipe_set, ?_⟩
    show te _ H2 _
    have hlt := (List.getElem?_eq_some_iff.mp hi).1
    refine step _ x D H2 _ hi nD s2 ⟨_, h2⟩ fun y H3 s3 r => ⟨ys, s3 _ _ h2, Nat.lt_of_lt_of_le (by omega) (show 100000 ≤ sizeLine by decide), Same.mut (s2.trans s3) nD, ys ++ [y], upd_same, by rw [List.length_append]; rfl, lc_keep mono s3 hy r⟩
  · rintro H2 ⟨s2, ys, h2, hl, hy⟩
    exact fin D ys H2 nD s2 h2 hl fun i y e => mono _ _ _ _ Same.undel (hy i y e)
theorem all_is {ys : List V} {n : Nat} {F : Nat → V} (hl : ys.length = n) (h : ∀ i y, ys[i]? = some y → y = F i) : ys = (List.range n).map F := by
  refine List.ext_getElem? fun i => ?_
  rw [List.getElem?_map]
  by_cases hi : i < n
  · rw [List.getElem?_range hi, List.getElem?_eq_getElem (by omega)]
    exact congrArg some (h i _ (List.getElem?_eq_getElem (by omega)))
  · rw [List.getElem?_eq_none (by omega), List.getElem?_eq_none (by rw [List.length_range]; omega)]
    rfl
/-- .. scalars -/
theorem LcR.mapV {lo : Int} {n : Nat} (F : Nat → V) (hn : n ≤ 100000)
    (step : ∀ i H2 (k : VK), i < n → Same H H2 → (∀ H3, Same H2 H3 → k (F i) H3) → te ((wipe σ [j]).set j (some (.int (lo + i)))) H2 k)
    (fin : ∀ D H2, H D = none → Same H H2 → H2 D = some (.lst ((List.range n).map F)) → Q (.ref D) H2) : LcR lo n (gName j) tYes te [j] σ H Q :=
  LcR.map (fun i y _ => y = F i) (fun _ _ _ _ _ h => h) hn (fun i D H2 k hi _ s _ q => step i H2 k hi s fun H3 s3 => q _ H3 s3 rfl)
    fun D ys H2 nD s h hl hy => fin D H2 nD s (by rw [h, all_is hl hy])
theorem LcL.mapV {xs : List V} (F : V → V) (hx : SqL K H a xs) (hn : xs.length ≤ 100000)
    (step : ∀ (i : Nat) (x : V) (H2 : Hp) (k : VK), xs[i]? = some x → Same H H2 → (∀ H3, Same H2 H3 → k (F x) H3) → te ((wipe σ [j]).set j (some x)) H2 k)
    (fin : ∀ D H2, H D = none → Same H H2 → H2 D = some (.lst (xs.map F)) → Q (.ref D) H2) : LcL K a (gName j) tYes te [j] σ H Q :=
  LcL.map (xs := xs) (fun i y _ => ∃ x, xs[i]? = some x ∧ y = F x) (fun _ _ _ _ _ h => h) hx hn (fun i x D H2 k hi _ s _ q => step i x H2 k hi s fun H3 s3 => q _ H3 s3 ⟨x, hi, rfl⟩)
    fun D ys H2 nD s h hl hy => fin D H2 nD s (by
      have e : ys = xs.map F := by
        refine List.ext_getElem? fun i => ?_
        rw [List.getElem?_map]
        by_cases hi : i < xs.length
        · obtain ⟨x, e1, e2⟩ := hy i _ (List.getElem?_eq_getElem (show i < ys.length by omega))
          rw [List.getElem?_eq_getElem (show i < ys.length by omega), e1, e2]
          rfl
        · rw [List.getElem?_eq_none (by omega), List.getElem?_eq_none (by omega)]
          rfl
      rw [h, e])
/-- [e for k in range(..) if t]: scalars -/
theorem LcR.filterV {lo : Int} {n : Nat} (B : Nat → Bool) (F : Nat → V) (hn : n ≤ 100000)
    (test : ∀ i H2 (k : Bool → Hp → Prop), i < n → Same H H2 → (∀ H3, Same H2 H3 → k (B i) H3) → tt ((wipe σ [j]).set j (some (.int (lo + i)))) H2 k)
    (step : ∀ i H2 (k : VK), i < n → B i = true → Same H H2 → (∀ H3, Same H2 H3 → k (F i) H3) → te ((wipe σ [j]).set j (some (.int (lo + i)))) H2 k)
    (fin : ∀ D H2, H D = none → Same H H2 → H2 D = some (.lst (((List.range n).filter B).map F)) → Q (.ref D) H2) : LcR lo n (gName j) tt te [j] σ H Q := by
  intro D nD
  refine lc_range (fun i H2 => Same H H2 ∧ H2 D = some (.lst (((List.range i).filter B).map F))) ⟨fun b o e => by rw [upd_ne (ne_of_none e nD)]; exact e, upd_same⟩ ?_ ?_
  · rintro i H2 hi ⟨s2, h2⟩
    refine ⟨wipe_set, ?_⟩
    refine test i H2 _ hi s2 fun H3 s3 => ?_
    have lb : (((List.range i).filter B).map F).length ≤ i := by
      rw [List.length_map]
      exact Nat.le_trans (List.length_filter_le _ _) (by rw [List.length_range]; exact Nat.le_refl _)
    refine w_ite (fun hb => ?_) (fun hb => ?_)
    · refine step i H3 _ hi hb (s2.trans s3) fun H4 s4 => ⟨_, s4 _ _ (s3 _ _ h2), Nat.lt_of_lt_of_le (by omega) (show 100000 ≤ sizeLine by decide), Same.mut ((s2.trans s3).trans s4) nD, ?_⟩
      rw [upd_same, List.range_succ, List.filter_append, List.map_append, List.filter_cons, if_pos hb]
      rfl
    · refine ⟨s2.trans s3, ?_⟩
      rw [s3 _ _ h2, List.range_succ, List.filter_append, List.filter_cons, hb]
      simp
  · rintro H2 ⟨s2, h2⟩
    exact fin D H2 nD s2 h2
end

/-! ## data alike, to a depth -/
def scl : V → Bool
  | .non => true
  | .bl _ => true
  | .int _ => true
  | .str _ => true
  | _ => false
def Eqd (K : PySem.W.Frag) : Nat → Hp → V → V → Prop
  | 0, _, _, _ => False
  | n + 1, H, x, y => (scl x = true ∧ x = y) ∨
      (∃ (a b : Addr) (xs ys : List V), x = .ref a ∧ y = .ref b ∧ SqL K H a xs ∧ SqL K H b ys ∧ xs.length = ys.length ∧ xs.length ≤ 100000 ∧ ∀ (i : Nat) (u v : V), xs[i]? = some u → ys[i]? = some v → Eqd K n H u v) ∨
      (∃ (a b : Addr) (xs ys : List V), x = .ref a ∧ y = .ref b ∧ SqT K H a xs ∧ SqT K H b ys ∧ xs.length = ys.length ∧ xs.length ≤ 100000 ∧ ∀ (i : Nat) (u v : V), xs[i]? = some u → ys[i]? = some v → Eqd K n H u v)
section
variable {σ : L2.St} {H H' : Hp} {Q : VK} {K : PySem.W.Frag} {a b : Addr} {xs ys : List V} {x y : V}
theorem Eqd.mono : ∀ {n : Nat} {x y : V}, Same H H' → Eqd K n H x y → Eqd K n H' x y
  | 0, _, _, _, h => h.elim
  | n + 1, x, y, s, h => by
    rcases h with h | ⟨a, b, xs, ys, e1, e2, h1, h2, h3, h4, h5⟩ | ⟨a, b, xs, ys, e1, e2, h1, h2, h3, h4, h5⟩
    · exact .inl h
    · exact .inr (.inl ⟨a, b, xs, ys, e1, e2, s.seq h1, s.seq h2, h3, h4, fun i u v p q => Eqd.mono s (h5 i u v p q)⟩)
    · exact .inr (.inr ⟨a, b, xs, ys, e1, e2, Same.seqT s h1, Same.seqT s h2, h3, h4, fun i u v p q => Eqd.mono s (h5 i u v p q)⟩)
theorem Eqd.sc {n : Nat} (h : scl x = true) : Eqd K (n + 1) H x x := .inl ⟨h, rfl⟩
theorem Eqd.int {n : Nat} {i j : Int} (h : i = j) : Eqd K (n + 1) H (.int i) (.int j) := .inl ⟨rfl, by rw [h]⟩
/-- two lists of scalars -/
theorem Eqd.lst {n : Nat} (h1 : SqL K H a xs) (h2 : SqL K H b ys) (e : xs = ys) (l : xs.length ≤ 100000) (h : ∀ x ∈ xs, scl x = true) : Eqd K (n + 2) H (.ref a) (.ref b) := by
  subst e
  refine .inr (.inl ⟨a, b, xs, xs, rfl, rfl, h1, h2, rfl, l, fun i u v p q => ?_⟩)
  rw [p] at q
  cases q
  exact Eqd.sc (h u (List.mem_of_getElem? p))
theorem Eqd.tup {n : Nat} (h1 : SqT K H a xs) (h2 : SqT K H b ys) (e : xs.length = ys.length) (l : xs.length ≤ 100000) (h : ∀ (i : Nat) (u v : V), xs[i]? = some u → ys[i]? = some v → Eqd K n H u v) : Eqd K (n + 1) H (.ref a) (.ref b) :=
  .inr (.inr ⟨a, b, xs, ys, rfl, rfl, h1, h2, e, l, h⟩)
theorem tyx_list (h : SqL K H a xs) : TyX K H (.ref a) (.type "list") := by
  rcases h with (h | ⟨o, h⟩) | ⟨o, its, n, h, hc, _⟩
  · exact .base (.lst h)
  · exact .base (.frz h)
  · exact .kList h hc
theorem tyx_tup (h : SqT K H a xs) : TyX K H (.ref a) (.type "tuple") := by
  rcases h with (h | ⟨o, h⟩) | ⟨o, its, n, h, hc, _⟩
  · exact .base (.tup h)
  · exact .fTuple h
  · exact .kTuple h hc
theorem w_isi {t n : String} {r : Bool} (ty : TyX K H x (.type t)) (e : kitB t n = some r) (q : Q (.bl r) H) : rIsi K [x, .ty n] H Q := ⟨x, .ty n, _, _, r, rfl, .ty n, ty, kit_ty e, q⟩
theorem w_isiT {t n : String} (ty : TyX K H x (.type t)) (e : kitB t n = some true) (q : Q (.bl true) H) : rIsi K [x, .ty n] H Q := w_isi ty e q
theorem w_isiF {t n : String} (ty : TyX K H x (.type t)) (e : kitB t n = some false) (q : Q (.bl false) H) : rIsi K [x, .ty n] H Q := w_isi ty e q
theorem w_rfl {R : Prop} (q : R) : V.non = V.non ∧ R := ⟨rfl, q⟩
theorem w_ixQL {k : Int} {v : V} (h : SqL K H a xs) (e : atI xs k = some v) (q : Q v H) : rIx K (.ref a) (.int k) H Q := .inl (w_ixL h e q)
theorem w_ixQT {k : Int} {v : V} (h : SqT K H a xs) (e : atI xs k = some v) (q : Q v H) : rIx K (.ref a) (.int k) H Q := .inr (.inl (w_ixT h e q))
theorem w_lenVL {P : Nat → Prop} (h : SqL K H a xs) (q : P xs.length) : ∃ x n, [V.ref a] = [x] ∧ LenV K x H n ∧ P n := ⟨.ref a, _, rfl, .inl ⟨xs, h, rfl⟩, q⟩
theorem w_lenVT {P : Nat → Prop} (h : SqT K H a xs) (q : P xs.length) : ∃ x n, [V.ref a] = [x] ∧ LenV K x H n ∧ P n := ⟨.ref a, _, rfl, .inr ⟨xs, h, rfl⟩, q⟩
theorem w_all {bs : List Bool} (h : SqL K H a (bs.map V.bl)) (q : Q (.bl (bs.all id)) H) : rAll K [.ref a] H Q := ⟨a, bs, rfl, h, q⟩
theorem w_sum {ns : List Int} (h : SqL K H a (ns.map V.int)) (q : Q (.int ns.sum) H) : rSum K [.ref a] H Q := ⟨a, ns, rfl, h, q⟩
end
/-! ## the rules with the written part by its name -/
section
variable {X : Cx} {K : PySem.W.Frag}
theorem ix_listK  (hK : X.K = K := by rfl) : IxR X (rIxL K) := by
  subst hK
  exact ix_list
theorem ix_tupK  (hK : X.K = K := by rfl) : IxR X (rIxT K) := by
  subst hK
  exact ix_tup
theorem ix_seqK  (hK : X.K = K := by rfl) : IxR X (rIx K) := by
  subst hK
  exact ix_seq
theorem sl_listK  (hK : X.K = K := by rfl) : SlR X (rSlL K) := by
  subst hK
  exact sl_list
theorem sl_tupK  (hK : X.K = K := by rfl) : SlR X (rSlT K) := by
  subst hK
  exact sl_tup
theorem op_in_seqK  (hK : X.K = K := by rfl) : OpR X (compareOp .In) (rIn K false) := by
  subst hK
  exact op_in_seq
theorem op_notIn_seqK  (hK : X.K = K := by rfl) : OpR X (compareOp .NotIn) (rIn K true) := by
  subst hK
  exact op_notIn_seq
theorem op_eqDK (hu : X.A.units + 64 < cLine) (hK : X.K = K := by rfl) : OpR X (compareOp .Eq) (rEqD K) := by
  subst hK
  exact op_eqD hu
theorem op_neDK (hu : X.A.units + 64 < cLine) (hK : X.K = K := by rfl) : OpR X (compareOp .NotEq) (rNeD K) := by
  subst hK
  exact op_neD hu
theorem op_ltTK (hu : X.A.units < cLine) (hK : X.K = K := by rfl) : OpR X (compareOp .Lt) (rLtT K) := by
  subst hK
  exact op_ltT hu
theorem op_inDK (hu : X.A.units + 65 < cLine) (hK : X.K = K := by rfl) : OpR X (compareOp .In) (rInD K) := by
  subst hK
  exact op_inD hu
theorem op_notInDK (hu : X.A.units + 65 < cLine) (hK : X.K = K := by rfl) : OpR X (compareOp .NotIn) (rNotInD K) := by
  subst hK
  exact op_notInD hu
theorem call_len_seqK  (hK : X.K = K := by rfl) : CallR X (.builtin "len") (fun xs H Q => ∃ p ys, xs = [.ref p] ∧ (SqL K H p ys ∨ SqT K H p ys) ∧ Q (.int ys.length) H) := by
  subst hK
  exact call_len_seq
theorem call_lenK  (hK : X.K = K := by rfl) : CallR X (.builtin "len") (fun xs H Q => ∃ x n, xs = [x] ∧ LenV K x H n ∧ Q (.int n) H) := by
  subst hK
  exact call_len
theorem call_list_ofK  (hK : X.K = K := by rfl) : CallR X (.type "list") (fun xs H Q => ∃ p ys, xs = [.ref p] ∧ (SqL K H p ys ∨ SqT K H p ys) ∧ ∀ l, H l = none → Q (.ref l) (upd H l (.lst ys))) := by
  subst hK
  exact call_list_of
theorem cr_sumK (hc : X.calm = true) (hK : X.K = K := by rfl) : CallR X (.builtin "sum") (rSum K) := by
  subst hK
  exact cr_sum hc
theorem cr_maxK (hc : X.calm = true) (hK : X.K = K := by rfl) : CallR X (.builtin "max") (rMax K) := by
  subst hK
  exact cr_max hc
theorem cr_minK (hc : X.calm = true) (hK : X.K = K := by rfl) : CallR X (.builtin "min") (rMin K) := by
  subst hK
  exact cr_min hc
theorem cr_anyK (hc : X.calm = true) (hK : X.K = K := by rfl) : CallR X (.builtin "any") (rAny K) := by
  subst hK
  exact cr_any hc
theorem cr_allK (hc : X.calm = true) (hK : X.K = K := by rfl) : CallR X (.builtin "all") (rAll K) := by
  subst hK
  exact cr_all hc
theorem cr_sortedK  (hK : X.K = K := by rfl) : CallR X (.builtin "sorted") (rSorted K) := by
  subst hK
  exact cr_sorted
theorem cr_sortedSK  (hK : X.K = K := by rfl) : CallR X (.builtin "sorted") (rSortedS K) := by
  subst hK
  exact cr_sortedS
theorem call_isiK  (hK : X.K = K := by rfl) : CallR X (.builtin "isinstance") (rIsi K) := by
  subst hK
  exact call_isi
theorem mt_indexK  (hK : X.K = K := by rfl) : MtR X "list.index" (rIndex K) := by
  subst hK
  exact mt_index
theorem pe_fldK {e : Expr} {f : Str} {pos : Pos} {ta : TE} (he : PE X e ta) (hb : attributeBase e f X.env (eval e X.env) = eval e X.env) (hK : X.K = K := by rfl) : PE X (.Attribute e f pos) (tFld K ta f) := by
  subst hK
  exact pe_fld he hb
theorem ps_fldK {o value : Expr} {f : Str} {pos pos' : Pos} {ta tv : TE} (ha : PE X o ta) (hv : PE X value tv) (hs : swapsWith value (some (.Attribute o f pos')) pos.line X.env = pure false) (hK : X.K = K := by rfl) : PS X (.Assign [.Attribute o f pos'] value pos) (sFld K ta tv f) := by
  subst hK
  exact ps_fld ha hv hs
theorem pi_listK {tg l : Expr} {tl : TE} (hl : PE X l tl) (hK : X.K = K := by rfl) : PI X tg l (iList K tl) := by
  subst hK
  exact pi_list hl
theorem pi_tupK {tg l : Expr} {tl : TE} (hl : PE X l tl) (hK : X.K = K := by rfl) : PI X tg l (iTup K tl) := by
  subst hK
  exact pi_tup hl
theorem pg_tupK {es : List Expr} {k : Nat} {t : TGs} {n : Nat} {pos : Pos} (hc : X.calm = true) (h : PGs X es t)
    (hn : (assignEach es X.env).length = n := by rfl) (hst : (assignEach es X.env).findIdx? (·.1) = none := by rfl) (hK : X.K = K := by rfl) : PG X (.Tuple es k pos) (gTup K n t) := by
  subst hK
  exact pg_tup hc h hn hst
theorem pe_bm0K {T name : _} {id : String} {r : V → List V → Hp → VK → Prop} {to : TE} {o : Expr} {apos cpos : Pos} (pa : PlainAttrs T) (slot : Slot T name id) (hty : typeOf (.builtin id) = pure (.type "method_descriptor")) (hm : MtR X id r) (ho : PE X o to)
    (hbase : attributeBase o name X.env (eval o X.env) = eval o X.env := by rfl) (hline : (apos.endLine == cpos.line) = true := by rfl) (hK : X.K = K := by rfl) : PE X (.Call (.Attribute o name apos) [] [] cpos) (tBM0 K T r to) := by
  subst hK
  exact pe_bm0 pa slot hty hm ho hbase hline
theorem pe_bmK {T name : _} {id : String} {r : V → List V → Hp → VK → Prop} {to : TE} {t : TA} {o e : Expr} {es : List Expr} {apos cpos : Pos} (pa : PlainAttrs T) (slot : Slot T name id) (hty : typeOf (.builtin id) = pure (.type "method_descriptor")) (hm : MtR X id r) (ho : PE X o to) (ha : PA X (e :: es) t)
    (hbase : attributeBase o name X.env (eval o X.env) = eval o X.env := by rfl)
    (hfew : ((backTo cpos (starEach (e :: es) X.env)).all (fun x => !x.1) && (backToKw cpos (keywordEach [] X.env)).all (fun x => x.1.isSome)
      && decide ((e :: es).length + ([] : List Keyword).length + (if ([] : List Keyword).isEmpty then 0 else 1) < 30)) = true := by rfl)
    (hline : (apos.endLine == cpos.line) = true := by rfl) (hs : starEach (e :: es) X.env = (false, eval e X.env) :: starEach es X.env := by rfl) (hplain : (backTo cpos (starEach es X.env)).any (·.1) = false := by rfl) (hK : X.K = K := by rfl) :
    PE X (.Call (.Attribute o name apos) (e :: es) [] cpos) (tBM K T r to t) := by
  subst hK
  exact pe_bm pa slot hty hm ho ha hbase hfew hline hs hplain
theorem pe_revLK {e : Expr} {te : TE} {k : Nat} {p1 p2 p3 pos : Pos} (he : PE X e te) (hK : X.K = K := by rfl) : PE X (.Subscript e (.Slice none none (some (.UnaryOp .USub (.Constant (.int 1) k p1) p2)) p3) pos) (tRevL K te) := by
  subst hK
  exact pe_revL he
theorem pe_notTK {a : Expr} {ta : TE} {pos : Pos} (ha : PE X a ta) (hK : X.K = K := by rfl) : PE X (.UnaryOp .Not a pos) (tNotT K ta) := by
  subst hK
  exact pe_notT ha
def tTruth (K : PySem.W.Frag) (ta : TE) : TT := fun σ H Q => ta σ H fun x H' => ∃ k, TruV K x H' k ∧ Q k H'
theorem pt_truthK {a : Expr} {ta : TE} (ha : PE X a ta) (he : ∀ whole, isTrue a X.env whole = (do let v ← whole; standAt a.pos; holding [v] (truthy v))) (hK : X.K = K := by rfl) : PT X a (tTruth K ta) := by
  subst hK
  exact pt_truth ha he
theorem pi_enumK {e : Expr} {ta : TA} {p pos tpos : Pos} {elts : List Expr} {kk : Nat} (hg : Gl X "enumerate") (hm : X.mg "enumerate" = none) (ha : PA X [e] ta) (hs : starEach [e] X.env = [(false, eval e X.env)] := by rfl) (hK : X.K = K := by rfl) :
    PI X (.Tuple elts kk tpos) (.Call (.Name "enumerate" p) [e] [] pos) (iEnum K ta) := by
  subst hK
  exact pi_enum hg hm ha hs
end


section
theorem ps_ostK {X : Cx} {K : PySem.W.Frag} {o e : Expr} {f : Str} {to te : TE} {p' pos : Pos} (ho : PE X o to) (he : PE X e te) (hs : swapsWith e (some (.Attribute o f p')) pos.line X.env = pure false) (hK : X.K = K := by rfl) : PS X (.Assign [.Attribute o f p'] e pos) (tOst K f to te) := by
  subst hK
  exact ps_ost ho he hs
theorem w_ost {K : PySem.W.Frag} {f : Str} {to te : TE} {nx bk ct : L2.St → Hp → Prop} {rt : VK} {σ : L2.St} {H : Hp} (h : te σ H fun y H1 => to σ H1 fun x H2 => ∃ a C : Addr, x = .ref a ∧ OexC K C ∧ PySem.W.findIn K (.ref C) f = some none ∧
  ((H2 a = some (exo a C none) ∧ ∀ dx, H2 dx = none → dx ≠ a → nx σ (upd (upd H2 dx (exd dx [(f, y)])) a (exo a C (some dx)))) ∨ ∃ (dx : Addr) (fs : List (Str × V)), H2 a = some (exo a C (some dx)) ∧ H2 dx = some (exd dx fs) ∧ fs.length ≤ 900 ∧ nx σ (upd H2 dx (exd dx ((f, y) :: fs))))) :
  tOst K f to te ⟨nx, rt, bk, ct⟩ σ H := h
end

section
variable {σ : L2.St} {H : Hp} {Q : VK} {ta tb tc : TE}
theorem w_chain {r r' : R2} (h : ta σ H fun x H1 => tb σ H1 fun y H2 => r x y H2 fun z H3 => ∃ k, z = .bl k ∧ (if k = true then tc σ H3 fun w' H4 => r' y w' H4 Q else Q (.bl false) H3)) : tChain r r' ta tb tc σ H Q := h
theorem w_mkoT {C : Addr} {ts : TA} {R : XK} (h : ts σ H fun vs H1 => ∃ v, vs = [v] ∧ ∀ d, H1 d = none → R (.ref C) (some d) (upd H1 d (.xd [("value", v)]))) (mono : ∀ R R' : List V → Hp → Prop, (∀ vs H, R vs H → R' vs H) → ts σ H R → ts σ H R') : tMkO C (spInitX C) [] ts σ H R := by
  refine mono _ _ (fun vs H1 q => ?_) h
  obtain ⟨v, rfl, q⟩ := q
  exact w_mko q
theorem w_mkoU {C : Addr} {ts : TA} {R : XK} (h : ts σ H fun vs H1 => vs.length ≤ 1000 ∧ ∀ a, H1 a = none → spInitX C (.ref a :: (vs ++ [])) (upd H1 a (exo a C none))
      (fun v H2 => v = .non ∧ ∃ (d : Addr) (fs : List (Str × V)), H2 a = some (exo a C (some d)) ∧ H2 d = some (exd d fs) ∧ H1 d = none ∧ R (.ref C) (some d) (upd (del H2 a) d (.xd fs))) (fun _ _ _ => False)) : tMkO C (spInitX C) [] ts σ H R := h
theorem w_sign {c : Nat} {z : Str} {P : Nat → Str → Prop} (q : P c z) : ∃ (c' : Nat) (z' : Str), V.str ⟨#[c]⟩ = V.str ⟨#[c']⟩ ∧ V.str z = V.str z' ∧ P c' z' := ⟨c, z, rfl, rfl, q⟩
end
theorem sizes {n : Nat} (h : n ≤ 100000) : n ≤ sizeLine := Nat.le_trans h (Nat.le_of_ble_eq_true rfl)
/-- a new object at p -/
structure New (p : Addr) (o : HO) (H H1 : Hp) : Prop where
  no : H p = none
  sm : Same H H1
  at_ : H1 p = some o
theorem New.of {p : Addr} {o : HO} {H H1 : Hp} (h : H p = none) (e : upd H p o = H1) : New p o H H1 := by
  subst e
  exact ⟨h, Same.mut (Same.refl _) h, upd_same⟩
theorem str_dash : Str.ofString "-" = ⟨#[45]⟩ := by decide +kernel
theorem str_dot : Str.ofString "." = ⟨#[46]⟩ := by decide +kernel
theorem w_dash {z : Str} {P : Nat → Str → Prop} (q : P 45 z) : ∃ (c' : Nat) (z' : Str), V.str (Str.ofString "-") = V.str ⟨#[c']⟩ ∧ V.str z = V.str z' ∧ P c' z' := ⟨45, z, by rw [str_dash], rfl, q⟩
theorem w_sfld {K : PySem.W.Frag} {ta tv : TE} {f : Str} {nx bk ct : L2.St → Hp → Prop} {rt : VK} {σ : L2.St} {H : Hp} (h : tv σ H fun y H1 => ta σ H1 fun x H2 => ∃ a C dx fs, x = .ref a ∧ H2 a = some (.ins C dx fs) ∧ Cls K C ∧ NoAttr K C f ∧ fs.length < 1000 ∧ nx σ (upd H2 a (.ins C dx (putF f y fs)))) :
    sFld K ta tv f ⟨nx, rt, bk, ct⟩ σ H := h
theorem w_setf {K : PySem.W.Frag} {f : Str} {H : Hp} {a C dx : Addr} {fs : List (Str × V)} {y : V} {R : Hp → Prop} (h : H a = some (.ins C dx fs)) (c : Cls K C) (n : NoAttr K C f) (l : fs.length < 1000) (q : ∀ H1, But a H H1 → H1 a = some (.ins C dx (putF f y fs)) → R H1) :
    ∃ a' C dx fs, V.ref a = V.ref a' ∧ H a' = some (.ins C dx fs) ∧ Cls K C ∧ NoAttr K C f ∧ fs.length < 1000 ∧ R (upd H a' (.ins C dx (putF f y fs))) := ⟨a, C, dx, fs, rfl, h, c, n, l, q _ But.upd upd_same⟩
theorem w_make {C : Addr} {sp : Sp} {E : L2.St → XK} {t : TA} {σ : L2.St} {H : Hp} {Q : VK} (h : t σ H fun vs H1 => ∀ x dx, H1 x = none → H1 dx = none → dx ≠ x → sp (.ref x :: vs) (upd (upd H1 dx (.own x)) x (.ins C dx [])) (fun v H2 => v = .non ∧ Q (.ref x) H2) (E σ)) : tMakeS C sp E t σ H Q := h
/-- a new instance at x -/
structure NewI (C x dx : Addr) (H H1 : Hp) : Prop where
  no : H x = none
  nd : H dx = none
  ne : dx ≠ x
  sm : Same H H1
  at_ : H1 x = some (.ins C dx [])
theorem w_mk {C : Addr} {H : Hp} {R : Addr → Hp → Prop} (h : ∀ x dx H1, NewI C x dx H H1 → R x H1) : ∀ x dx, H x = none → H dx = none → dx ≠ x → R x (upd (upd H dx (.own x)) x (.ins C dx [])) := fun x dx h1 h2 h3 =>
  h x dx _ ⟨h1, h2, h3, Same.mut (Same.mut (Same.refl _) h2) h1, upd_same⟩
structure MetK (P : Program) (w : World) (K : PySem.W.Frag) (mg : Str → Option Value) (base : Heap) (CX : CXT) (k : Nat) (C : Addr) (m : Str) (ks : List Str) (gV : List V → List V → List V) (sp : Sp) : Prop where
  ex : ∃ (f : Addr) (fd : FuncData) (ps : List Str) (g : List Value → List Value → List Value), Cls K C ∧ Meth K C m f ∧ FnOk P w K mg base CX k f fd ps sp ∧ KBn K fd ps 1 ks g gV
def tMethKS (C : Addr) (m : Str) (sp : Sp) (n : Nat) (gV : List V → List V → List V) (E : L2.St → XK) (ta : TE) (tk : TA) : TE := fun σ H Q => ta σ H fun x H1 => ∃ a dx fs, x = .ref a ∧ H1 a = some (.ins C dx fs) ∧ fs.lookup m = none ∧
  tk σ H1 fun zs H2 => zs.length = n ∧ sp (gV [x] zs) H2 Q (E σ)
section
variable {X : Cx} {CX : CXT} {k j : Nat} {C : Addr} {ks : List Str} {sp : Sp} {E : L2.St → XK} {m : Str} {pos apos : Pos} {o : Expr} {ta : TE} {tk : TA} {kws : List Keyword}
theorem pe_msk {pl : Sem Bool} {gV : List V → List V → List V} (c : MetK X.prog X.w X.K X.mg X.base CX k C m ks gV sp) (hr : Room j X.A) (hk : k ≤ j) (hx : ∀ σ, PassesAt CX X σ (E σ)) (he : PE X o ta) (hkw : PK X kws tk)
    (hall : (backToKw pos (keywordEach kws X.env)).all (·.1.isSome) = true := by rfl) (hks : (backToKw pos (keywordEach kws X.env)).filterMap (·.1) = ks := by rfl)
    (hpl : ((backTo pos (starEach [] X.env)).any (·.1) || (backToKw pos (keywordEach kws X.env)).any (·.1.isNone)) = false := by rfl)
    (ht : eval (.Call (.Attribute o m apos) [] kws pos) X.env = (do
      let ov ← eval o X.env
      standAt apos.atName
      let (f, first) ← holding [ov] (getMethod ov m pl)
      callWith pos f first (backTo pos (starEach [] X.env)) (backToKw pos (keywordEach kws X.env))) := by rfl) :
    PE X (.Call (.Attribute o m apos) [] kws pos) (tMethKS C m sp ks.length gV E ta tk) := by
  obtain ⟨f, fd, ps, g, hc, hm, F, b⟩ := c.ex
  refine ⟨fun pins s σ H Q I h => ?_⟩
  refine PySem.W.methodCall_KW (pl := pl) (thn (he.run pins s σ H _ I h) fun u s1 ⟨x, H1, I1, rx, a, dx, fs, ex, ea, l, q⟩ => ?_) ht
  subst ex
  obtain rfl : u = Value.ref a := rx
  refine getmeth_ok I1 ea hc hm l ?_
  refine PySem.W.callWith_KW0 (first := [.ref a]) (h₀ := X.base) I.ok.mod.kin hm.kp hall (thn (hkw.run pos pins s1 σ H1 _ I1 q) fun ws s2 ⟨zs, H2, I2, rz, l2, q2⟩ => ⟨I2.kIn, ?_⟩) hpl
  rw [hks]
  exact wpAny_call (run_fnKS (us := [.ref a]) (vs := [.ref a]) F (hr.mono hk) b (hx σ) I2 (.cons rfl .nil) rz rfl l2 q2)
end
theorem w_methK {C : Addr} {m : Str} {sp : Sp} {n : Nat} {gV : List V → List V → List V} {E : L2.St → XK} {ta : TE} {tk : TA} {σ : L2.St} {H : Hp} {Q : VK} (h : ta σ H fun x H1 => ∃ a dx fs, x = .ref a ∧ H1 a = some (.ins C dx fs) ∧ fs.lookup m = none ∧ tk σ H1 fun zs H2 => zs.length = n ∧ sp (gV [x] zs) H2 Q (E σ)) : tMethKS C m sp n gV E ta tk σ H Q := h
/-! for over a text -/
def ForS (z : Str) (g : TG) (tb : TS) (D : Ends) (σ : L2.St) (H : Hp) : Prop := ∃ W : Nat → Nat → L2.St → Hp → Prop, (∃ m, W 0 m σ H) ∧ ∀ i m σ H, W i m σ H →
      ((Its z).stop i H ∧ D.nx σ H) ∨ ((Its z).go i H ∧ ∃ N : L2.St → Hp → Prop, (∀ σ' H', N σ' H' → ∃ m', m' < m ∧ W (i + 1) m' σ' H') ∧ ∀ x H', (Its z).yld i H x H' → g x σ H' fun σ2 H2 => tb { D with nx := N, ct := N, bk := D.nx } σ2 H2)
section
variable {te : TE} {g : TG} {tb : TS} {nx bk ct : L2.St → Hp → Prop} {rt : VK} {σ : L2.St} {H : Hp} {z : Str}
theorem w_forS (h : te σ H fun x H1 => ∃ z, x = .str z ∧ ForS z g tb ⟨nx, rt, bk, ct⟩ σ H1) : tFor (iStr te) g tb ⟨nx, rt, bk, ct⟩ σ H := h
theorem w_strE {P : Str → Prop} (q : P z) : ∃ z', V.str z = V.str z' ∧ P z' := ⟨z, rfl, q⟩
theorem ForS.run (Pv : Nat → L2.St → Hp → Prop) (h0 : Pv 0 σ H) (hs : ∀ i c σ H, z.cps.toList[i]? = some c → Pv i σ H → g (.str ⟨#[c]⟩) σ H fun σ2 H2 => tb ⟨Pv (i + 1), rt, nx, Pv (i + 1)⟩ σ2 H2)
    (hd : ∀ σ H, Pv z.cps.toList.length σ H → nx σ H) : ForS z g tb ⟨nx, rt, bk, ct⟩ σ H := by
  have hlen : z.cps.toList.length = z.cps.size := by simp
  refine ⟨fun i m σ H => m = z.cps.size - i ∧ i ≤ z.cps.size ∧ Pv i σ H, ⟨_, rfl, Nat.zero_le _, h0⟩, ?_⟩
  rintro i m σ H ⟨rfl, hi, p⟩
  by_cases hlt : i < z.cps.size
  · refine .inr ⟨hlt, Pv (i + 1), fun σ' H' p' => ⟨z.cps.size - (i + 1), by omega, rfl, hlt, p'⟩, ?_⟩
    rintro x H' ⟨rfl, c, hc, rfl⟩
    exact hs i c σ _ (by rw [← hc]; simp) p
  · have e : i = z.cps.size := by omega
    subst e
    exact .inl ⟨Nat.le_refl _, hd σ H (by rw [hlen]; exact p)⟩
end
theorem w_m1 {r : V → List V → Hp → VK → Prop} {to te : TE} {σ : L2.St} {H : Hp} {Q : VK} (h : to σ H fun x H1 => (∃ a, x = .str a) ∧ te σ H1 fun y H2 => r x [y] H2 Q) : tM1 r to te σ H Q := h
theorem w_isS {z : Str} {R : Prop} (q : R) : (∃ a, V.str z = V.str a) ∧ R := ⟨⟨z, rfl⟩, q⟩
theorem w_cnt {z z' : Str} {P : Str → Str → Prop} (q : P z z') : ∃ a b, V.str z = V.str a ∧ [V.str z'] = [V.str b] ∧ P a b := ⟨z, z', rfl, rfl, q⟩
theorem w_2s {z z' : Str} {P : Str → Str → Prop} (q : P z z') : ∃ a b, V.str z = V.str a ∧ V.str z' = V.str b ∧ P a b := ⟨z, z', rfl, rfl, q⟩
/-- keywords alone behind n values, no defaults -/
theorem kbn_all {K : PySem.W.Frag} {x qual : Str} {params : Arguments} {body : List Stmt} {scope : Scope} {f : Addr} {fd : FuncData} {ps ks : List Str} {n : Nat} (F : FunD K x qual params body scope [] [] f fd)
    (h : ∀ (kV doc pm : Value) (an : Option Addr) (cdv ct : Value) (us ws : List Value), us.length = n → ws.length = ks.length → bindArgs (PySem.W.fnOf x qual params body scope .none kV doc pm an cdv ct) ⟨us, ks.zip ws⟩ = pure (ps.zip (us ++ ws))) :
    KBn K fd ps n ks (fun us ws => us ++ ws) (fun vs zs => vs ++ zs) where
  to := fun s us ws _ l1 l2 => by
    obtain ⟨oc, od, dV, kV, doc, pm, an, cdv, ct, osl, rfl, lk, hcd, hD, hK⟩ := F.ex
    rcases hD with ⟨_, rfl⟩ | ⟨e, _⟩
    · exact .of_eq (h kV doc pm an cdv ct us ws l1 l2)
    · exact absurd rfl e
  rel := fun r1 r2 => r1.append r2
section
variable {C : Addr} {sp : Sp} {E : L2.St → XK} {n : Nat} {gV : List V → List V → List V} {t tk : TA} {ta tf : TE} {σ : L2.St} {H : Hp} {Q : VK}
theorem w_inst (h : tf σ H fun y H1 => ∃ a, y = V.ref a ∧ t σ H1 fun vs H2 => (∃ dx fs, H2 a = some (.ins C dx fs)) ∧ sp (V.ref a :: vs) H2 Q (E σ)) : tInstS C sp E tf t σ H Q := h
theorem w_instK (h : tf σ H fun y H1 => ∃ a, y = V.ref a ∧ tk σ H1 fun zs H2 => (∃ dx fs, H2 a = some (.ins C dx fs)) ∧ zs.length = n ∧ sp (gV [.ref a] zs) H2 Q (E σ)) : tInstKS C sp n gV E tf tk σ H Q := h
theorem w_makeK (h : tk σ H fun zs H1 => zs.length = n ∧ ∀ x dx, H1 x = none → H1 dx = none → dx ≠ x → sp (gV [.ref x] zs) (upd (upd H1 dx (.own x)) x (.ins C dx [])) (fun v H2 => v = .non ∧ Q (.ref x) H2) (E σ)) : tMakeKS C sp n gV E tk σ H Q := h
theorem w_prop (h : ta σ H fun x H1 => ∃ a dx fs, x = .ref a ∧ H1 a = some (.ins C dx fs) ∧ sp [.ref a] H1 Q (E σ)) : tPropS C sp E ta σ H Q := h
theorem w_xf {a : Addr} {cls : Value} {d : Option Addr} {f : Str} (h : ta σ H fun x H1 => x = .ref a ∧ cls = .ref C ∧ ∃ (dd : Addr) (fs : List (Str × V)) (v : V), d = some dd ∧ H1 dd = some (.xd fs) ∧ fs.lookup f = some v ∧ Q v H1) : tXf a cls d C f ta σ H Q := h
theorem w_isN {x : V} (h : Q (.bl (decide (x = V.non))) H) : V.non = V.non ∧ Q (.bl (decide (x = V.non))) H := ⟨rfl, h⟩
end
/-- the getter of the property f of the class at C -/
def PropG (K : PySem.W.Frag) (C : Addr) (f : Str) : Addr := match PySem.W.findIn K (.ref C) f with
  | some (some (.ref p)) => (match PySem.W.recIn K p "property" with
    | some (.ref g :: _) => g
    | _ => 0)
  | _ => 0
end Rg
set_option Elab.async false
set_option linter.all false
set_option maxRecDepth 100000
set_option maxHeartbeats 2000000
/-! the head: facts of the written part, told by a Hook -/
namespace Rg
open PySem PySem.Spec PyProof.Rows L2
open He (ba eqO eqO_ok ga ma Fa FnW frG frG_in asD)
/-- more facts -/
inductive Fx where
  | prop (C f : Str)
  | callo (C : Str)
  | spec (C f : Str)
  | oex (C : Str)
  | xi (C B : Str)
  | xf (C : Str)
def propB (K : PySem.W.Frag) (C : Addr) (f : Str) : Bool := match PySem.W.findIn K (.ref C) f with
  | some (some (.ref p)) => eqO (PySem.W.specialIn K (.ref p) "__get__") (some (some (.builtin "property.__get__"))) && (decide (PySem.W.takesIn K (.ref p) = some true) && (match PySem.W.recIn K p "property" with
    | some (.ref g :: _) => true
    | _ => false))
  | _ => false
theorem propB_ok {K : PySem.W.Frag} {C : Addr} {f : Str} (h : propB K C f = true) : ∃ p, PropOf K C f p (PropG K C f) := by
  unfold propB at h
  split at h
  · rename_i p hp
    obtain ⟨h1, h2⟩ := ba h
    obtain ⟨h3, h4⟩ := ba h2
    split at h4
    · rename_i g rest hr
      refine ⟨p, ⟨hp, eqO_ok h1, of_decide_eq_true h3, rest, ?_⟩⟩
      rw [hr]
      unfold PropG
      rw [hp]
      simp only [hr]
    · cases h4
  · cases h
def oexB (K : PySem.W.Frag) (C : Addr) : Bool := (match K.lookup C with
  | some ⟨.type "type", _, .cls cd, sl⟩ => (match cd.mro, sl.toList with
    | .ref C' :: bm, [_, _, _, _, some (.builtin n), _] => C' == C && n == "ValueError.__new__" && !cd.hasDel && cd.hasDict && PySem.HandSPX.refsVE bm
    | _, _ => false)
  | _ => false) && (eqO (PySem.W.findIn K (.ref C) "__setattr__") (some (some (.builtin "object.__setattr__"))) && (decide (PySem.W.subIn K (.ref C) (.type "BaseException") = some true) && (decide (PySem.W.typeIn K (.ref C) = some (.type "type")) && PySem.W.keepIn K (.ref C))))
theorem oexB_ok {K : PySem.W.Frag} {C : Addr} (h : oexB K C = true) : OexC K C := by
  obtain ⟨q, h⟩ := ba h
  obtain ⟨h1, h⟩ := ba h
  obtain ⟨h2, h⟩ := ba h
  obtain ⟨h3, h4⟩ := ba h
  refine ⟨?_, eqO_ok h1, of_decide_eq_true h2, of_decide_eq_true h3, h4⟩
  split at q
  · rename_i dd cd sl ho
    split at q
    · rename_i C' bm k0 k1 k2 k3 n k5 hm hs
      simp only [Bool.and_eq_true, beq_iff_eq, Bool.not_eq_true'] at q
      obtain ⟨⟨⟨⟨e1, e2⟩, e3⟩, e4⟩, e5⟩ := q
      obtain ⟨nm, bs, mro, ns, qn, hd, sn, sub, ab, col, dl⟩ := cd
      dsimp only at hm e3 e4
      subst e1 e2 hm e3 e4
      have hsl : sl = #[k0, k1, k2, k3, some (.builtin "ValueError.__new__"), k5] := by
        obtain ⟨l⟩ := sl
        simp only at hs
        rw [hs]
      subst hsl
      exact ⟨_, _, _, _, _, _, _, _, _, _, _, _, _, _, _, ho, e5⟩
    · cases q
  · cases q
def Fx.ok (K : PySem.W.Frag) : Fx → Bool
  | .prop C f => propB K (ga K C) f
  | .callo C => eqO (PySem.W.findIn K (.ref (ga K C)) "__call__") (some (some (.ref (ma K (ga K C) "__call__")))) && (PySem.W.isFn K (.ref (ma K (ga K C) "__call__")) && PySem.W.fnIn K (ma K (ga K C) "__call__"))
  | .spec C f => eqO (PySem.W.findIn K (.ref (ga K C)) f) (some (some (.ref (ma K (ga K C) f)))) && PySem.W.isFn K (.ref (ma K (ga K C) f))
  | .oex C => oexB K (ga K C)
  | .xi C B => eqO (PySem.W.findIn K (.ref (ga K C)) "__init__") (some (some (.ref (ma K (ga K B) "__init__")))) && (decide (PySem.W.typeIn K (.ref (ma K (ga K B) "__init__")) = some (.type "function")) && eqO (PySem.W.findIn K (.ref (ga K C)) "value") (some none))
  | .xf C => xfB K (ga K C)
section
variable {K : PySem.W.Frag} {C B f : Str}
theorem prop_ok (h : (Fx.prop C f).ok K = true) : ∃ p, PropOf K (ga K C) f p (PropG K (ga K C) f) := propB_ok h
theorem callo_ok (h : (Fx.callo C).ok K = true) : StX.CallO K (ga K C) (ma K (ga K C) "__call__") := by
  obtain ⟨h1, h2⟩ := ba h
  obtain ⟨h3, h4⟩ := ba h2
  exact ⟨eqO_ok h1, h3, h4⟩
theorem spec_ok (h : (Fx.spec C f).ok K = true) : PySem.W.findIn K (.ref (ga K C)) f = some (some (.ref (ma K (ga K C) f))) ∧ PySem.W.isFn K (.ref (ma K (ga K C) f)) = true := by
  obtain ⟨h1, h2⟩ := ba h
  exact ⟨eqO_ok h1, h2⟩
theorem oex_ok (h : (Fx.oex C).ok K = true) : OexC K (ga K C) := oexB_ok h
theorem xi_ok (h : (Fx.xi C B).ok K = true) : PySem.W.findIn K (.ref (ga K C)) "__init__" = some (some (.ref (ma K (ga K B) "__init__"))) ∧ PySem.W.typeIn K (.ref (ma K (ga K B) "__init__")) = some (.type "function") ∧ PySem.W.findIn K (.ref (ga K C)) "value" = some none := by
  obtain ⟨h1, h2⟩ := ba h
  obtain ⟨h3, h4⟩ := ba h2
  exact ⟨eqO_ok h1, of_decide_eq_true h3, eqO_ok h4⟩
theorem xf_ok (h : (Fx.xf C).ok K = true) : XfC K (ga K C) := xfB_ok h
end
/-- a def, its address by a path of one's own -/
structure DefA where
  ad : PySem.W.Frag → Addr
  name : Str
  qual : Str
  params : Arguments
  body : List Stmt
  scope : Scope
def wAt (K : PySem.W.Frag) (a : Addr) : FnW := match K.lookup a with
  | some ⟨_, _, .func fd, _⟩ => some (fd.name, fd.qualname, fd.params, fd.body, fd.scope, fd.globals, fd.closure, fd.builtins)
  | _ => none
def DefA.val (d : DefA) : FnW := some (d.name, d.qual, d.params, .stmts d.body, d.scope, mainGlobals, [], builtinsNs)
def DefA.ok (K : PySem.W.Frag) (d : DefA) : Bool := PySem.W.keepIn K (.ref (d.ad K)) && (match K.lookup (d.ad K) with
  | some ⟨_, _, .func fd, _⟩ => PySem.W.codeIn K fd.code d.qual && (He.dflB K fd.defaults [] && He.kwdB K fd.kwdefaults [])
  | _ => false)
theorem DefA.funD {K : PySem.W.Frag} {d : DefA} (e : wAt K (d.ad K) = d.val) (c : d.ok K = true) : ∃ fd, FunD K d.name d.qual d.params d.body d.scope [] [] (d.ad K) fd := by
  obtain ⟨kp, c2⟩ := ba c
  unfold wAt at e
  cases q : K.lookup (d.ad K) with
  | none =>
    rw [q] at c2
    cases c2
  | some o =>
    obtain ⟨oc, od, dt, osl⟩ := o
    rw [q] at c2 e
    cases dt with
    | func fd =>
      obtain ⟨n1, n2, n3, n4, n5, n6, n7, n8, n9, n10, n11, n12, n13, n14, n15⟩ := fd
      have e2 : (some (n1, n2, n3, n4, n5, n6, n7, n15) : FnW) = some (d.name, d.qual, d.params, .stmts d.body, d.scope, mainGlobals, [], builtinsNs) := e
      simp only [Option.some.injEq, Prod.mk.injEq] at e2
      obtain ⟨h1, h2, h3, h4, h5, h6, h7, h8⟩ := e2
      subst h1 h2 h3 h4 h5 h6 h7 h8
      obtain ⟨k1, k2⟩ := ba (show (PySem.W.codeIn K n13 d.qual && (He.dflB K n8 [] && He.kwdB K n9 [])) = true from c2)
      obtain ⟨k3, k4⟩ := ba k2
      exact ⟨_, ⟨oc, od, n8, n9, n10, n11, n12, n13, n14, osl, rfl, q, k1, He.dflB_ok k3, He.kwdB_ok k4⟩, kp⟩
    | _ => cases c2
abbrev AlR : Type := Bool × List FnW
def obsR (fa : List Fa) (fx : List Fx) (fn : List DefA) (K : PySem.W.Frag) : AlR := ((fa.all fun f => f.ok K) && ((fx.all fun f => f.ok K) && fn.all fun d => d.ok K), fn.map fun d => wAt K (d.ad K))
def valR (fn : List DefA) : AlR := (true, fn.map DefA.val)
def SaysR (fa : List Fa) (fx : List Fx) (fn : List DefA) (K : PySem.W.Frag) : Prop := obsR fa fx fn K = valR fn
def obsRG (n : Nat) (fa : List Fa) (fx : List Fx) (fn : List DefA) (g : Addr → Option Obj) : AlR := obsR fa fx fn (frG g (asD g n))
def hookR (n : Nat) (fa : List Fa) (fx : List Fx) (fn : List DefA) : PySem.W.Hook where
  α := AlR
  obs := fun s => obsRG n fa fx fn s.heap.get?
  val := fun _ => valR fn
  says := fun _ h => ∃ K : PySem.W.Frag, K.In h ∧ SaysR fa fx fn K
  of := fun _ _ e => ⟨_, frG_in, e⟩
  keeps := fun _ _ _ ⟨K, hK, c⟩ k => ⟨K, PySem.W.Frag.In.keeps hK k, c⟩
theorem obsRG_eq {n : Nat} {fa : List Fa} {fx : List Fx} {fn : List DefA} {g : Addr → Option Obj} {s : Shared} (h : ∀ a, g a = s.heap.get? a) : obsRG n fa fx fn g = (hookR n fa fx fn).obs s := by
  have e : g = s.heap.get? := funext h
  rw [e] <;> rfl
section
variable {fa : List Fa} {fx : List Fx} {fn : List DefA} {K : PySem.W.Frag}
theorem SaysR.all (c : SaysR fa fx fn K) : (fa.all fun f => f.ok K) = true ∧ (fx.all fun f => f.ok K) = true ∧ (fn.all fun d => d.ok K) = true := by
  obtain ⟨h1, h2⟩ := ba (show ((fa.all fun f => f.ok K) && ((fx.all fun f => f.ok K) && fn.all fun d => d.ok K)) = true from congrArg (fun z : AlR => z.1) c)
  obtain ⟨h3, h4⟩ := ba h2
  exact ⟨h1, h3, h4⟩
theorem SaysR.fact (c : SaysR fa fx fn K) (i : Nat) {f : Fa} (h : fa[i]? = some f := by rfl) : f.ok K = true := List.all_eq_true.mp c.all.1 f (List.mem_of_getElem? h)
theorem SaysR.more (c : SaysR fa fx fn K) (i : Nat) {f : Fx} (h : fx[i]? = some f := by rfl) : f.ok K = true := List.all_eq_true.mp c.all.2.1 f (List.mem_of_getElem? h)
theorem SaysR.def_ (c : SaysR fa fx fn K) (i : Nat) {d : DefA} (h : fn[i]? = some d := by rfl) : ∃ fd, FunD K d.name d.qual d.params d.body d.scope [] [] (d.ad K) fd := by
  have e : fn.map (fun d => wAt K (d.ad K)) = fn.map DefA.val := congrArg (fun z : AlR => z.2) c
  have e2 : (fn.map fun d => wAt K (d.ad K))[i]? = (fn.map DefA.val)[i]? := by rw [e]
  rw [List.getElem?_map, List.getElem?_map, h] at e2
  exact DefA.funD (Option.some.inj e2) (List.all_eq_true.mp c.all.2.2 d (List.mem_of_getElem? h))
end
end Rg

set_option Elab.async false
set_option linter.all false
set_option maxRecDepth 100000
set_option maxHeartbeats 4000000
namespace Rg
open PySem L2
def top (i : Nat) : Stmt := PySem.Challenge.pw_rungrepeats_k72_whole_deeds_taken_back.main.body.getD i (.Pass ⟨0, 0, 0, 0⟩)
abbrev s_RungError___init : Stmt := inClass (top 1) 0
abbrev s_Ladder___init : Stmt := inClass (top 9) 0
abbrev s_Ladder_check_post : Stmt := inClass (top 9) 1
abbrev s_Ladder_set_rung : Stmt := inClass (top 9) 2
abbrev s_Ladder_check_text : Stmt := inClass (top 9) 3
abbrev s_Ladder_begin_row : Stmt := inClass (top 9) 4
abbrev s_Ladder___call : Stmt := inClass (top 9) 5
abbrev s_Ladder_next_row : Stmt := inClass (top 9) 6
abbrev s_Ladder_order : Stmt := inClass (top 9) 7
abbrev s_Ladder_add_row : Stmt := inClass (top 9) 8
abbrev s_Ladder_rows : Stmt := inClass (top 9) 9
abbrev s_Ladder_undo : Stmt := inClass (top 9) 10
abbrev s_Ladder___len : Stmt := inClass (top 9) 11
abbrev s_Ladder___eq : Stmt := inClass (top 9) 12
abbrev s_law_cell : Stmt := top 11
abbrev s_law_draws : Stmt := top 12
abbrev s_law_same : Stmt := top 13
abbrev s_law_down : Stmt := top 14
abbrev s_law_taken : Stmt := top 15
abbrev s_law_set : Stmt := top 16
abbrev s_law_text : Stmt := top 17
abbrev s_law_posts : Stmt := top 18
abbrev s_law_state : Stmt := top 19
abbrev s_law_looked : Stmt := top 20
abbrev s_law_empty : Stmt := top 21
abbrev s_law_next : Stmt := top 22
abbrev s_law_done : Stmt := top 23
abbrev s_law_back : Stmt := top 24
abbrev s_law : Stmt := top 25
structure Tx (K : PySem.W.Frag) (mg : Str → Option Value) : Prop where
  d_law_cell : ∃ fd, FunD K "_law_cell" "_law_cell" (defArgs s_law_cell) (defBody s_law_cell) (defScope s_law_cell) [] [] (He.fAd K ("_law_cell", none)) fd
  g_law_cell : mg "_law_cell" = some (.ref (He.fAd K ("_law_cell", none)))
  n_len : mg "len" = none
  d_law_draws : ∃ fd, FunD K "_law_draws" "_law_draws" (defArgs s_law_draws) (defBody s_law_draws) (defScope s_law_draws) [] [] (He.fAd K ("_law_draws", none)) fd
  g_law_draws : mg "_law_draws" = some (.ref (He.fAd K ("_law_draws", none)))
  n_range : mg "range" = none
  n_int : mg "int" = none
  d_law_same : ∃ fd, FunD K "_law_same" "_law_same" (defArgs s_law_same) (defBody s_law_same) (defScope s_law_same) [] [] (He.fAd K ("_law_same", none)) fd
  g_law_same : mg "_law_same" = some (.ref (He.fAd K ("_law_same", none)))
  n_isinstance : mg "isinstance" = none
  n_bool : mg "bool" = none
  n_str : mg "str" = none
  n_list : mg "list" = none
  n_tuple : mg "tuple" = none
  n_all : mg "all" = none
  cls_Ladder : Cls K (He.ga K "Ladder")
  na_Ladder_posts : NoAttr K (He.ga K "Ladder") "posts"
  na_Ladder_lines : NoAttr K (He.ga K "Ladder") "lines"
  na_Ladder_rungs : NoAttr K (He.ga K "Ladder") "rungs"
  na_Ladder_deeds : NoAttr K (He.ga K "Ladder") "deeds"
  me_Ladder_check_post : Meth K (He.ga K "Ladder") "check_post" (He.ma K (He.ga K "Ladder") "check_post")
  me_Ladder_set_rung : Meth K (He.ga K "Ladder") "set_rung" (He.ma K (He.ga K "Ladder") "set_rung")
  me_Ladder_begin_row : Meth K (He.ga K "Ladder") "begin_row" (He.ma K (He.ga K "Ladder") "begin_row")
  me_Ladder_order : Meth K (He.ga K "Ladder") "order" (He.ma K (He.ga K "Ladder") "order")
  me_Ladder_check_text : Meth K (He.ga K "Ladder") "check_text" (He.ma K (He.ga K "Ladder") "check_text")
  d_RungError___init : ∃ fd, FunD K "__init__" "RungError.__init__" (defArgs s_RungError___init) (defBody s_RungError___init) (defScope s_RungError___init) [] [] (He.fAd K ("RungError", some "__init__")) fd
  ox_InvalidPost : OexC K (He.ga K "InvalidPost")
  xi_InvalidPost : PySem.W.findIn K (.ref (He.ga K "InvalidPost")) "__init__" = some (some (.ref (He.ma K (He.ga K "RungError") "__init__"))) ∧ PySem.W.typeIn K (.ref (He.ma K (He.ga K "RungError") "__init__")) = some (.type "function") ∧ PySem.W.findIn K (.ref (He.ga K "InvalidPost")) "value" = some none
  e_InvalidPost : mg "InvalidPost" = some (.ref (He.ga K "InvalidPost"))
  ox_Taken : OexC K (He.ga K "Taken")
  xi_Taken : PySem.W.findIn K (.ref (He.ga K "Taken")) "__init__" = some (some (.ref (He.ma K (He.ga K "RungError") "__init__"))) ∧ PySem.W.typeIn K (.ref (He.ma K (He.ga K "RungError") "__init__")) = some (.type "function") ∧ PySem.W.findIn K (.ref (He.ga K "Taken")) "value" = some none
  e_Taken : mg "Taken" = some (.ref (He.ga K "Taken"))
  ox_InvalidSize : OexC K (He.ga K "InvalidSize")
  xi_InvalidSize : PySem.W.findIn K (.ref (He.ga K "InvalidSize")) "__init__" = some (some (.ref (He.ma K (He.ga K "RungError") "__init__"))) ∧ PySem.W.typeIn K (.ref (He.ma K (He.ga K "RungError") "__init__")) = some (.type "function") ∧ PySem.W.findIn K (.ref (He.ga K "InvalidSize")) "value" = some none
  e_InvalidSize : mg "InvalidSize" = some (.ref (He.ga K "InvalidSize"))
  d_Ladder_check_post : ∃ fd, FunD K "check_post" "Ladder.check_post" (defArgs s_Ladder_check_post) (defBody s_Ladder_check_post) (defScope s_Ladder_check_post) [] [] (He.fAd K ("Ladder", some "check_post")) fd
  n_max : mg "max" = none
  d_Ladder_set_rung : ∃ fd, FunD K "set_rung" "Ladder.set_rung" (defArgs s_Ladder_set_rung) (defBody s_Ladder_set_rung) (defScope s_Ladder_set_rung) [] [] (He.fAd K ("Ladder", some "set_rung")) fd
  c_SINGLE_RUNG : ∃ u, mg "SINGLE_RUNG" = some u ∧ RelV (.int (-1)) u
  d_Ladder_order : ∃ fd, FunD K "order" "Ladder.order" (defArgs s_Ladder_order) (defBody s_Ladder_order) (defScope s_Ladder_order) [] [] (He.fAd K ("Ladder", some "order")) fd
  d_Ladder_begin_row : ∃ fd, FunD K "begin_row" "Ladder.begin_row" (defArgs s_Ladder_begin_row) (defBody s_Ladder_begin_row) (defScope s_Ladder_begin_row) [] [] (He.fAd K ("Ladder", some "begin_row")) fd
  d_Ladder___call : ∃ fd, FunD K "__call__" "Ladder.__call__" (defArgs s_Ladder___call) (defBody s_Ladder___call) (defScope s_Ladder___call) [] [] (He.fAd K ("Ladder", some "__call__")) fd
  co_Ladder : StX.CallO K (He.ga K "Ladder") (He.ma K (He.ga K "Ladder") "__call__")
  d_Ladder_next_row : ∃ fd, FunD K "next_row" "Ladder.next_row" (defArgs s_Ladder_next_row) (defBody s_Ladder_next_row) (defScope s_Ladder_next_row) [] [] (He.fAd K ("Ladder", some "next_row")) fd
  me_Ladder_next_row : Meth K (He.ga K "Ladder") "next_row" (He.ma K (He.ga K "Ladder") "next_row")
  d_Ladder_rows : ∃ fd, FunD K "rows" "Ladder.rows" (defArgs s_Ladder_rows) (defBody s_Ladder_rows) (defScope s_Ladder_rows) [] [] (PropG K (He.ga K "Ladder") "rows") fd
  pr_Ladder_rows : ∃ p, PropOf K (He.ga K "Ladder") "rows" p (PropG K (He.ga K "Ladder") "rows")
  d_Ladder___len : ∃ fd, FunD K "__len__" "Ladder.__len__" (defArgs s_Ladder___len) (defBody s_Ladder___len) (defScope s_Ladder___len) [] [] (He.fAd K ("Ladder", some "__len__")) fd
  sp_Ladder___len__ : PySem.W.findIn K (.ref (He.ga K "Ladder")) "__len__" = some (some (.ref (He.ma K (He.ga K "Ladder") "__len__"))) ∧ PySem.W.isFn K (.ref (He.ma K (He.ga K "Ladder") "__len__")) = true
  d_Ladder___init : ∃ fd, FunD K "__init__" "Ladder.__init__" (defArgs s_Ladder___init) (defBody s_Ladder___init) (defScope s_Ladder___init) [] [] (He.fAd K ("Ladder", some "__init__")) fd
  mk_Ladder : Mk K (He.ga K "Ladder") (He.ma K (He.ga K "Ladder") "__init__")
  gC_Ladder : mg "Ladder" = some (.ref (He.ga K "Ladder"))
  ox_InvalidRow : OexC K (He.ga K "InvalidRow")
  xi_InvalidRow : PySem.W.findIn K (.ref (He.ga K "InvalidRow")) "__init__" = some (some (.ref (He.ma K (He.ga K "RungError") "__init__"))) ∧ PySem.W.typeIn K (.ref (He.ma K (He.ga K "RungError") "__init__")) = some (.type "function") ∧ PySem.W.findIn K (.ref (He.ga K "InvalidRow")) "value" = some none
  e_InvalidRow : mg "InvalidRow" = some (.ref (He.ga K "InvalidRow"))
  d_Ladder_check_text : ∃ fd, FunD K "check_text" "Ladder.check_text" (defArgs s_Ladder_check_text) (defBody s_Ladder_check_text) (defScope s_Ladder_check_text) [] [] (He.fAd K ("Ladder", some "check_text")) fd
  d_Ladder_add_row : ∃ fd, FunD K "add_row" "Ladder.add_row" (defArgs s_Ladder_add_row) (defBody s_Ladder_add_row) (defScope s_Ladder_add_row) [] [] (He.fAd K ("Ladder", some "add_row")) fd
  me_Ladder_add_row : Meth K (He.ga K "Ladder") "add_row" (He.ma K (He.ga K "Ladder") "add_row")
  d_law_text : ∃ fd, FunD K "_law_text" "_law_text" (defArgs s_law_text) (defBody s_law_text) (defScope s_law_text) [] [] (He.fAd K ("_law_text", none)) fd
  g_law_text : mg "_law_text" = some (.ref (He.fAd K ("_law_text", none)))
  ox_NothingToUndo : OexC K (He.ga K "NothingToUndo")
  xi_NothingToUndo : PySem.W.findIn K (.ref (He.ga K "NothingToUndo")) "__init__" = some (some (.ref (He.ma K (He.ga K "RungError") "__init__"))) ∧ PySem.W.typeIn K (.ref (He.ma K (He.ga K "RungError") "__init__")) = some (.type "function") ∧ PySem.W.findIn K (.ref (He.ga K "NothingToUndo")) "value" = some none
  e_NothingToUndo : mg "NothingToUndo" = some (.ref (He.ga K "NothingToUndo"))
  d_Ladder_undo : ∃ fd, FunD K "undo" "Ladder.undo" (defArgs s_Ladder_undo) (defBody s_Ladder_undo) (defScope s_Ladder_undo) [] [] (He.fAd K ("Ladder", some "undo")) fd
  me_Ladder_undo : Meth K (He.ga K "Ladder") "undo" (He.ma K (He.ga K "Ladder") "undo")
  d_law_down : ∃ fd, FunD K "_law_down" "_law_down" (defArgs s_law_down) (defBody s_law_down) (defScope s_law_down) [] [] (He.fAd K ("_law_down", none)) fd
  g_law_down : mg "_law_down" = some (.ref (He.fAd K ("_law_down", none)))
  d_law_taken : ∃ fd, FunD K "_law_taken" "_law_taken" (defArgs s_law_taken) (defBody s_law_taken) (defScope s_law_taken) [] [] (He.fAd K ("_law_taken", none)) fd
  g_law_taken : mg "_law_taken" = some (.ref (He.fAd K ("_law_taken", none)))
  d_law_set : ∃ fd, FunD K "_law_set" "_law_set" (defArgs s_law_set) (defBody s_law_set) (defScope s_law_set) [] [] (He.fAd K ("_law_set", none)) fd
  g_law_set : mg "_law_set" = some (.ref (He.fAd K ("_law_set", none)))
  d_law_posts : ∃ fd, FunD K "_law_posts" "_law_posts" (defArgs s_law_posts) (defBody s_law_posts) (defScope s_law_posts) [] [] (He.fAd K ("_law_posts", none)) fd
  g_law_posts : mg "_law_posts" = some (.ref (He.fAd K ("_law_posts", none)))
  d_law_state : ∃ fd, FunD K "_law_state" "_law_state" (defArgs s_law_state) (defBody s_law_state) (defScope s_law_state) [] [] (He.fAd K ("_law_state", none)) fd
  g_law_state : mg "_law_state" = some (.ref (He.fAd K ("_law_state", none)))
  d_law_looked : ∃ fd, FunD K "_law_looked" "_law_looked" (defArgs s_law_looked) (defBody s_law_looked) (defScope s_law_looked) [] [] (He.fAd K ("_law_looked", none)) fd
  g_law_looked : mg "_law_looked" = some (.ref (He.fAd K ("_law_looked", none)))
  d_law_empty : ∃ fd, FunD K "_law_empty" "_law_empty" (defArgs s_law_empty) (defBody s_law_empty) (defScope s_law_empty) [] [] (He.fAd K ("_law_empty", none)) fd
  g_law_empty : mg "_law_empty" = some (.ref (He.fAd K ("_law_empty", none)))
  xf_NothingToUndo : XfC K (He.ga K "NothingToUndo")
  xn_NothingToUndo : PySem.W.findIn K (.ref (He.ga K "NothingToUndo")) "value" = some none
  exm_NothingToUndo_NothingToUndo : PySem.W.exmOne K (.ref (He.ga K "NothingToUndo")) (.ref (He.ga K "NothingToUndo")) = some true
  d_law_done : ∃ fd, FunD K "_law_done" "_law_done" (defArgs s_law_done) (defBody s_law_done) (defScope s_law_done) [] [] (He.fAd K ("_law_done", none)) fd
  g_law_done : mg "_law_done" = some (.ref (He.fAd K ("_law_done", none)))
  d_law_next : ∃ fd, FunD K "_law_next" "_law_next" (defArgs s_law_next) (defBody s_law_next) (defScope s_law_next) [] [] (He.fAd K ("_law_next", none)) fd
  g_law_next : mg "_law_next" = some (.ref (He.fAd K ("_law_next", none)))
  d_law_back : ∃ fd, FunD K "_law_back" "_law_back" (defArgs s_law_back) (defBody s_law_back) (defScope s_law_back) [] [] (He.fAd K ("_law_back", none)) fd
  g_law_back : mg "_law_back" = some (.ref (He.fAd K ("_law_back", none)))
  n_min : mg "min" = none
  d_law : ∃ fd, FunD K "law" "law" (defArgs s_law) (defBody s_law) (defScope s_law) [] [] (He.fAd K ("law", none)) fd
  g_law : mg "law" = some (.ref (He.fAd K ("law", none)))
local macro_rules | `(tactic| wrow_read $p $h $n) => `(tactic| (refine ⟨sizes ?c, fun $p hp => ?_⟩; (case c => (first | exact Nat.le_of_ble_eq_true rfl | omega | (simp; omega))); generalize hg : upd _ $p _ = $h; have $n := New.of hp hg; clear hg hp))
local macro_rules | `(tactic| wrow_readAll $p $h $n) => `(tactic| (refine fun $p hp => ?_; generalize hg : upd _ $p _ = $h; have $n := New.of hp hg; clear hg hp))
local macro_rules | `(tactic| walk_at "kk") => `(tactic| dsimp only [cxK, noxK, blkK, trK, suK, L2.start, List.map_cons, List.map_nil, List.length_cons, List.length_nil, List.replicate, List.cons_append, List.nil_append, Nat.reduceAdd, Nat.reduceSub, List.append_nil])
local macro_rules | `(tactic| walk_at "ff") => `(tactic| first | assumption | (refine SqL.of ?_; walk_at "ff") | (refine SqT.of ?_; walk_at "ff") | (refine New.at_ (by assumption)) | (refine Same.at (by assumption) ?_; walk_at "ff") | (refine Same.at (New.sm (by assumption)) ?_; walk_at "ff") | (refine Same.seq (by assumption) ?_; walk_at "ff") | (refine Same.seqT (by assumption) ?_; walk_at "ff"))
local macro_rules | `(tactic| walk_at "sd") => `(tactic| first | decide | omega | assumption | exact Or.inl ⟨by decide, by decide⟩ | exact Or.inr ⟨by decide, by decide⟩ | exact ⟨by decide, by decide⟩ | exact ⟨by decide, by decide, by decide⟩ | exact Or.inl ⟨by omega, by omega⟩ | exact Or.inr ⟨by omega, by omega⟩ | exact ⟨by omega, by omega⟩ | exact ⟨by omega, by omega, by omega, by omega⟩)
local macro_rules | `(tactic| walk_at "g1") => `(tactic| first | ((with_reducible refine w_r1 ?c ?_); case c => ((try simp only [List.length_map]); walk_at "sd")) | ((with_reducible refine w_r2 ?c ?_); case c => ((try simp only [List.length_map]); walk_at "sd")) | (with_reducible first | refine w_seq ?_ | refine w_asg ?_ | refine w_sfld ?_ | refine w_make ?_ | refine w_methK ?_ | refine w_forS ?_ | refine w_m1 ?_ | refine w_isS ?_ | refine w_cnt ?_ | refine w_strE ?_ | refine w_makeK ?_ | refine w_inst ?_ | refine w_instK ?_ | refine w_prop ?_ | refine w_xf ?_ | refine w_rfl ?_ | refine w_ret ?_ | refine w_drop ?_ | refine w_next ?_ | refine w_if ?_ | refine w_var rfl ?_ | refine w_c ?_ | refine w_op ?_ | refine w_I0 ?_ | refine w_test ?_ | refine w_bl ?_ | refine w_cons ?_ | refine w_nil ?_ | refine w_cb ?_ | refine w_callS ?_ | refine w_un ?_ | refine w_U ?_ | refine w_eq rfl ?_ | refine w_ne rfl ?_ | refine w_not ?_ | refine w_and ?_ | refine w_or ?_ | refine w_B ?_ | refine w_sl ?_ | refine w_noPart ?_ | refine w_part ?_ | refine w_int ?_ | refine w_lst ?_ | refine w_tup ?_ | refine w_asgG ?_ | refine w_ifE ?_ | refine w_andV ?_ | refine w_orV ?_ | refine w_notV ?_ | refine w_meth ?_ | refine w_fld ?_ | refine w_brk ?_ | refine w_cont ?_ | refine w_retN ?_ | refine w_int1 ?_ | refine w_2i ?_ | refine w_1i ?_ | refine w_bm ?_ | refine w_bm0 ?_ | refine w_gsub ?_ | refine w_gcons ?_ | refine w_gnil ?_ | refine w_gname ?_ | refine w_forR1 ?_ | refine w_forR2 ?_ | refine w_forL ?_ | refine w_forT ?_ | refine w_listRg1 ?_ | refine w_lcR1 ?_ | refine w_lcR2 ?_ | refine w_lcL ?_ | refine w_yes ?_ | refine w_chain ?_ | refine w_mkoU ?_ | refine w_mko ?_ | refine w_sign ?_ | refine w_dash ?_) | ((with_reducible refine w_I ?c ?_); case c => walk_at "sd") | ((with_reducible refine w_lenL (xs := ?x) ?c ?_); case c => walk_at "ff") | ((with_reducible refine w_ixL (xs := ?x) (v := ?v) ?c ?e ?_); (case c => walk_at "ff"); (case e => with_reducible rfl)) | ((with_reducible refine w_rL (xs := ?x) ?c ?_); case c => walk_at "ff"))
local macro_rules | `(tactic| walk_at "go") => `(tactic| repeat walk_at "g1")

section
variable {P : Program} {w : World} {K : PySem.W.Frag} {mg : Str → Option Value} {base : Heap}
theorem at_of' {α : Type} {xs : List α} {z : Int} {j : Nat} {v : α} (e : z = (j : Int)) (h : xs[j]? = some v) : atI xs z = some v := by
  rw [e]
  exact atI_nat h
theorem get_map {ns : List Int} {i : Nat} (h : i < ns.length) : (ns.map V.int)[i]? = some (V.int ns[i]) := by
  rw [List.getElem?_map, List.getElem?_eq_getElem h]; rfl
def sp_law_cell (K : PySem.W.Frag) : Sp := fun vs H Q _ => ∃ (a : Addr) (ns : List Int) (at_ : Nat), vs = [.ref a, .int at_] ∧ SqL K H a (ns.map V.int) ∧ ∀ c : Int, 0 ≤ c → c < 10 ^ 120 → Q (.int c) H
theorem sc_law_cell : FnScope ["script", "at", "cell"] ["script", "at"] (defScope s_law_cell) := ⟨rfl, rfl, rfl, by decide +kernel, rfl, by decide +kernel, by decide +kernel⟩
theorem cal_law_cell (T : Tx K mg) : CalS P w K mg base CX0 1 "_law_cell" (sp_law_cell K) := by
  obtain ⟨fd, F⟩ := T.d_law_cell
  refine ⟨_, fd, ["script", "at"], F.ok sc_law_cell (fun vs H Q E h => ?len) (fun cdv A outer s H vs Q E hr h => ⟨_, PSs.nox (pss_cons (ps_set (i := 2) sc_law_cell.nd rfl (by first | exact Or.inl rfl | exact Or.inr rfl) pe_int)
 (C8.pss_cut (ps_if (pt_cmpR op_lt (pv 1) (pe_callB (call_len_seqK (K := K)) (by rfl) T.n_len (by decide +kernel) (pa_cons (pv 0) pa_nil)) (nomark _)) (pss_one (ps_set (i := 2) sc_law_cell.nd rfl (by first | exact Or.inl rfl | exact Or.inr rfl) (pe_ix (ix_listK (K := K)) (pv 0) (pv 1) (fun _ _ => rfl)))) pss_nil)
 (C8.pss_cut (ps_if (pt_cmpR op_lt (pv 2) pe_int (nomark _)) (pss_one (ps_set (i := 2) sc_law_cell.nd rfl (by first | exact Or.inl rfl | exact Or.inr rfl) (pe_op op_sub pe_int (pe_op op_mul pe_int (pv 2))))) pss_nil)
 (pss_one (ps_ret (pe_op op_mod (pv 2) (pe_op op_mulW (pe_op op_pow pe_int pe_int) (pe_op op_pow pe_int pe_int)))))))), ?body⟩), T.g_law_cell, F.kp, F.bindsN fun _ _ _ _ _ _ us hl => match us, hl with | [_, _], _ => rfl⟩
  case len => obtain ⟨_, _, _, rfl, _⟩ := h; rfl
  case body =>
    obtain ⟨a, ns, at_, rfl, hS, k⟩ := h
    walk_at "kk"
    walk_at "go"
    refine w_cut (fun σ H' => H = H' ∧ ∃ c : Int, σ = [some (.ref a), some (.int at_), some (.int c)]) ?_ ?_
    · walk_at "go"
      refine w_dec (fun h1 => ?_) (fun h1 => ?_)
      · walk_at "go"
        have h2 : at_ < ns.length := by rw [List.length_map] at h1; omega
        refine w_ixL hS (atI_nat (get_map h2)) ?_
        exact ⟨rfl, _, rfl⟩
      · walk_at "go"
        exact ⟨rfl, _, rfl⟩
    · rintro _ _ ⟨rfl, c, rfl⟩
      walk_at "go"
      refine w_cut (fun σ H' => H = H' ∧ ∃ c : Int, σ = [some (.ref a), some (.int at_), some (.int c)]) ?_ ?_
      · walk_at "go"
        refine w_dec (fun h1 => ?_) (fun h1 => ?_)
        · walk_at "go"
          exact ⟨rfl, _, rfl⟩
        · walk_at "go"
          exact ⟨rfl, _, rfl⟩
      · rintro _ _ ⟨rfl, c, rfl⟩
        walk_at "go"
        refine w_I (wide_mul (a := 200) (b := 200) (by decide) (by decide) (by decide) (by decide) (by decide)) ?_
        refine w_I (by decide) ?_
        exact k _ (Int.emod_nonneg _ (by decide)) (Int.emod_lt_of_pos _ (by decide))

def Drawn : List Int → List Int → Prop
  | [], [] => True
  | l :: ls, d :: ds => (0 ≤ d ∧ d < l) ∧ Drawn ls ds
  | _, _ => False
theorem Drawn.snoc : ∀ {ls ds : List Int} {l d : Int}, Drawn ls ds → 0 ≤ d → d < l → Drawn (ls ++ [l]) (ds ++ [d])
  | [], [], _, _, _, h0, h1 => ⟨⟨h0, h1⟩, trivial⟩
  | _ :: _, _ :: _, _, _, h, h0, h1 => ⟨h.1, Drawn.snoc h.2 h0 h1⟩
  | [], _ :: _, _, _, h, _, _ => h.elim
  | _ :: _, [], _, _, h, _, _ => h.elim
theorem Drawn.len : ∀ {ls ds : List Int}, Drawn ls ds → ds.length = ls.length
  | [], [], _ => rfl
  | _ :: _, _ :: _, h => congrArg (· + 1) (Drawn.len h.2)
  | [], _ :: _, h => h.elim
  | _ :: _, [], h => h.elim
theorem Drawn.take {ls ds : List Int} {i : Nat} {l d : Int} (h : Drawn (ls.take i) ds) (e : ls[i]? = some l) (h0 : 0 ≤ d) (h1 : d < l) : Drawn (ls.take (i + 1)) (ds ++ [d]) := by
  obtain ⟨hi, rfl⟩ := List.getElem?_eq_some_iff.mp e
  rw [List.take_succ_eq_append_getElem hi]
  exact h.snoc h0 h1
def sp_law_draws (K : PySem.W.Frag) : Sp := fun vs H Q _ => ∃ (a b : Addr) (ns ls : List Int) (at_ : Nat), vs = [.ref a, .int at_, .ref b] ∧ SqL K H a (ns.map V.int) ∧ SqL K H b (ls.map V.int) ∧ ls.length ≤ 10000 ∧ (∀ l ∈ ls, 0 < l ∧ l < 2 ^ 30) ∧ at_ ≤ 100000 ∧
  ∀ (H' : Hp) (p : Addr) (ds : List Int), Drawn ls ds → H p = none → Same H H' → H' p = some (.lst (ds.map V.int)) → Q (.ref p) H'
theorem sc_law_draws : FnScope ["script", "at", "limits", "cell", "rest", "drawn", "k", "stir"] ["script", "at", "limits"] (defScope s_law_draws) := ⟨rfl, rfl, rfl, by decide +kernel, rfl, by decide +kernel, by decide +kernel⟩
theorem cal_law_draws (T : Tx K mg) : CalS P w K mg base CX0 2 "_law_draws" (sp_law_draws K) := by
  obtain ⟨fd, F⟩ := T.d_law_draws
  refine ⟨_, fd, ["script", "at", "limits"], F.ok sc_law_draws (fun vs H Q E h => ?len) (fun cdv A outer s H vs Q E hr h => ⟨_, PSs.nox (pss_cons (ps_set (i := 3) sc_law_draws.nd rfl (by first | exact Or.inl rfl | exact Or.inr rfl) (pe_cs (cal_law_cell (K := K) T) hr (by omega) (by rfl) (fun _ => pa0) (pa_cons (pv 0) (pa_cons (pv 1) pa_nil))))
 (pss_cons (ps_set (i := 4) sc_law_draws.nd rfl (by first | exact Or.inl rfl | exact Or.inr rfl) (pe_op op_sub (pv 3) (pe_op op_pow pe_int pe_int)))
 (pss_cons (ps_set (i := 5) sc_law_draws.nd rfl (by first | exact Or.inl rfl | exact Or.inr rfl) (pe_lst pa_nil))
 (pss_cons (ps_for PassesOwn.never rfl (pi_range1 (by rfl) T.n_range (pa_cons (pe_callB (call_len_seqK (K := K)) (by rfl) T.n_len (by decide +kernel) (pa_cons (pv 2) pa_nil)) pa_nil)) (pg_name (i := 6) sc_law_draws.nd rfl (by first | exact Or.inl rfl | exact Or.inr rfl))
 (pss_cons (ps_set (i := 7) sc_law_draws.nd rfl (by first | exact Or.inl rfl | exact Or.inr rfl) (pe_op op_mod (pe_callTy call_int1 (by rfl) T.n_int (by decide +kernel) (pa_cons (pe_op op_add (pe_op op_add (pe_op op_mul (pv 3) pe_int) (pe_op op_mul (pe_op op_mul (pe_op op_add (pv 6) pe_int) (pe_op op_add (pv 6) pe_int)) pe_int)) (pe_op op_mul (pv 1) pe_int)) pa_nil)) pe_int))
 (pss_cons (ps_set (i := 7) sc_law_draws.nd rfl (by first | exact Or.inl rfl | exact Or.inr rfl) (pe_op op_fdiv (pe_op op_mod (pe_callTy call_int1 (by rfl) T.n_int (by decide +kernel) (pa_cons (pe_op op_add (pe_op op_add (pe_op op_mul (pv 7) (pv 7)) (pe_op op_mul (pv 6) pe_int)) pe_int) pa_nil)) pe_int) pe_int))
 (C8.pss_cut (ps_if (pt_cmpR op_ge (pv 3) (pe_op op_pow pe_int pe_int) (nomark _)) (pss_cons (ps_set (i := 7) sc_law_draws.nd rfl (by first | exact Or.inl rfl | exact Or.inr rfl) (pv 4))
 (pss_one (ps_set (i := 4) sc_law_draws.nd rfl (by first | exact Or.inl rfl | exact Or.inr rfl) (pe_op op_fdiv (pv 4) (pe_ix (ix_listK (K := K)) (pv 2) (pv 6) (fun _ _ => rfl)))))) pss_nil)
 (pss_one (ps_expr (pe_bmK (K := K) PySem.F.plainAttrs_list PySem.F.slot_list_append PySem.F.type_list_append mt_append (pv 5) (pa_cons (pe_op op_mod (pe_callTy call_int1 (by rfl) T.n_int (by decide +kernel) (pa_cons (pv 7) pa_nil)) (pe_ix (ix_listK (K := K)) (pv 2) (pv 6) (fun _ _ => rfl))) pa_nil))))))))
 (pss_one (ps_ret (pv 5))))))), ?body⟩), T.g_law_draws, F.kp, F.bindsN fun _ _ _ _ _ _ us hl => match us, hl with | [_, _, _], _ => rfl⟩
  case len => obtain ⟨_, _, _, _, _, rfl, _⟩ := h; rfl
  case body =>
    obtain ⟨a, b, ns, ls, at_, rfl, hS, hL, hl, hp, ha, k⟩ := h
    walk_at "kk"
    walk_at "go"
    refine ⟨_, _, _, rfl, hS, fun c c0 c1 => ?_⟩
    walk_at "go"
    refine w_newL (Nat.zero_le _) fun p H1 n1 s1 h1 => ?_
    walk_at "go"
    rw [show ((List.map V.int ls).length : Int).toNat = ls.length by rw [List.length_map]; rfl]
    refine ForR.run (fun i σ H2 => ∃ (ds : List Int) (r : Int) (v6 v7 : Option V), σ = [some (.ref a), some (.int at_), some (.ref b), some (.int c), some (.int r), some (.ref p), v6, v7] ∧ Same H H2 ∧ H2 p = some (.lst (ds.map V.int)) ∧ Drawn (ls.take i) ds)
      ⟨[], _, _, _, rfl, s1, h1, trivial⟩ ?_ ?_
    · rintro i _ H2 hi ⟨ds, r, v6, v7, rfl, s2, h2, hd⟩
      obtain ⟨l, el⟩ : ∃ l, ls[i]? = some l := ⟨_, List.getElem?_eq_getElem hi⟩
      have hl0 := hp l (List.mem_of_getElem? el)
      have eL : atI (ls.map V.int) (0 + (i : Int)) = some (V.int l) := at_of (j := i) (by omega) (by rw [List.getElem?_map, el]; rfl)
      walk_at "go"
      generalize ((c * 40014 + (0 + (i : Int) + 3) * (0 + (i : Int) + 3) * 16807 + (at_ : Int) * 65539) % 2147483563 * ((c * 40014 + (0 + (i : Int) + 3) * (0 + (i : Int) + 3) * 16807 + (at_ : Int) * 65539) % 2147483563) + (0 + (i : Int)) * 69621 + 271) % 2147483399 / 7 = st
      refine w_cut (fun σ H' => H2 = H' ∧ ∃ r st : Int, σ = [some (.ref a), some (.int at_), some (.ref b), some (.int c), some (.int r), some (.ref p), some (.int (0 + (i : Int))), some (.int st)]) ?_ ?_
      · walk_at "go"
        refine w_dec (fun q => ?_) (fun q => ?_)
        · walk_at "go"
          refine w_ixL (s2.seq hL) eL ?_
          refine w_I ⟨hl0.1, by have := hl0.2; omega⟩ ?_
          exact ⟨rfl, _, _, rfl⟩
        · walk_at "go"
          exact ⟨rfl, _, _, rfl⟩
      · rintro _ _ ⟨rfl, r, st, rfl⟩
        walk_at "go"
        refine w_tyL h2 ?_
        walk_at "go"
        refine w_ixL (s2.seq hL) eL ?_
        refine w_I hl0.1 ?_
        walk_at "go"
        refine w_app h2 (by have := hd.len; rw [List.length_map, this]; have := List.length_take_le i ls; omega) fun H3 b3 h3 => ?_
        refine ⟨ds ++ [st % l], _, _, _, rfl, But.same s2 n1 b3, by rw [h3, List.map_append]; rfl, hd.take el (Int.emod_nonneg _ (by omega)) (Int.emod_lt_of_pos _ hl0.1)⟩
    · rintro _ H2 ⟨ds, r, v6, v7, rfl, s2, h2, hd⟩
      walk_at "go"
      rw [List.take_length] at hd
      exact k H2 p ds hd n1 s2 h2

end
end Rg

set_option Elab.async false
set_option linter.all false
set_option maxRecDepth 100000
set_option maxHeartbeats 4000000
namespace Rg
open PySem L2
local macro_rules | `(tactic| wrow_read $p $h $n) => `(tactic| (refine ⟨sizes ?c, fun $p hp => ?_⟩; (case c => (first | exact Nat.le_of_ble_eq_true rfl | omega | (simp; omega))); generalize hg : upd _ $p _ = $h; have $n := New.of hp hg; clear hg hp))
local macro_rules | `(tactic| wrow_readAll $p $h $n) => `(tactic| (refine fun $p hp => ?_; generalize hg : upd _ $p _ = $h; have $n := New.of hp hg; clear hg hp))
local macro_rules | `(tactic| walk_at "kk") => `(tactic| dsimp only [cxK, noxK, blkK, trK, suK, L2.start, List.map_cons, List.map_nil, List.length_cons, List.length_nil, List.replicate, List.cons_append, List.nil_append, Nat.reduceAdd, Nat.reduceSub, List.append_nil])
local macro_rules | `(tactic| walk_at "ff") => `(tactic| first | assumption | (refine SqL.of ?_; walk_at "ff") | (refine SqT.of ?_; walk_at "ff") | (refine New.at_ (by assumption)) | (refine Same.at (by assumption) ?_; walk_at "ff") | (refine Same.at (New.sm (by assumption)) ?_; walk_at "ff") | (refine Same.seq (by assumption) ?_; walk_at "ff") | (refine Same.seqT (by assumption) ?_; walk_at "ff"))
local macro_rules | `(tactic| walk_at "sd") => `(tactic| first | decide | omega | assumption | exact Or.inl ⟨by decide, by decide⟩ | exact Or.inr ⟨by decide, by decide⟩ | exact ⟨by decide, by decide⟩ | exact ⟨by decide, by decide, by decide⟩ | exact Or.inl ⟨by omega, by omega⟩ | exact Or.inr ⟨by omega, by omega⟩ | exact ⟨by omega, by omega⟩ | exact ⟨by omega, by omega, by omega, by omega⟩)
local macro_rules | `(tactic| walk_at "g1") => `(tactic| first | ((with_reducible refine w_r1 ?c ?_); case c => ((try simp only [List.length_map]); walk_at "sd")) | ((with_reducible refine w_r2 ?c ?_); case c => ((try simp only [List.length_map]); walk_at "sd")) | (with_reducible first | refine w_seq ?_ | refine w_asg ?_ | refine w_sfld ?_ | refine w_make ?_ | refine w_methK ?_ | refine w_forS ?_ | refine w_m1 ?_ | refine w_isS ?_ | refine w_cnt ?_ | refine w_strE ?_ | refine w_makeK ?_ | refine w_inst ?_ | refine w_instK ?_ | refine w_prop ?_ | refine w_xf ?_ | refine w_rfl ?_ | refine w_ret ?_ | refine w_drop ?_ | refine w_next ?_ | refine w_if ?_ | refine w_var rfl ?_ | refine w_c ?_ | refine w_op ?_ | refine w_I0 ?_ | refine w_test ?_ | refine w_bl ?_ | refine w_cons ?_ | refine w_nil ?_ | refine w_cb ?_ | refine w_callS ?_ | refine w_un ?_ | refine w_U ?_ | refine w_eq rfl ?_ | refine w_ne rfl ?_ | refine w_not ?_ | refine w_and ?_ | refine w_or ?_ | refine w_B ?_ | refine w_sl ?_ | refine w_noPart ?_ | refine w_part ?_ | refine w_int ?_ | refine w_lst ?_ | refine w_tup ?_ | refine w_asgG ?_ | refine w_ifE ?_ | refine w_andV ?_ | refine w_orV ?_ | refine w_notV ?_ | refine w_meth ?_ | refine w_fld ?_ | refine w_brk ?_ | refine w_cont ?_ | refine w_retN ?_ | refine w_int1 ?_ | refine w_2i ?_ | refine w_1i ?_ | refine w_bm ?_ | refine w_bm0 ?_ | refine w_gsub ?_ | refine w_gcons ?_ | refine w_gnil ?_ | refine w_gname ?_ | refine w_forR1 ?_ | refine w_forR2 ?_ | refine w_forL ?_ | refine w_forT ?_ | refine w_listRg1 ?_ | refine w_lcR1 ?_ | refine w_lcR2 ?_ | refine w_lcL ?_ | refine w_yes ?_ | refine w_chain ?_ | refine w_mkoU ?_ | refine w_mko ?_ | refine w_sign ?_ | refine w_dash ?_) | ((with_reducible refine w_I ?c ?_); case c => walk_at "sd") | ((with_reducible refine w_lenL (xs := ?x) ?c ?_); case c => walk_at "ff") | ((with_reducible refine w_ixL (xs := ?x) (v := ?v) ?c ?e ?_); (case c => walk_at "ff"); (case e => with_reducible rfl)) | ((with_reducible refine w_rL (xs := ?x) ?c ?_); case c => walk_at "ff"))
local macro_rules | `(tactic| walk_at "go") => `(tactic| repeat walk_at "g1")
section
variable {P : Program} {w : World} {K : PySem.W.Frag} {mg : Str → Option Value} {base : Heap}
def sp_law_same (K : PySem.W.Frag) (n : Nat) : Sp := fun vs H Q _ => ∃ (x y : V), vs = [x, y] ∧ Eqd K n H x y ∧ ∀ H', Same H H' → Q (.bl true) H'
local macro_rules | `(tactic| k_call_by "isi" $t) => `(tactic| repeat (walk_at "go"; first | (refine w_T rfl ?_) | (refine w_F rfl ?_) | (refine w_isiT $t (by decide +kernel) ?_) | (refine w_isiF $t (by decide +kernel) ?_) | refine w_rfl ?_))
theorem sc_law_same : FnScope ["found", "due", "k"] ["found", "due"] (defScope s_law_same) := ⟨rfl, rfl, rfl, by decide +kernel, rfl, by decide +kernel, by decide +kernel⟩
theorem cal_law_same (T : Tx K mg) : ∀ n, CalS P w K mg base CX0 (n + 1) "_law_same" (sp_law_same K n)
  | 0 => by
    obtain ⟨fd, F⟩ := T.d_law_same
    refine ⟨_, fd, ["found", "due"], ⟨fun vs H Q E h => ?_, fun A outer s H args us vs Q E hr h0 hb hv h => ?_⟩, T.g_law_same, F.kp, F.bindsN fun _ _ _ _ _ _ us hl => match us, hl with | [_, _], _ => rfl⟩
    · obtain ⟨_, _, _, h, _⟩ := h; exact h.elim
    · obtain ⟨_, _, _, h, _⟩ := h; exact h.elim
  | n + 1 => by
    have ih := cal_law_same T n
    obtain ⟨fd, F⟩ := T.d_law_same
    refine ⟨_, fd, ["found", "due"], F.ok sc_law_same (fun vs H Q E h => ?len) (fun cdv A outer s H vs Q E hr h => ⟨_, PSs.nox (
  (pss_cons (ps_if (pt_cmpR op_isN (pv 1) pe_non (nomark _)) (pss_one (ps_ret (pe_cmpR op_isN (pv 0) pe_non (nomark _)))) pss_nil)
 (pss_cons (ps_if (pt_val (pe_callB (call_isiK (K := K)) (by rfl) T.n_isinstance (by decide +kernel) (pa_cons (pv 1) (pa_cons (pe_bltn (v := .ty "bool") (u := .type "bool") (by rfl) T.n_bool (by decide +kernel) rfl) pa_nil)))) (pss_one (ps_ret (pe_and (pe_callB (call_isiK (K := K)) (by rfl) T.n_isinstance (by decide +kernel) (pa_cons (pv 0) (pa_cons (pe_bltn (v := .ty "bool") (u := .type "bool") (by rfl) T.n_bool (by decide +kernel) rfl) pa_nil))) (pe_one (pe_cmpR op_eq (pv 0) (pv 1) (nomark _)))))) pss_nil)
 (pss_cons (ps_if (pt_val (pe_callB (call_isiK (K := K)) (by rfl) T.n_isinstance (by decide +kernel) (pa_cons (pv 1) (pa_cons (pe_bltn (v := .ty "int") (u := .type "int") (by rfl) T.n_int (by decide +kernel) rfl) pa_nil)))) (pss_one (ps_ret (pe_and (pe_callB (call_isiK (K := K)) (by rfl) T.n_isinstance (by decide +kernel) (pa_cons (pv 0) (pa_cons (pe_bltn (v := .ty "int") (u := .type "int") (by rfl) T.n_int (by decide +kernel) rfl) pa_nil))) (pe_and (pe_not (pe_callB (call_isiK (K := K)) (by rfl) T.n_isinstance (by decide +kernel) (pa_cons (pv 0) (pa_cons (pe_bltn (v := .ty "bool") (u := .type "bool") (by rfl) T.n_bool (by decide +kernel) rfl) pa_nil)))) (pe_one (pe_cmpR op_eq (pv 0) (pv 1) (nomark _))))))) pss_nil)
 (pss_cons (ps_if (pt_val (pe_callB (call_isiK (K := K)) (by rfl) T.n_isinstance (by decide +kernel) (pa_cons (pv 1) (pa_cons (pe_bltn (v := .ty "str") (u := .type "str") (by rfl) T.n_str (by decide +kernel) rfl) pa_nil)))) (pss_one (ps_ret (pe_and (pe_callB (call_isiK (K := K)) (by rfl) T.n_isinstance (by decide +kernel) (pa_cons (pv 0) (pa_cons (pe_bltn (v := .ty "str") (u := .type "str") (by rfl) T.n_str (by decide +kernel) rfl) pa_nil))) (pe_one (pe_cmpR op_eq (pv 0) (pv 1) (nomark _)))))) pss_nil)
 (pss_cons (ps_if (pt_val (pe_callB (call_isiK (K := K)) (by rfl) T.n_isinstance (by decide +kernel) (pa_cons (pv 1) (pa_cons (pe_bltn (v := .ty "list") (u := .type "list") (by rfl) T.n_list (by decide +kernel) rfl) pa_nil)))) (pss_one (ps_if (pt_not (pt_val (pe_callB (call_isiK (K := K)) (by rfl) T.n_isinstance (by decide +kernel) (pa_cons (pv 0) (pa_cons (pe_bltn (v := .ty "list") (u := .type "list") (by rfl) T.n_list (by decide +kernel) rfl) pa_nil))))) (pss_one (ps_ret pe_bl)) pss_nil)) (pss_one (ps_if (pt_not (pt_val (pe_callB (call_isiK (K := K)) (by rfl) T.n_isinstance (by decide +kernel) (pa_cons (pv 0) (pa_cons (pe_bltn (v := .ty "tuple") (u := .type "tuple") (by rfl) T.n_tuple (by decide +kernel) rfl) pa_nil))))) (pss_one (ps_ret pe_bl)) pss_nil)))
 (pss_cons (ps_if (pt_cmpR op_ne (pe_callB (call_lenK (K := K)) (by rfl) T.n_len (by decide +kernel) (pa_cons (pv 0) pa_nil)) (pe_callB (call_lenK (K := K)) (by rfl) T.n_len (by decide +kernel) (pa_cons (pv 1) pa_nil)) (nomark _)) (pss_one (ps_ret pe_bl)) pss_nil)
 (pss_one (ps_ret (pe_callB ((cr_allK (K := K)) rfl) (by rfl) T.n_all (by decide +kernel) (pa_cons (pe_lc (own := [("k", 2)]) rfl sc_law_same.nd (pi_range1 (by rfl) T.n_range (pa_cons (pe_callB (call_lenK (K := K)) (by rfl) T.n_len (by decide +kernel) (pa_cons (pv 1) pa_nil)) pa_nil)) (blkOk_by (own := [("k", 2)]) (N := ["found", "due", "k"]) (sc := defScope s_law_same) (by decide +kernel)) (fun _ _ _ _ _ => (pg_name (i := 2) sc_law_same.nd rfl (by first | exact Or.inl rfl | exact Or.inr rfl))) (fun _ _ _ _ _ => pts_nil) (fun _ _ _ _ _ => (pe_cs ih hr (by omega) (by rfl) (fun _ => pa0) (pa_cons (pe_ix (ix_seqK (K := K)) (pv 0) (pv 2) (fun _ _ => rfl)) (pa_cons (pe_ix (ix_seqK (K := K)) (pv 1) (pv 2) (fun _ _ => rfl)) pa_nil))))) pa_nil))))))))))
    ), ?body⟩), T.g_law_same, F.kp, F.bindsN fun _ _ _ _ _ _ us hl => match us, hl with | [_, _], _ => rfl⟩
    case len => obtain ⟨_, _, rfl, _⟩ := h; rfl
    case body =>
      obtain ⟨x, y, rfl, he, k⟩ := h
      walk_at "kk"
      rcases he with ⟨hs, rfl⟩ | ⟨a, b, xs, ys, rfl, rfl, hx, hy, hl, hz, hh⟩ | ⟨a, b, xs, ys, rfl, rfl, hx, hy, hl, hz, hh⟩
      · cases x with
        | non =>
          k_call_by "isi" (TyX.base TyOf.non)
          walk_at "go"
          rw [decide_eq_true rfl]
          exact k _ (Same.refl _)
        | bl v =>
          k_call_by "isi" (TyX.base (TyOf.bl _))
          walk_at "go"
          rw [decide_eq_true rfl]
          exact k _ (Same.refl _)
        | int v =>
          k_call_by "isi" (TyX.base (TyOf.int _))
          walk_at "go"
          rw [decide_eq_true rfl]
          exact k _ (Same.refl _)
        | str v =>
          k_call_by "isi" (TyX.base (TyOf.str _))
          walk_at "go"
          rw [decide_eq_true rfl]
          exact k _ (Same.refl _)
        | byt v => cases hs
        | flt v => cases hs
        | ref v => cases hs
        | ty v => cases hs
      · k_call_by "isi" (tyx_list (by assumption))
        walk_at "go"
        refine w_lenVL hx ?_
        walk_at "go"
        refine w_lenVL hy ?_
        walk_at "go"
        rw [hl, decide_eq_true rfl]
        refine w_F rfl ?_
        walk_at "go"
        refine w_lenVL hy ?_
        walk_at "go"
        refine LcR.mapV (fun _ => V.bl true) (by omega) (fun i H2 kk hi s2 q => ?_) (fun D H2 nD s2 h2 => ?_)
        · have hi' : i < ys.length := hi
          have e1 : xs[i]? = some xs[i] := List.getElem?_eq_getElem (by omega)
          have e2 : ys[i]? = some ys[i] := List.getElem?_eq_getElem hi'
          walk_at "go"
          refine w_ixQL (s2.seq hx) (at_of (j := i) (by omega) e1) ?_
          walk_at "go"
          refine w_ixQL (s2.seq hy) (at_of (j := i) (by omega) e2) ?_
          walk_at "go"
          exact ⟨_, _, rfl, Eqd.mono s2 (hh i _ _ e1 e2), fun H3 s3 => q H3 s3⟩
        · walk_at "go"
          refine w_all (bs := (List.range (ys.length : Int).toNat).map fun _ => true) (by rw [List.map_map]; exact SqL.of h2) ?_
          rw [show ((List.range (ys.length : Int).toNat).map fun _ => true).all id = true by simp]
          exact k _ s2
      · k_call_by "isi" (tyx_tup (by assumption))
        walk_at "go"
        refine w_lenVT hx ?_
        walk_at "go"
        refine w_lenVT hy ?_
        walk_at "go"
        rw [hl, decide_eq_true rfl]
        refine w_F rfl ?_
        walk_at "go"
        refine w_lenVT hy ?_
        walk_at "go"
        refine LcR.mapV (fun _ => V.bl true) (by omega) (fun i H2 kk hi s2 q => ?_) (fun D H2 nD s2 h2 => ?_)
        · have hi' : i < ys.length := hi
          have e1 : xs[i]? = some xs[i] := List.getElem?_eq_getElem (by omega)
          have e2 : ys[i]? = some ys[i] := List.getElem?_eq_getElem hi'
          walk_at "go"
          refine w_ixQT (Same.seqT s2 hx) (at_of (j := i) (by omega) e1) ?_
          walk_at "go"
          refine w_ixQT (Same.seqT s2 hy) (at_of (j := i) (by omega) e2) ?_
          walk_at "go"
          exact ⟨_, _, rfl, Eqd.mono s2 (hh i _ _ e1 e2), fun H3 s3 => q H3 s3⟩
        · walk_at "go"
          refine w_all (bs := (List.range (ys.length : Int).toNat).map fun _ => true) (by rw [List.map_map]; exact SqL.of h2) ?_
          rw [show ((List.range (ys.length : Int).toNat).map fun _ => true).all id = true by simp]
          exact k _ s2

end
end Rg

set_option Elab.async false
set_option linter.all false
set_option maxRecDepth 100000
set_option maxHeartbeats 4000000
namespace Rg
open PySem L2
local macro_rules | `(tactic| wrow_read $p $h $n) => `(tactic| (refine ⟨sizes ?c, fun $p hp => ?_⟩; (case c => (first | exact Nat.le_of_ble_eq_true rfl | omega | (simp; omega))); generalize hg : upd _ $p _ = $h; have $n := New.of hp hg; clear hg hp))
local macro_rules | `(tactic| wrow_readAll $p $h $n) => `(tactic| (refine fun $p hp => ?_; generalize hg : upd _ $p _ = $h; have $n := New.of hp hg; clear hg hp))
local macro_rules | `(tactic| walk_at "kk") => `(tactic| dsimp only [cxK, noxK, blkK, trK, suK, L2.start, List.map_cons, List.map_nil, List.length_cons, List.length_nil, List.replicate, List.cons_append, List.nil_append, Nat.reduceAdd, Nat.reduceSub, List.append_nil])
local macro_rules | `(tactic| walk_at "ff") => `(tactic| first | assumption | (refine SqL.of ?_; walk_at "ff") | (refine SqT.of ?_; walk_at "ff") | (refine New.at_ (by assumption)) | (refine Same.at (by assumption) ?_; walk_at "ff") | (refine Same.at (New.sm (by assumption)) ?_; walk_at "ff") | (refine Same.seq (by assumption) ?_; walk_at "ff") | (refine Same.seqT (by assumption) ?_; walk_at "ff"))
local macro_rules | `(tactic| walk_at "sd") => `(tactic| first | decide | omega | assumption | exact Or.inl ⟨by decide, by decide⟩ | exact Or.inr ⟨by decide, by decide⟩ | exact ⟨by decide, by decide⟩ | exact ⟨by decide, by decide, by decide⟩ | exact Or.inl ⟨by omega, by omega⟩ | exact Or.inr ⟨by omega, by omega⟩ | exact ⟨by omega, by omega⟩ | exact ⟨by omega, by omega, by omega, by omega⟩)
local macro_rules | `(tactic| walk_at "g1") => `(tactic| first | ((with_reducible refine w_r1 ?c ?_); case c => ((try simp only [List.length_map]); walk_at "sd")) | ((with_reducible refine w_r2 ?c ?_); case c => ((try simp only [List.length_map]); walk_at "sd")) | (with_reducible first | refine w_seq ?_ | refine w_asg ?_ | refine w_sfld ?_ | refine w_make ?_ | refine w_methK ?_ | refine w_forS ?_ | refine w_m1 ?_ | refine w_isS ?_ | refine w_cnt ?_ | refine w_strE ?_ | refine w_makeK ?_ | refine w_inst ?_ | refine w_instK ?_ | refine w_prop ?_ | refine w_xf ?_ | refine w_rfl ?_ | refine w_ret ?_ | refine w_drop ?_ | refine w_next ?_ | refine w_if ?_ | refine w_var rfl ?_ | refine w_c ?_ | refine w_op ?_ | refine w_I0 ?_ | refine w_test ?_ | refine w_bl ?_ | refine w_cons ?_ | refine w_nil ?_ | refine w_cb ?_ | refine w_callS ?_ | refine w_un ?_ | refine w_U ?_ | refine w_eq rfl ?_ | refine w_ne rfl ?_ | refine w_not ?_ | refine w_and ?_ | refine w_or ?_ | refine w_B ?_ | refine w_sl ?_ | refine w_noPart ?_ | refine w_part ?_ | refine w_int ?_ | refine w_lst ?_ | refine w_tup ?_ | refine w_asgG ?_ | refine w_ifE ?_ | refine w_andV ?_ | refine w_orV ?_ | refine w_notV ?_ | refine w_meth ?_ | refine w_fld ?_ | refine w_brk ?_ | refine w_cont ?_ | refine w_retN ?_ | refine w_int1 ?_ | refine w_2i ?_ | refine w_1i ?_ | refine w_bm ?_ | refine w_bm0 ?_ | refine w_gsub ?_ | refine w_gcons ?_ | refine w_gnil ?_ | refine w_gname ?_ | refine w_forR1 ?_ | refine w_forR2 ?_ | refine w_forL ?_ | refine w_forT ?_ | refine w_listRg1 ?_ | refine w_lcR1 ?_ | refine w_lcR2 ?_ | refine w_lcL ?_ | refine w_yes ?_ | refine w_chain ?_ | refine w_mkoU ?_ | refine w_mko ?_ | refine w_sign ?_ | refine w_dash ?_) | ((with_reducible refine w_I ?c ?_); case c => walk_at "sd") | ((with_reducible refine w_lenL (xs := ?x) ?c ?_); case c => walk_at "ff") | ((with_reducible refine w_ixL (xs := ?x) (v := ?v) ?c ?e ?_); (case c => walk_at "ff"); (case e => with_reducible rfl)) | ((with_reducible refine w_rL (xs := ?x) ?c ?_); case c => walk_at "ff"))
local macro_rules | `(tactic| walk_at "go") => `(tactic| repeat walk_at "g1")
section
variable {P : Program} {w : World} {K : PySem.W.Frag} {mg : Str → Option Value} {base : Heap}
/-! ### rows as lists of signs, orders: plain mathematics -/
abbrev S (l : List Nat) : Str := ⟨l.toArray⟩
theorem S_list (l : List Nat) : (S l).cps.toList = l := by simp [S]
theorem S_len (l : List Nat) : (S l).length = l.length := by simp [S, Str.length]
theorem S_app (a b : List Nat) : S a ++ S b = S (a ++ b) := by
  have := SX.S_cat a b
  exact this
theorem S_inj {a b : List Nat} (h : S a = S b) : a = b := by
  have := congrArg (fun z : Str => z.cps.toList) h
  simpa [S] using this
def dash (l : List Nat) (i : Nat) : Bool := decide (l[i]? = some 45)
def down (l : List Nat) (i : Nat) : Nat := if dash l i then i + 1 else if 0 < i ∧ dash l (i - 1) = true then i - 1 else i
/-- the post that a rung ends at already -/
def taken (l : List Nat) (s : Nat) : Option Nat := if down l s ≠ s then some s else if down l (s + 1) ≠ s + 1 then some (s + 1) else none
def sw (p i : Nat) : Nat := if i = p then p + 1 else if i = p + 1 then p else i
def run (rs : List Nat) (s : Nat) : Nat := rs.foldl (fun i p => sw p i) s
def ordN (n : Nat) (rs : List Nat) : List Nat := (List.range n).map (run rs)
theorem sw_sw (p i : Nat) : sw p (sw p i) = i := by
  unfold sw
  split <;> (try split) <;> (try split) <;> omega
theorem sw_lt {p i n : Nat} (h : p + 1 < n) (hi : i < n) : sw p i < n := by
  unfold sw
  split <;> (try split) <;> omega
theorem run_snoc (rs : List Nat) (p s : Nat) : run (rs ++ [p]) s = sw p (run rs s) := by
  unfold run
  rw [List.foldl_append]
  rfl
theorem ordN_snoc (n : Nat) (rs : List Nat) (p : Nat) : ordN n (rs ++ [p]) = (ordN n rs).map (sw p) := by
  unfold ordN
  rw [List.map_map]
  exact List.map_congr_left fun s _ => run_snoc rs p s
theorem ordN_len (n : Nat) (rs : List Nat) : (ordN n rs).length = n := by simp [ordN]
theorem run_lt {rs : List Nat} {n s : Nat} (h : ∀ p ∈ rs, p + 1 < n) (hs : s < n) : run rs s < n := by
  unfold run
  induction rs generalizing s with
  | nil => exact hs
  | cons p rs ih => exact ih (fun q hq => h q (List.mem_cons_of_mem _ hq)) (sw_lt (h p (List.mem_cons_self ..)) hs)
/-- the walkers behind the rungs: position pos holds the start of the one who stands there -/
def Wk (n : Nat) (rs : List Nat) (w : List Nat) : Prop := w.length = n ∧ (∀ pos, pos < n → ∃ s, w[pos]? = some s ∧ s < n ∧ run rs s = pos) ∧ ∀ s, s < n → w[run rs s]? = some s
theorem Wk.nil (n : Nat) : Wk n [] (List.range n) := ⟨by simp, fun pos h => ⟨pos, List.getElem?_range h, h, rfl⟩, fun s h => List.getElem?_range h⟩
theorem Wk.snoc {n : Nat} {rs w : List Nat} {p a b : Nat} (h : Wk n rs w) (hp : p + 1 < n) (ha : w[p]? = some a) (hb : w[p + 1]? = some b) (hr : ∀ q ∈ rs, q + 1 < n) : Wk n (rs ++ [p]) ((w.set p b).set (p + 1) a) := by
  obtain ⟨h1, h2, h3⟩ := h
  have key : ∀ pos, pos < n → ((w.set p b).set (p + 1) a)[sw p pos]? = w[pos]? := fun pos hpos => by
    unfold sw
    by_cases e1 : pos = p
    · subst e1
      rw [if_pos rfl, List.getElem?_set_self (by rw [List.length_set]; omega), ha]
    · by_cases e2 : pos = p + 1
      · subst e2
        rw [if_neg e1, if_pos rfl, List.getElem?_set_ne (by omega), List.getElem?_set_self (by omega), hb]
      · rw [if_neg e1, if_neg e2, List.getElem?_set_ne (by omega), List.getElem?_set_ne (by omega)]
  refine ⟨by rw [List.length_set, List.length_set, h1], fun pos hpos => ?_, fun s hs => ?_⟩
  · obtain ⟨s, e, hs, er⟩ := h2 (sw p pos) (sw_lt hp hpos)
    refine ⟨s, ?_, hs, ?_⟩
    · have := key (sw p pos) (sw_lt hp hpos)
      rw [sw_sw] at this
      rw [this, e]
    · rw [run_snoc, er, sw_sw]
  · rw [run_snoc, key _ (run_lt hr hs), h3 s hs]
theorem dash_set {l : List Nat} {i j : Nat} : dash (l.set i 45) j = (decide (i = j ∧ i < l.length) || (decide (i ≠ j) && dash l j)) := by
  unfold dash
  by_cases e : i = j
  · subst e
    by_cases h : i < l.length
    · rw [List.getElem?_set_self h]
      simp [h]
    · rw [List.getElem?_eq_none (by rw [List.length_set]; omega)]
      simp [h]
  · rw [List.getElem?_set_ne e]
    simp [e]
theorem taken_none {l : List Nat} {s : Nat} : taken l s = none ↔ (down l s = s ∧ down l (s + 1) = s + 1) := by
  unfold taken
  by_cases h1 : down l s = s
  · by_cases h2 : down l (s + 1) = s + 1
    · simp [h1, h2]
    · simp [h1, h2]
  · simp [h1]
theorem down_ne {l : List Nat} {i : Nat} : down l i ≠ i ↔ (dash l i = true ∨ (0 < i ∧ dash l (i - 1) = true)) := by
  unfold down
  by_cases h1 : dash l i = true
  · simp [h1]
  · by_cases h2 : 0 < i ∧ dash l (i - 1) = true
    · rw [if_neg h1, if_pos h2]
      simp [h2]
      omega
    · rw [if_neg h1, if_neg h2]
      simp [h1, h2]
/-- a row with a single rung -/
theorem down_single {n p i : Nat} (hp : p + 1 < n) : down (List.replicate p 46 ++ 45 :: List.replicate (n - 2 - p) 46) i = sw p i := by
  have hd : ∀ j, dash (List.replicate p 46 ++ 45 :: List.replicate (n - 2 - p) 46) j = decide (j = p) := fun j => by
    unfold dash
    rcases Nat.lt_trichotomy j p with h | h | h
    · rw [List.getElem?_append_left (by simpa using h), List.getElem?_replicate_of_lt h]
      have : ¬ j = p := by omega
      simp [this]
    · subst h
      rw [List.getElem?_append_right (by simp)]
      simp
    · rw [List.getElem?_append_right (by simp; omega)]
      have e : j - (List.replicate p 46).length = (j - p - 1) + 1 := by simp; omega
      rw [e, List.getElem?_cons_succ, List.getElem?_replicate]
      have : ¬ j = p := by omega
      split <;> simp [this]
  unfold down sw
  rw [hd, hd]
  by_cases h1 : i = p
  · simp [h1]
  · by_cases h2 : i = p + 1
    · simp [h2]
    · have : ¬ (0 < i ∧ i - 1 = p) := by omega
      simp [h1, h2, this]

theorem mem_cut {l : List Nat} {a b c : Nat} : c ∈ (l.drop a).take (b - a) ↔ ∃ j, a ≤ j ∧ j < b ∧ l[j]? = some c := by
  rw [List.mem_iff_getElem?]
  constructor
  · rintro ⟨i, h⟩
    rw [List.getElem?_take] at h
    split at h
    · rw [List.getElem?_drop] at h
      exact ⟨a + i, by omega, by omega, h⟩
    · cases h
  · rintro ⟨j, h1, h2, h3⟩
    refine ⟨j - a, ?_⟩
    rw [List.getElem?_take, if_pos (by omega), List.getElem?_drop]
    rw [show a + (j - a) = j by omega]
    exact h3
theorem cut_list {l : List Nat} {a b : Nat} (h : a ≤ b) : (cutS (S l) (some (a : Int)) (some (b : Int))).cps.toList = (l.drop a).take (b - a) := by
  unfold cutS
  show ((S l).cps.toList.drop (HT.sIx (S l).length 0 (some (a : Int)))).take (HT.sIx (S l).length (S l).length (some (b : Int)) - HT.sIx (S l).length 0 (some (a : Int))) = _
  rw [HT.sIx_nat, HT.sIx_nat, S_len, S_list]
  refine List.ext_getElem? fun i => ?_
  rw [List.getElem?_take, List.getElem?_take, List.getElem?_drop, List.getElem?_drop]
  by_cases h1 : a + i < l.length
  · have : min a l.length = a := by omega
    rw [this]
    by_cases h2 : i < b - a
    · rw [if_pos (by omega), if_pos h2]
    · rw [if_neg (by omega), if_neg h2]
  · rw [List.getElem?_eq_none (show l.length ≤ a + i by omega), List.getElem?_eq_none (show l.length ≤ min a l.length + i by omega)]
    split <;> split <;> rfl
/-- a sign 45 at a place or the one ahead of it -/
theorem near_dash {l : List Nat} {p : Nat} : 45 ∈ (cutS (S l) (some (if (p : Int) - 1 > 0 then (p : Int) - 1 else 0)) (some ((p : Int) + 1))).cps.toList ↔ down l p ≠ p := by
  have e1 : (if (p : Int) - 1 > 0 then (p : Int) - 1 else 0) = ((p - 1 : Nat) : Int) := by split <;> omega
  have e2 : (p : Int) + 1 = ((p + 1 : Nat) : Int) := by omega
  rw [e1, e2, cut_list (by omega), mem_cut, down_ne]
  unfold dash
  simp only [decide_eq_true_eq]
  constructor
  · rintro ⟨j, h1, h2, h3⟩
    by_cases h : j = p
    · subst h
      exact .inl h3
    · have : j = p - 1 := by omega
      subst this
      exact .inr ⟨by omega, h3⟩
  · rintro (h | ⟨h0, h⟩)
    · exact ⟨p, by omega, by omega, h⟩
    · exact ⟨p - 1, by omega, by omega, h⟩
/-- slices glued around a sign -/
theorem set_cut {l : List Nat} {p c : Nat} (h : p < l.length) : cutS (S l) none (some (p : Int)) ++ S [c] ++ cutS (S l) (some ((p : Int) + 1)) none = S (l.set p c) := by
  have e1 : cutS (S l) none (some (p : Int)) = S (l.take p) := by
    unfold cutS
    show S (((S l).cps.toList.drop (HT.sIx (S l).length 0 none)).take (HT.sIx (S l).length (S l).length (some (p : Int)) - HT.sIx (S l).length 0 none)) = _
    rw [HT.sIx_nat, HT.sIx_none, S_len, S_list, List.drop_zero]
    congr 2
    omega
  have e2 : cutS (S l) (some ((p : Int) + 1)) none = S (l.drop (p + 1)) := by
    unfold cutS
    show S (((S l).cps.toList.drop (HT.sIx (S l).length 0 (some ((p : Int) + 1)))).take (HT.sIx (S l).length (S l).length none - HT.sIx (S l).length 0 (some ((p : Int) + 1)))) = _
    rw [show (p : Int) + 1 = ((p + 1 : Nat) : Int) by omega, HT.sIx_nat, HT.sIx_none, S_len, S_list]
    rw [List.take_of_length_le (by rw [List.length_drop]; omega)]
    congr 2
    omega
  rw [e1, e2, S_app, S_app]
  congr 1
  rw [List.set_eq_take_append_cons_drop, if_pos h]
  simp

theorem cut_len {l : List Nat} {lo hi : Option Int} : (cutS (S l) lo hi).length ≤ l.length := by
  unfold cutS Str.length
  simp only [List.size_toArray, List.length_take, List.length_drop]
  omega
theorem app_len {a b : Str} : (a ++ b).length = a.length + b.length := by
  show (a.cps ++ b.cps).size = _
  rw [Array.size_append]
  rfl

/-! ### a live ladder in the heap -/
structure LQ where
  t : Addr
  dx : Addr
  l : Addr
  r : Addr
  d : Addr
structure LSt where
  n : Nat
  lines : List (List Nat)
  rungs : List Nat
  deeds : List Int
abbrev txt (ls : List (List Nat)) : List V := ls.map fun l => V.str (S l)
abbrev nat (rs : List Nat) : List V := rs.map fun (r : Nat) => V.int (r : Int)
def fLad (n : Int) (l r d : Addr) (m : Option Addr) : List (Str × V) := ("posts", .int n) :: ("lines", .ref l) :: ("rungs", .ref r) :: ("deeds", .ref d) :: (match m with | none => [] | some a => [("model", .ref a)])
theorem fLad_posts {n : Int} {l r d : Addr} {m : Option Addr} : List.lookup ("posts" : Str) (fLad n l r d m) = some (V.int n) := by rfl
theorem fLad_lines {n : Int} {l r d : Addr} {m : Option Addr} : List.lookup ("lines" : Str) (fLad n l r d m) = some (V.ref l) := by rfl
theorem fLad_rungs {n : Int} {l r d : Addr} {m : Option Addr} : List.lookup ("rungs" : Str) (fLad n l r d m) = some (V.ref r) := by rfl
theorem fLad_deeds {n : Int} {l r d : Addr} {m : Option Addr} : List.lookup ("deeds" : Str) (fLad n l r d m) = some (V.ref d) := by rfl
/-- what the class at C has -/
structure LC (K : PySem.W.Frag) (C : Addr) : Prop where
  cls : Cls K C
  np : NoAttr K C "posts"
  nl : NoAttr K C "lines"
  nr : NoAttr K C "rungs"
  nd : NoAttr K C "deeds"
  m1 : Meth K C "check_post" (He.fAd K ("Ladder", some "check_post"))
  m2 : Meth K C "set_rung" (He.fAd K ("Ladder", some "set_rung"))
  m3 : Meth K C "begin_row" (He.fAd K ("Ladder", some "begin_row"))
  m4 : Meth K C "order" (He.fAd K ("Ladder", some "order"))
  m5 : Meth K C "check_text" (He.fAd K ("Ladder", some "check_text"))
theorem lc_Ladder (T : Tx K mg) : LC K (He.ga K "Ladder") := ⟨T.cls_Ladder, T.na_Ladder_posts, T.na_Ladder_lines, T.na_Ladder_rungs, T.na_Ladder_deeds, T.me_Ladder_check_post, T.me_Ladder_set_rung, T.me_Ladder_begin_row, T.me_Ladder_order, T.me_Ladder_check_text⟩
/-- the ladder with the state st stands at q -/
structure LadAt (K : PySem.W.Frag) (C : Addr) (m : Option Addr) (H : Hp) (q : LQ) (st : LSt) : Prop where
  ob : H q.t = some (.ins C q.dx (fLad st.n q.l q.r q.d m))
  hl : H q.l = some (.lst (txt st.lines))
  hr : H q.r = some (.lst (nat st.rungs))
  hd : H q.d = some (.lst (st.deeds.map V.int))
  lr : q.l ≠ q.r
  ld : q.l ≠ q.d
  rd : q.r ≠ q.d
/-- what its sizes and rows must be -/
structure LOk (st : LSt) : Prop where
  n1 : 1 ≤ st.n
  n2 : st.n ≤ 1000
  ne : st.lines ≠ []
  w : ∀ l ∈ st.lines, l.length = st.n - 1
  rg : ∀ p ∈ st.rungs, p + 1 < st.n
  sl : st.lines.length ≤ 1000
  sr : st.rungs.length ≤ 10000
  sd : st.deeds.length ≤ 1000
theorem LadAt.same {C : Addr} {m : Option Addr} {H H' : Hp} {q : LQ} {st : LSt} (h : LadAt K C m H q st) (s : Same H H') : LadAt K C m H' q st := ⟨s _ _ h.ob, s _ _ h.hl, s _ _ h.hr, s _ _ h.hd, h.lr, h.ld, h.rd⟩
/-- all but the lists of the ladder at q -/
def Frm (q : LQ) (H H' : Hp) : Prop := ∀ b o, b ≠ q.t → b ≠ q.l → b ≠ q.r → b ≠ q.d → H b = some o → H' b = some o
theorem Frm.of {q : LQ} {H H' : Hp} (s : Same H H') : Frm q H H' := fun b o _ _ _ _ e => s b o e
theorem Frm.trans {q : LQ} {H H1 H2 : Hp} (a : Frm q H H1) (b : Frm q H1 H2) : Frm q H H2 := fun c o h1 h2 h3 h4 e => b c o h1 h2 h3 h4 (a c o h1 h2 h3 h4 e)
theorem tl_ne {C : Addr} {m : Option Addr} {H : Hp} {q : LQ} {st : LSt} (h : LadAt K C m H q st) : q.t ≠ q.l ∧ q.t ≠ q.r ∧ q.t ≠ q.d := ⟨ne_of h.ob h.hl (by intro z; cases z), ne_of h.ob h.hr (by intro z; cases z), ne_of h.ob h.hd (by intro z; cases z)⟩
theorem f_posts {C t dx l r d : Addr} {n : Int} {m : Option Addr} {H : Hp} {R : V → Prop} (L : LC K C) (h : H t = some (.ins C dx (fLad n l r d m))) (q : R (.int n)) : ∃ a C dx fs v, V.ref t = V.ref a ∧ H a = some (.ins C dx fs) ∧ Cls K C ∧ NoAttr K C "posts" ∧ List.lookup ("posts" : Str) fs = some v ∧ R v :=
  ⟨t, C, dx, _, _, rfl, h, L.cls, L.np, fLad_posts, q⟩
theorem f_lines {C t dx l r d : Addr} {n : Int} {m : Option Addr} {H : Hp} {R : V → Prop} (L : LC K C) (h : H t = some (.ins C dx (fLad n l r d m))) (q : R (.ref l)) : ∃ a C dx fs v, V.ref t = V.ref a ∧ H a = some (.ins C dx fs) ∧ Cls K C ∧ NoAttr K C "lines" ∧ List.lookup ("lines" : Str) fs = some v ∧ R v :=
  ⟨t, C, dx, _, _, rfl, h, L.cls, L.nl, fLad_lines, q⟩
theorem f_rungs {C t dx l r d : Addr} {n : Int} {m : Option Addr} {H : Hp} {R : V → Prop} (L : LC K C) (h : H t = some (.ins C dx (fLad n l r d m))) (q : R (.ref r)) : ∃ a C dx fs v, V.ref t = V.ref a ∧ H a = some (.ins C dx fs) ∧ Cls K C ∧ NoAttr K C "rungs" ∧ List.lookup ("rungs" : Str) fs = some v ∧ R v :=
  ⟨t, C, dx, _, _, rfl, h, L.cls, L.nr, fLad_rungs, q⟩
theorem f_deeds {C t dx l r d : Addr} {n : Int} {m : Option Addr} {H : Hp} {R : V → Prop} (L : LC K C) (h : H t = some (.ins C dx (fLad n l r d m))) (q : R (.ref d)) : ∃ a C dx fs v, V.ref t = V.ref a ∧ H a = some (.ins C dx fs) ∧ Cls K C ∧ NoAttr K C "deeds" ∧ List.lookup ("deeds" : Str) fs = some v ∧ R v :=
  ⟨t, C, dx, _, _, rfl, h, L.cls, L.nd, fLad_deeds, q⟩
/-! exceptions -/
theorem sc_RungError___init : FnScope ["self", "value"] ["self", "value"] (defScope s_RungError___init) := ⟨rfl, rfl, rfl, by decide +kernel, rfl, by decide +kernel, by decide +kernel⟩
theorem fok_RungError___init (T : Tx K mg) {C : Addr} (ox : OexC K C) (xn : PySem.W.findIn K (.ref C) "value" = some none) {fd : FuncData} (F : FunD K "__init__" "RungError.__init__" (defArgs s_RungError___init) (defBody s_RungError___init) (defScope s_RungError___init) [] [] (He.fAd K ("RungError", some "__init__")) fd) : FnOk P w K mg base CX0 1 (He.fAd K ("RungError", some "__init__")) fd ["self", "value"] (spInitX C) := by
  refine F.ok sc_RungError___init (fun vs H Q E h => ?len) (fun cdv A outer s H vs Q E hr h => ⟨_, PSs.nox (pss_one (ps_ostK (K := K) (pv 0) (pv 1) rfl)), ?body⟩)
  case len => obtain ⟨_, _, rfl, _⟩ := h; rfl
  case body =>
    obtain ⟨a, v, rfl, ha, k⟩ := h
    refine w_ost ?_
    walk_at "go"
    exact ⟨a, C, rfl, ox, xn, .inl ⟨ha, k⟩⟩
/-- an error of the class x that keeps v: told behind -/
def Err (K : PySem.W.Frag) (E : XK) (x : Str) (v : V) (H : Hp) : Prop := ∀ (d : Addr) (H' : Hp), H d = none → Same H H' → H' d = some (.xd [("value", v)]) → E (.ref (He.ga K x)) (some d) H'
theorem Err.new {E : XK} {x : Str} {v : V} {H H1 : Hp} (k : Err K E x v H) (s : Same H H1) : ∀ d, H1 d = none → E (.ref (He.ga K x)) (some d) (upd H1 d (.xd [("value", v)])) := fun d hd =>
  k d _ (s.free hd) (s.mut (s.free hd)) upd_same

theorem exc_InvalidPost (T : Tx K mg) : ExS P w K mg base 1 "InvalidPost" (He.ga K "InvalidPost") := by
  obtain ⟨fd, F⟩ := T.d_RungError___init
  exact ⟨T.ox_InvalidPost, _, fd, ["self", "value"], T.xi_InvalidPost.1, T.xi_InvalidPost.2.1, fok_RungError___init T T.ox_InvalidPost T.xi_InvalidPost.2.2 F, F.bindsN fun _ _ _ _ _ _ us hl => match us, hl with | [_, _], _ => rfl, T.e_InvalidPost⟩
theorem exc_Taken (T : Tx K mg) : ExS P w K mg base 1 "Taken" (He.ga K "Taken") := by
  obtain ⟨fd, F⟩ := T.d_RungError___init
  exact ⟨T.ox_Taken, _, fd, ["self", "value"], T.xi_Taken.1, T.xi_Taken.2.1, fok_RungError___init T T.ox_Taken T.xi_Taken.2.2 F, F.bindsN fun _ _ _ _ _ _ us hl => match us, hl with | [_, _], _ => rfl, T.e_Taken⟩
theorem exc_InvalidSize (T : Tx K mg) : ExS P w K mg base 1 "InvalidSize" (He.ga K "InvalidSize") := by
  obtain ⟨fd, F⟩ := T.d_RungError___init
  exact ⟨T.ox_InvalidSize, _, fd, ["self", "value"], T.xi_InvalidSize.1, T.xi_InvalidSize.2.1, fok_RungError___init T T.ox_InvalidSize T.xi_InvalidSize.2.2 F, F.bindsN fun _ _ _ _ _ _ us hl => match us, hl with | [_, _], _ => rfl, T.e_InvalidSize⟩
/-! check_post -/
def sp_Ladder_check_post (K : PySem.W.Frag) (C : Addr) : Sp := fun vs H Q E => ∃ (m : Option Addr) (q : LQ) (st : LSt) (p : Int) (ls : List (List Nat)) (z : List Nat), vs = [.ref q.t, .int p] ∧ LadAt K C m H q st ∧ LOk st ∧ st.lines = ls ++ [z] ∧
  (¬ (0 ≤ p ∧ p < st.n - 1) → Err K E "InvalidPost" (.int p) H) ∧
  (0 ≤ p → p < st.n - 1 → ∀ s, taken z p.toNat = some s → Err K E "Taken" (.int s) H) ∧
  (0 ≤ p → p < st.n - 1 → taken z p.toNat = none → ∀ H', Same H H' → Q .non H')
theorem sc_Ladder_check_post : FnScope ["self", "post", "text", "place"] ["self", "post"] (defScope s_Ladder_check_post) := ⟨rfl, rfl, rfl, by decide +kernel, rfl, by decide +kernel, by decide +kernel⟩
theorem fok_Ladder_check_post (T : Tx K mg) {C : Addr} (L : LC K C) {fd : FuncData} (F : FunD K "check_post" "Ladder.check_post" (defArgs s_Ladder_check_post) (defBody s_Ladder_check_post) (defScope s_Ladder_check_post) [] [] (He.fAd K ("Ladder", some "check_post")) fd) : FnOk P w K mg base (L2.CX P w) 4 (He.fAd K ("Ladder", some "check_post")) fd ["self", "post"] (sp_Ladder_check_post K C) := by
  refine F.ok sc_Ladder_check_post (fun vs H Q E h => ?len) (fun cdv A outer s H vs Q E hr h => ⟨_, (pss_cons (ps_if (pt_not (pt_chain op_le op_lt pe_int (pv 1) (pe_op op_sub (pe_fldK (K := K) (pv 0) rfl) pe_int))) (pss_one (ps_raise rfl (takes_of rfl rfl rfl rfl) (pmk_os (exc_InvalidPost (K := K) T) hr (by omega) (by rfl) (pa_cons (pv 1) pa_nil)))) pss_nil)
 (pss_cons (ps_set (i := 2) sc_Ladder_check_post.nd rfl (by first | exact Or.inl rfl | exact Or.inr rfl) (pe_ix (ix_listK (K := K)) (pe_fldK (K := K) (pv 0) rfl) (pe_un un_neg pe_int) (fun _ _ => rfl)))
 (pss_one (ps_for (passes_of rfl) rfl (pi_tupK (K := K) (pe_tup (pa_cons (pv 1) (pa_cons (pe_op op_add (pv 1) pe_int) pa_nil)))) (pg_name (i := 3) sc_Ladder_check_post.nd rfl (by first | exact Or.inl rfl | exact Or.inr rfl))
 (pss_one (ps_if (pt_cmpR op_in_sign pe_str (pe_slice sl_str (pv 2) (po_some (pe_callB (call_max2 rfl) (by rfl) T.n_max (by decide +kernel) (pa_cons pe_int (pa_cons (pe_op op_sub (pv 3) pe_int) pa_nil)))) (po_some (pe_op op_add (pv 3) pe_int))) (by rfl)) (pss_one (ps_raise rfl (takes_of rfl rfl rfl rfl) (pmk_os (exc_Taken (K := K) T) hr (by omega) (by rfl) (pa_cons (pv 3) pa_nil)))) pss_nil)))))), ?body⟩)
  case len => obtain ⟨_, _, _, _, _, _, rfl, _⟩ := h; rfl
  case body =>
    obtain ⟨m, q, st, p, ls, z, rfl, hL, ok, hz, k1, k2, k3⟩ := h
    have eL : atI (txt st.lines) (-1) = some (V.str (S z)) := by
      rw [hz]
      simp only [txt, List.map_append, List.map_cons, List.map_nil]
      exact atI_last _ _
    have hzl : z.length = st.n - 1 := ok.w z (by rw [hz]; simp)
    have hn2 := ok.n2
    walk_at "go"
    refine w_dec (fun h0 => ?_) (fun h0 => ?_)
    · walk_at "go"
      refine f_posts L hL.ob ?_
      walk_at "go"
      refine w_ndec (fun h1 => ?_) (fun h1 => ?_)
      · walk_at "go"
        exact (k1 (by omega)).new (Same.refl _)
      · obtain ⟨p, rfl⟩ : ∃ p' : Nat, p = (p' : Int) := ⟨p.toNat, by omega⟩
        have k2 := k2 (by omega) h1
        have k3 := k3 (by omega) h1
        rw [Int.toNat_natCast] at k2 k3
        walk_at "go"
        refine f_lines L hL.ob ?_
        walk_at "go"
        refine w_ixL (SqL.of hL.hl) eL ?_
        walk_at "go"
        wrow_read tp H1 N1
        have s1 := N1.sm
        have h1 := N1.at_
        refine w_rT (SqT.of h1) ?_
        refine ForT.run [V.int p, V.int ((p : Int) + 1)] (fun i σ H2 => H1 = H2 ∧ (∃ v, σ = [some (.ref q.t), some (.int p), some (.str (S z)), v]) ∧ (1 ≤ i → down z p = p) ∧ (2 ≤ i → down z (p + 1) = p + 1)) ⟨rfl, ⟨_, rfl⟩, by omega, by omega⟩ (fun i σ H2 _ h => by rw [← h.1]; exact SqT.of h1) ?_ ?_
        · rintro i x _ _ hx ⟨rfl, ⟨v, rfl⟩, d1, d2⟩
          match i, hx with
          | 0, hx =>
            cases hx
            walk_at "go"
            refine w_slS (sizes (by rw [S_len, hzl]; omega)) ?_
            walk_at "go"
            refine w_dec (fun g => ?_) (fun g => ?_)
            · walk_at "go"
              have g1 := near_dash.mp g
              exact (k2 p (by unfold taken; rw [if_pos g1])).new s1
            · walk_at "go"
              exact ⟨rfl, ⟨_, rfl⟩, fun _ => Classical.byContradiction fun q => g (near_dash.mpr q), by omega⟩
          | 1, hx =>
            cases hx
            have e3 : (p : Int) + 1 = ((p + 1 : Nat) : Int) := by omega
            rw [e3]
            walk_at "go"
            refine w_slS (sizes (by rw [S_len, hzl]; omega)) ?_
            walk_at "go"
            refine w_dec (fun g => ?_) (fun g => ?_)
            · walk_at "go"
              have g1 := near_dash.mp g
              exact (k2 (p + 1) (by unfold taken; rw [if_neg (by simp [d1 (by omega)]), if_pos g1])).new s1
            · walk_at "go"
              exact ⟨rfl, ⟨_, rfl⟩, fun _ => d1 (by omega), fun _ => Classical.byContradiction fun q => g (near_dash.mpr q)⟩
          | j + 2, hx => simp at hx
        · rintro _ _ ⟨rfl, ⟨v, rfl⟩, d1, d2⟩
          exact k3 (taken_none.mpr ⟨d1 (by simp), d2 (by simp)⟩) _ s1
    · walk_at "go"
      refine w_T rfl ?_
      walk_at "go"
      exact (k1 (by omega)).new (Same.refl _)


end
end Rg

set_option Elab.async false
set_option linter.all false
set_option maxRecDepth 100000
set_option maxHeartbeats 4000000
namespace Rg
open PySem L2
local macro_rules | `(tactic| wrow_read $p $h $n) => `(tactic| (refine ⟨sizes ?c, fun $p hp => ?_⟩; (case c => (first | exact Nat.le_of_ble_eq_true rfl | omega | (simp; omega))); generalize hg : upd _ $p _ = $h; have $n := New.of hp hg; clear hg hp))
local macro_rules | `(tactic| wrow_readAll $p $h $n) => `(tactic| (refine fun $p hp => ?_; generalize hg : upd _ $p _ = $h; have $n := New.of hp hg; clear hg hp))
local macro_rules | `(tactic| walk_at "kk") => `(tactic| dsimp only [cxK, noxK, blkK, trK, suK, L2.start, List.map_cons, List.map_nil, List.length_cons, List.length_nil, List.replicate, List.cons_append, List.nil_append, Nat.reduceAdd, Nat.reduceSub, List.append_nil])
local macro_rules | `(tactic| walk_at "ff") => `(tactic| first | assumption | (refine SqL.of ?_; walk_at "ff") | (refine SqT.of ?_; walk_at "ff") | (refine New.at_ (by assumption)) | (refine Same.at (by assumption) ?_; walk_at "ff") | (refine Same.at (New.sm (by assumption)) ?_; walk_at "ff") | (refine Same.seq (by assumption) ?_; walk_at "ff") | (refine Same.seqT (by assumption) ?_; walk_at "ff"))
local macro_rules | `(tactic| walk_at "sd") => `(tactic| first | decide | omega | assumption | exact Or.inl ⟨by decide, by decide⟩ | exact Or.inr ⟨by decide, by decide⟩ | exact ⟨by decide, by decide⟩ | exact ⟨by decide, by decide, by decide⟩ | exact Or.inl ⟨by omega, by omega⟩ | exact Or.inr ⟨by omega, by omega⟩ | exact ⟨by omega, by omega⟩ | exact ⟨by omega, by omega, by omega, by omega⟩)
local macro_rules | `(tactic| walk_at "g1") => `(tactic| first | ((with_reducible refine w_r1 ?c ?_); case c => ((try simp only [List.length_map]); walk_at "sd")) | ((with_reducible refine w_r2 ?c ?_); case c => ((try simp only [List.length_map]); walk_at "sd")) | (with_reducible first | refine w_seq ?_ | refine w_asg ?_ | refine w_sfld ?_ | refine w_make ?_ | refine w_methK ?_ | refine w_forS ?_ | refine w_m1 ?_ | refine w_isS ?_ | refine w_cnt ?_ | refine w_strE ?_ | refine w_makeK ?_ | refine w_inst ?_ | refine w_instK ?_ | refine w_prop ?_ | refine w_xf ?_ | refine w_rfl ?_ | refine w_ret ?_ | refine w_drop ?_ | refine w_next ?_ | refine w_if ?_ | refine w_var rfl ?_ | refine w_c ?_ | refine w_op ?_ | refine w_I0 ?_ | refine w_test ?_ | refine w_bl ?_ | refine w_cons ?_ | refine w_nil ?_ | refine w_cb ?_ | refine w_callS ?_ | refine w_un ?_ | refine w_U ?_ | refine w_eq rfl ?_ | refine w_ne rfl ?_ | refine w_not ?_ | refine w_and ?_ | refine w_or ?_ | refine w_B ?_ | refine w_sl ?_ | refine w_noPart ?_ | refine w_part ?_ | refine w_int ?_ | refine w_lst ?_ | refine w_tup ?_ | refine w_asgG ?_ | refine w_ifE ?_ | refine w_andV ?_ | refine w_orV ?_ | refine w_notV ?_ | refine w_meth ?_ | refine w_fld ?_ | refine w_brk ?_ | refine w_cont ?_ | refine w_retN ?_ | refine w_int1 ?_ | refine w_2i ?_ | refine w_1i ?_ | refine w_bm ?_ | refine w_bm0 ?_ | refine w_gsub ?_ | refine w_gcons ?_ | refine w_gnil ?_ | refine w_gname ?_ | refine w_forR1 ?_ | refine w_forR2 ?_ | refine w_forL ?_ | refine w_forT ?_ | refine w_listRg1 ?_ | refine w_lcR1 ?_ | refine w_lcR2 ?_ | refine w_lcL ?_ | refine w_yes ?_ | refine w_chain ?_ | refine w_mkoU ?_ | refine w_mko ?_ | refine w_sign ?_ | refine w_dash ?_) | ((with_reducible refine w_I ?c ?_); case c => walk_at "sd") | ((with_reducible refine w_lenL (xs := ?x) ?c ?_); case c => walk_at "ff") | ((with_reducible refine w_ixL (xs := ?x) (v := ?v) ?c ?e ?_); (case c => walk_at "ff"); (case e => with_reducible rfl)) | ((with_reducible refine w_rL (xs := ?x) ?c ?_); case c => walk_at "ff"))
local macro_rules | `(tactic| walk_at "go") => `(tactic| repeat walk_at "g1")
section
variable {P : Program} {w : World} {K : PySem.W.Frag} {mg : Str → Option Value} {base : Heap}
/-! set_rung -/
def setLast (lines : List (List Nat)) (p : Nat) : List (List Nat) := lines.dropLast ++ [(lines.getLastD []).set p 45]
def LSt.set (st : LSt) (p : Nat) : LSt := ⟨st.n, setLast st.lines p, st.rungs ++ [p], st.deeds ++ [-1]⟩
def sp_Ladder_set_rung (K : PySem.W.Frag) (C : Addr) : Sp := fun vs H Q E => ∃ (m : Option Addr) (q : LQ) (st : LSt) (p : Nat), vs = [.ref q.t, .int p] ∧ LadAt K C m H q st ∧ LOk st ∧ p + 1 < st.n ∧
  ∀ H', LadAt K C m H' q (st.set p) → Frm q H H' → Q .non H'
theorem setLast_eq {ls : List (List Nat)} {z : List Nat} {p : Nat} : setLast (ls ++ [z]) p = ls ++ [z.set p 45] := by
  unfold setLast
  rw [List.dropLast_concat, List.getLastD_concat]
theorem atI_lastD {α : Type} {xs : List α} {v : α} (h : xs.getLast? = some v) : atI xs (-1) = some v := by
  obtain ⟨l, rfl⟩ : ∃ l, xs = l ++ [v] := List.getLast?_eq_some_iff.mp h
  exact atI_last _ _
theorem sc_Ladder_set_rung : FnScope ["self", "post", "text"] ["self", "post"] (defScope s_Ladder_set_rung) := ⟨rfl, rfl, rfl, by decide +kernel, rfl, by decide +kernel, by decide +kernel⟩
theorem fok_Ladder_set_rung (T : Tx K mg) {C : Addr} (L : LC K C) {fd : FuncData} (F : FunD K "set_rung" "Ladder.set_rung" (defArgs s_Ladder_set_rung) (defBody s_Ladder_set_rung) (defScope s_Ladder_set_rung) [] [] (He.fAd K ("Ladder", some "set_rung")) fd) : FnOk P w K mg base CX0 4 (He.fAd K ("Ladder", some "set_rung")) fd ["self", "post"] (sp_Ladder_set_rung K C) := by
  refine F.ok sc_Ladder_set_rung (fun vs H Q E h => ?len) (fun cdv A outer s H vs Q E hr h => ⟨_, PSs.nox (pss_cons (ps_set (i := 2) sc_Ladder_set_rung.nd rfl (by first | exact Or.inl rfl | exact Or.inr rfl) (pe_ix (ix_listK (K := K)) (pe_fldK (K := K) (pv 0) rfl) (pe_un un_neg pe_int) (fun _ _ => rfl)))
 (pss_cons (ps_asg (pe_op op_add_str (pe_op op_add_str (pe_slice sl_str (pv 2) po_none (po_some (pv 1))) pe_str) (pe_slice sl_str (pv 2) (po_some (pe_op op_add (pv 1) pe_int)) po_none)) (pg_sub (pe_fldK (K := K) (pv 0) rfl) (pe_un un_neg pe_int) set_list))
 (pss_cons (ps_expr (pe_bmK (K := K) PySem.F.plainAttrs_list PySem.F.slot_list_append PySem.F.type_list_append mt_append (pe_fldK (K := K) (pv 0) rfl) (pa_cons (pv 1) pa_nil)))
 (pss_one (ps_expr (pe_bmK (K := K) PySem.F.plainAttrs_list PySem.F.slot_list_append PySem.F.type_list_append mt_append (pe_fldK (K := K) (pv 0) rfl) (pa_cons (C8.pe_gc (by rfl) T.c_SINGLE_RUNG) pa_nil))))))), ?body⟩)
  case len => obtain ⟨_, _, _, _, rfl, _⟩ := h; rfl
  case body =>
    obtain ⟨m, q, st, p, rfl, hL, ok, hp, k⟩ := h
    obtain ⟨ls, z, hz⟩ : ∃ ls z, st.lines = ls ++ [z] := ⟨st.lines.dropLast, st.lines.getLast ok.ne, (List.dropLast_concat_getLast ok.ne).symm⟩
    have eL : atI (txt st.lines) (-1) = some (V.str (S z)) := by
      rw [hz]
      simp only [txt, List.map_append, List.map_cons, List.map_nil]
      exact atI_last _ _
    have hzl : z.length = st.n - 1 := ok.w z (by rw [hz]; simp)
    have hn2 := ok.n2
    have hs : sizeLine = 16777216 := by decide
    walk_at "go"
    refine f_lines L hL.ob ?_
    walk_at "go"
    refine w_ixL (SqL.of hL.hl) eL ?_
    walk_at "go"
    refine w_slS (sizes (by rw [S_len, hzl]; omega)) ?_
    walk_at "go"
    have lc : ∀ lo hi, (cutS (S z) lo hi).length ≤ 1000 := fun lo hi => Nat.le_trans cut_len (by omega)
    have ld : (Str.ofString "-").length = 1 := by rw [str_dash]; rfl
    refine w_cat (by have := lc none (some (p : Int)); omega) ?_
    walk_at "go"
    refine w_slS (sizes (by rw [S_len, hzl]; omega)) ?_
    refine w_cat (by have h1 := lc none (some (p : Int)); have h2 := lc (some ((p : Int) + 1)) none; rw [app_len]; omega) ?_
    rw [str_dash, set_cut (by omega)]
    walk_at "go"
    refine f_lines L hL.ob ?_
    walk_at "go"
    refine w_setL hL.hl (ixN_last (by rw [List.length_map, hz]; simp)) fun H1 b1 h1 => ?_
    have e1 : (txt st.lines).set ((txt st.lines).length - 1) (V.str (S (z.set p 45))) = txt (setLast st.lines p) := by
      rw [hz, setLast_eq]
      simp [txt]
    rw [e1] at h1
    obtain ⟨tl, tr, td⟩ := tl_ne hL
    have o1 := b1 _ _ tl hL.ob
    have r1 := b1 _ _ hL.lr.symm hL.hr
    have d1 := b1 _ _ hL.ld.symm hL.hd
    walk_at "go"
    refine f_rungs L o1 ?_
    refine w_tyL r1 ?_
    walk_at "go"
    refine w_app r1 (by rw [List.length_map]; have := ok.sr; omega) fun H2 b2 h2 => ?_
    have o2 := b2 _ _ tr o1
    have l2 := b2 _ _ hL.lr h1
    have d2 := b2 _ _ hL.rd.symm d1
    walk_at "go"
    refine f_deeds L o2 ?_
    refine w_tyL d2 ?_
    walk_at "go"
    refine w_app d2 (by rw [List.length_map]; have := ok.sd; omega) fun H3 b3 h3 => ?_
    refine k H3 ⟨b3 _ _ td o2, b3 _ _ hL.ld l2, ?_, ?_, hL.lr, hL.ld, hL.rd⟩ (fun b o n1 n2 n3 n4 e => b3 _ _ n4 (b2 _ _ n3 (b1 _ _ n2 e)))
    · rw [b3 _ _ hL.rd h2]
      simp [LSt.set, nat]
    · rw [h3]
      simp [LSt.set]

end
end Rg

set_option Elab.async false
set_option linter.all false
set_option maxRecDepth 100000
set_option maxHeartbeats 4000000
namespace Rg
open PySem L2
local macro_rules | `(tactic| wrow_read $p $h $n) => `(tactic| (refine ⟨sizes ?c, fun $p hp => ?_⟩; (case c => (first | exact Nat.le_of_ble_eq_true rfl | omega | (simp; omega))); generalize hg : upd _ $p _ = $h; have $n := New.of hp hg; clear hg hp))
local macro_rules | `(tactic| wrow_readAll $p $h $n) => `(tactic| (refine fun $p hp => ?_; generalize hg : upd _ $p _ = $h; have $n := New.of hp hg; clear hg hp))
local macro_rules | `(tactic| walk_at "kk") => `(tactic| dsimp only [cxK, noxK, blkK, trK, suK, L2.start, List.map_cons, List.map_nil, List.length_cons, List.length_nil, List.replicate, List.cons_append, List.nil_append, Nat.reduceAdd, Nat.reduceSub, List.append_nil])
local macro_rules | `(tactic| walk_at "ff") => `(tactic| first | assumption | (refine SqL.of ?_; walk_at "ff") | (refine SqT.of ?_; walk_at "ff") | (refine New.at_ (by assumption)) | (refine Same.at (by assumption) ?_; walk_at "ff") | (refine Same.at (New.sm (by assumption)) ?_; walk_at "ff") | (refine Same.seq (by assumption) ?_; walk_at "ff") | (refine Same.seqT (by assumption) ?_; walk_at "ff"))
local macro_rules | `(tactic| walk_at "sd") => `(tactic| first | decide | omega | assumption | exact Or.inl ⟨by decide, by decide⟩ | exact Or.inr ⟨by decide, by decide⟩ | exact ⟨by decide, by decide⟩ | exact ⟨by decide, by decide, by decide⟩ | exact Or.inl ⟨by omega, by omega⟩ | exact Or.inr ⟨by omega, by omega⟩ | exact ⟨by omega, by omega⟩ | exact ⟨by omega, by omega, by omega, by omega⟩)
local macro_rules | `(tactic| walk_at "g1") => `(tactic| first | ((with_reducible refine w_r1 ?c ?_); case c => ((try simp only [List.length_map]); walk_at "sd")) | ((with_reducible refine w_r2 ?c ?_); case c => ((try simp only [List.length_map]); walk_at "sd")) | (with_reducible first | refine w_seq ?_ | refine w_asg ?_ | refine w_sfld ?_ | refine w_make ?_ | refine w_methK ?_ | refine w_forS ?_ | refine w_m1 ?_ | refine w_isS ?_ | refine w_cnt ?_ | refine w_strE ?_ | refine w_makeK ?_ | refine w_inst ?_ | refine w_instK ?_ | refine w_prop ?_ | refine w_xf ?_ | refine w_rfl ?_ | refine w_ret ?_ | refine w_drop ?_ | refine w_next ?_ | refine w_if ?_ | refine w_var rfl ?_ | refine w_c ?_ | refine w_op ?_ | refine w_I0 ?_ | refine w_test ?_ | refine w_bl ?_ | refine w_cons ?_ | refine w_nil ?_ | refine w_cb ?_ | refine w_callS ?_ | refine w_un ?_ | refine w_U ?_ | refine w_eq rfl ?_ | refine w_ne rfl ?_ | refine w_not ?_ | refine w_and ?_ | refine w_or ?_ | refine w_B ?_ | refine w_sl ?_ | refine w_noPart ?_ | refine w_part ?_ | refine w_int ?_ | refine w_lst ?_ | refine w_tup ?_ | refine w_asgG ?_ | refine w_ifE ?_ | refine w_andV ?_ | refine w_orV ?_ | refine w_notV ?_ | refine w_meth ?_ | refine w_fld ?_ | refine w_brk ?_ | refine w_cont ?_ | refine w_retN ?_ | refine w_int1 ?_ | refine w_2i ?_ | refine w_1i ?_ | refine w_bm ?_ | refine w_bm0 ?_ | refine w_gsub ?_ | refine w_gcons ?_ | refine w_gnil ?_ | refine w_gname ?_ | refine w_forR1 ?_ | refine w_forR2 ?_ | refine w_forL ?_ | refine w_forT ?_ | refine w_listRg1 ?_ | refine w_lcR1 ?_ | refine w_lcR2 ?_ | refine w_lcL ?_ | refine w_yes ?_ | refine w_chain ?_ | refine w_mkoU ?_ | refine w_mko ?_ | refine w_sign ?_ | refine w_dash ?_) | ((with_reducible refine w_I ?c ?_); case c => walk_at "sd") | ((with_reducible refine w_lenL (xs := ?x) ?c ?_); case c => walk_at "ff") | ((with_reducible refine w_ixL (xs := ?x) (v := ?v) ?c ?e ?_); (case c => walk_at "ff"); (case e => with_reducible rfl)) | ((with_reducible refine w_rL (xs := ?x) ?c ?_); case c => walk_at "ff"))
local macro_rules | `(tactic| walk_at "go") => `(tactic| repeat walk_at "g1")
section
variable {P : Program} {w : World} {K : PySem.W.Frag} {mg : Str → Option Value} {base : Heap}
/-! order -/
def sp_Ladder_order (K : PySem.W.Frag) (C : Addr) : Sp := fun vs H Q E => ∃ (m : Option Addr) (q : LQ) (st : LSt), vs = [.ref q.t] ∧ LadAt K C m H q st ∧ LOk st ∧
  ∀ p H', H p = none → Same H H' → H' p = some (.lst (nat (ordN st.n st.rungs))) → Q (.ref p) H'
theorem rgV_nat (n : Nat) : rgV 0 (n : Int) = nat (List.range n) := by
  unfold rgV nat
  rw [show ((n : Int) - 0).toNat = n by omega]
  exact List.map_congr_left fun i _ => by rw [Int.zero_add]
theorem get_nat {rs : List Nat} {i r : Nat} (h : rs[i]? = some r) : (nat rs)[i]? = some (V.int (r : Int)) := by
  rw [List.getElem?_map, h]; rfl
theorem set_nat {rs : List Nat} {i r : Nat} : (nat rs).set i (V.int (r : Int)) = nat (rs.set i r) := by
  unfold nat
  rw [List.map_set]
theorem rep_nat (n : Nat) : (List.replicate n [V.int 0]).flatten = nat (List.replicate n 0) := by
  induction n with
  | zero => rfl
  | succ n ih => rw [List.replicate_succ, List.replicate_succ, List.flatten_cons, ih]; rfl
theorem sc_Ladder_order : FnScope ["self", "walkers", "post", "ends"] ["self"] (defScope s_Ladder_order) := ⟨rfl, rfl, rfl, by decide +kernel, rfl, by decide +kernel, by decide +kernel⟩
theorem fok_Ladder_order (T : Tx K mg) {C : Addr} (L : LC K C) {fd : FuncData} (F : FunD K "order" "Ladder.order" (defArgs s_Ladder_order) (defBody s_Ladder_order) (defScope s_Ladder_order) [] [] (He.fAd K ("Ladder", some "order")) fd) : FnOk P w K mg base CX0 1 (He.fAd K ("Ladder", some "order")) fd ["self"] (sp_Ladder_order K C) := by
  refine F.ok sc_Ladder_order (fun vs H Q E h => ?len) (fun cdv A outer s H vs Q E hr h => ⟨_, PSs.nox (pss_cons (ps_set (i := 1) sc_Ladder_order.nd rfl (by first | exact Or.inl rfl | exact Or.inr rfl) (pe_listRg rfl (by rfl) T.n_list (prg_1 (by rfl) T.n_range (pe_fldK (K := K) (pv 0) rfl))))
 (pss_cons (ps_for PassesOwn.never rfl (pi_listK (K := K) (pe_fldK (K := K) (pv 0) rfl)) (pg_name (i := 2) sc_Ladder_order.nd rfl (by first | exact Or.inl rfl | exact Or.inr rfl))
 (pss_one (ps_asg (pe_tup (pa_cons (pe_ix (ix_listK (K := K)) (pv 1) (pe_op op_add (pv 2) pe_int) (fun _ _ => rfl)) (pa_cons (pe_ix (ix_listK (K := K)) (pv 1) (pv 2) (fun _ _ => rfl)) pa_nil))) (pg_tupK (K := K) (n := 2) rfl (pgs_cons (pg_sub (pv 1) (pv 2) set_list) (pgs_cons (pg_sub (pv 1) (pe_op op_add (pv 2) pe_int) set_list) pgs_nil))))))
 (pss_cons (ps_set (i := 3) sc_Ladder_order.nd rfl (by first | exact Or.inl rfl | exact Or.inr rfl) (pe_op op_rep (pe_lst (pa_cons pe_int pa_nil)) (pe_fldK (K := K) (pv 0) rfl)))
 (pss_cons (ps_for PassesOwn.never rfl (pi_range1 (by rfl) T.n_range (pa_cons (pe_fldK (K := K) (pv 0) rfl) pa_nil)) (pg_name (i := 2) sc_Ladder_order.nd rfl (by first | exact Or.inl rfl | exact Or.inr rfl))
 (pss_one (ps_asg (pv 2) (pg_sub (pv 3) (pe_ix (ix_listK (K := K)) (pv 1) (pv 2) (fun _ _ => rfl)) set_list))))
 (pss_one (ps_ret (pv 3))))))), ?body⟩)
  case len => obtain ⟨_, _, _, rfl, _⟩ := h; rfl
  case body =>
    obtain ⟨m, q, st, rfl, hL, ok, k⟩ := h
    have hn1 := ok.n1
    have hn2 := ok.n2
    walk_at "go"
    refine f_posts L hL.ob ?_
    refine w_rg ⟨by omega, by omega⟩ fun wp H1 n1 s1 h1 => ?_
    rw [rgV_nat] at h1
    walk_at "go"
    refine f_rungs L (s1 _ _ hL.ob) ?_
    refine w_rL (SqL.of (s1 _ _ hL.hr)) ?_
    refine ForL.run (nat st.rungs) (fun i σ H2 => (∃ v, σ = [some (.ref q.t), some (.ref wp), v, none]) ∧ Same H H2 ∧ ∃ ws, H2 wp = some (.lst (nat ws)) ∧ Wk st.n (st.rungs.take i) ws)
      ⟨⟨_, rfl⟩, s1, _, h1, Wk.nil _⟩ (fun i σ H2 _ h => SqL.of (h.2.1 _ _ hL.hr)) ?_ ?_
    · rintro i x _ H2 hi ⟨⟨v, rfl⟩, s2, ws, h2, hw⟩
      obtain ⟨r, er, rfl⟩ : ∃ r, st.rungs[i]? = some r ∧ x = V.int ((r : Nat) : Int) := by
        rw [List.getElem?_map] at hi
        cases e : st.rungs[i]? with
        | none => rw [e] at hi; cases hi
        | some r => rw [e] at hi; exact ⟨r, rfl, (Option.some.inj hi).symm⟩
      have hr1 : r + 1 < st.n := ok.rg r (List.mem_of_getElem? er)
      have hwl := hw.1
      obtain ⟨a, ea⟩ : ∃ a, ws[r]? = some a := ⟨_, List.getElem?_eq_getElem (by omega)⟩
      obtain ⟨b, eb⟩ : ∃ b, ws[r + 1]? = some b := ⟨_, List.getElem?_eq_getElem (by omega)⟩
      walk_at "go"
      refine w_ixL (SqL.of h2) (at_of (j := r + 1) (by omega) (get_nat eb)) ?_
      walk_at "go"
      refine w_ixL (SqL.of h2) (at_of (j := r) (by omega) (get_nat ea)) ?_
      walk_at "go"
      wrow_read tp H3 N3
      have h3 := N3.sm _ _ h2
      refine w_gtup (SqT.of N3.at_) rfl ?_
      walk_at "go"
      refine w_setL h3 (ixN_nat (j := r) rfl (by rw [List.length_map]; omega)) fun H4 b4 h4 => ?_
      walk_at "go"
      refine w_setL h4 (ixN_nat (j := r + 1) (by omega) (by rw [List.length_set, List.length_map]; omega)) fun H5 b5 h5 => ?_
      walk_at "go"
      rw [set_nat, set_nat] at h5
      refine ⟨⟨_, rfl⟩, But.same (But.same (s2.trans N3.sm) n1 b4) n1 b5, _, h5, ?_⟩
      have e : st.rungs.take (i + 1) = st.rungs.take i ++ [r] := by
        obtain ⟨hi2, rfl⟩ := List.getElem?_eq_some_iff.mp er
        exact List.take_succ_eq_append_getElem hi2
      rw [e]
      exact hw.snoc hr1 ea eb fun p hp => ok.rg p (List.mem_of_mem_take hp)
    · rintro _ H2 ⟨⟨v, rfl⟩, s2, ws, h2, hw⟩
      rw [List.length_map, List.take_length] at hw
      walk_at "go"
      wrow_read zp H3 N3
      walk_at "go"
      refine f_posts L (N3.sm _ _ (s2 _ _ hL.ob)) ?_
      refine w_rep N3.at_ (by omega) (by omega) (by simp; omega) fun ep H4 n4 s4 h4 => ?_
      rw [show ((st.n : Int)).toNat = st.n by omega, rep_nat] at h4
      have s24 := s2.trans (N3.sm.trans s4)
      have w4 := s4 _ _ (N3.sm _ _ h2)
      have e0 : H ep = none := s2.free (N3.sm.free n4)
      have we : wp ≠ ep := ne_of_none (N3.sm _ _ h2) n4
      walk_at "go"
      refine f_posts L (s24 _ _ hL.ob) ?_
      walk_at "go"
      rw [show ((st.n : Int)).toNat = st.n by omega]
      refine ForR.run (fun i σ H5 => (∃ v, σ = [some (.ref q.t), some (.ref wp), v, some (.ref ep)]) ∧ Same H H5 ∧ H5 wp = some (.lst (nat ws)) ∧ ∃ es : List Nat, H5 ep = some (.lst (nat es)) ∧ es.length = st.n ∧ ∀ s, s < st.n → run st.rungs s < i → es[s]? = some (run st.rungs s))
        ⟨⟨_, rfl⟩, s24, w4, _, h4, by simp, by omega⟩ ?_ ?_
      · rintro i _ H5 hi ⟨⟨v, rfl⟩, s5, w5, es, h5, he, hs⟩
        obtain ⟨s0, e1, l1, r1⟩ := hw.2.1 i hi
        walk_at "go"
        refine w_ixL (SqL.of w5) (at_of (j := i) (by omega) (get_nat e1)) ?_
        refine w_setL h5 (ixN_nat (j := s0) rfl (by rw [List.length_map]; omega)) fun H6 b6 h6 => ?_
        rw [show (0 : Int) + (i : Int) = ((i : Nat) : Int) by omega, set_nat] at h6
        refine ⟨⟨_, rfl⟩, But.same s5 e0 b6, b6 _ _ we w5, _, h6, by rw [List.length_set]; exact he, fun s hs1 hs2 => ?_⟩
        by_cases e : s = s0
        · subst e
          rw [List.getElem?_set_self (by omega), r1]
        · rw [List.getElem?_set_ne (fun q => e q.symm)]
          refine hs s hs1 ?_
          have : run st.rungs s ≠ i := fun q => e (by
            have q1 := hw.2.2 s hs1
            rw [q, e1] at q1
            exact (Option.some.inj q1).symm)
          omega
      · rintro _ H5 ⟨⟨v, rfl⟩, s5, w5, es, h5, he, hs⟩
        walk_at "go"
        refine k ep H5 e0 s5 ?_
        rw [h5]
        have : es = ordN st.n st.rungs := by
          refine List.ext_getElem? fun s => ?_
          by_cases h : s < st.n
          · rw [hs s h (run_lt ok.rg h)]
            unfold ordN
            rw [List.getElem?_map, List.getElem?_range h]
            rfl
          · rw [List.getElem?_eq_none (by omega), List.getElem?_eq_none (by rw [ordN_len]; omega)]
        rw [this]

end
end Rg

set_option Elab.async false
set_option linter.all false
set_option maxRecDepth 100000
set_option maxHeartbeats 4000000
namespace Rg
open PySem L2
local macro_rules | `(tactic| wrow_read $p $h $n) => `(tactic| (refine ⟨sizes ?c, fun $p hp => ?_⟩; (case c => (first | exact Nat.le_of_ble_eq_true rfl | omega | (simp; omega))); generalize hg : upd _ $p _ = $h; have $n := New.of hp hg; clear hg hp))
local macro_rules | `(tactic| wrow_readAll $p $h $n) => `(tactic| (refine fun $p hp => ?_; generalize hg : upd _ $p _ = $h; have $n := New.of hp hg; clear hg hp))
local macro_rules | `(tactic| walk_at "kk") => `(tactic| dsimp only [cxK, noxK, blkK, trK, suK, L2.start, List.map_cons, List.map_nil, List.length_cons, List.length_nil, List.replicate, List.cons_append, List.nil_append, Nat.reduceAdd, Nat.reduceSub, List.append_nil])
local macro_rules | `(tactic| walk_at "ff") => `(tactic| first | assumption | (refine SqL.of ?_; walk_at "ff") | (refine SqT.of ?_; walk_at "ff") | (refine New.at_ (by assumption)) | (refine Same.at (by assumption) ?_; walk_at "ff") | (refine Same.at (New.sm (by assumption)) ?_; walk_at "ff") | (refine Same.seq (by assumption) ?_; walk_at "ff") | (refine Same.seqT (by assumption) ?_; walk_at "ff"))
local macro_rules | `(tactic| walk_at "sd") => `(tactic| first | decide | omega | assumption | exact Or.inl ⟨by decide, by decide⟩ | exact Or.inr ⟨by decide, by decide⟩ | exact ⟨by decide, by decide⟩ | exact ⟨by decide, by decide, by decide⟩ | exact Or.inl ⟨by omega, by omega⟩ | exact Or.inr ⟨by omega, by omega⟩ | exact ⟨by omega, by omega⟩ | exact ⟨by omega, by omega, by omega, by omega⟩)
local macro_rules | `(tactic| walk_at "g1") => `(tactic| first | ((with_reducible refine w_r1 ?c ?_); case c => ((try simp only [List.length_map]); walk_at "sd")) | ((with_reducible refine w_r2 ?c ?_); case c => ((try simp only [List.length_map]); walk_at "sd")) | (with_reducible first | refine w_seq ?_ | refine w_asg ?_ | refine w_sfld ?_ | refine w_make ?_ | refine w_methK ?_ | refine w_forS ?_ | refine w_m1 ?_ | refine w_isS ?_ | refine w_cnt ?_ | refine w_strE ?_ | refine w_makeK ?_ | refine w_inst ?_ | refine w_instK ?_ | refine w_prop ?_ | refine w_xf ?_ | refine w_rfl ?_ | refine w_ret ?_ | refine w_drop ?_ | refine w_next ?_ | refine w_if ?_ | refine w_var rfl ?_ | refine w_c ?_ | refine w_op ?_ | refine w_I0 ?_ | refine w_test ?_ | refine w_bl ?_ | refine w_cons ?_ | refine w_nil ?_ | refine w_cb ?_ | refine w_callS ?_ | refine w_un ?_ | refine w_U ?_ | refine w_eq rfl ?_ | refine w_ne rfl ?_ | refine w_not ?_ | refine w_and ?_ | refine w_or ?_ | refine w_B ?_ | refine w_sl ?_ | refine w_noPart ?_ | refine w_part ?_ | refine w_int ?_ | refine w_lst ?_ | refine w_tup ?_ | refine w_asgG ?_ | refine w_ifE ?_ | refine w_andV ?_ | refine w_orV ?_ | refine w_notV ?_ | refine w_meth ?_ | refine w_fld ?_ | refine w_brk ?_ | refine w_cont ?_ | refine w_retN ?_ | refine w_int1 ?_ | refine w_2i ?_ | refine w_1i ?_ | refine w_bm ?_ | refine w_bm0 ?_ | refine w_gsub ?_ | refine w_gcons ?_ | refine w_gnil ?_ | refine w_gname ?_ | refine w_forR1 ?_ | refine w_forR2 ?_ | refine w_forL ?_ | refine w_forT ?_ | refine w_listRg1 ?_ | refine w_lcR1 ?_ | refine w_lcR2 ?_ | refine w_lcL ?_ | refine w_yes ?_ | refine w_chain ?_ | refine w_mkoU ?_ | refine w_mko ?_ | refine w_sign ?_ | refine w_dash ?_) | ((with_reducible refine w_I ?c ?_); case c => walk_at "sd") | ((with_reducible refine w_lenL (xs := ?x) ?c ?_); case c => walk_at "ff") | ((with_reducible refine w_ixL (xs := ?x) (v := ?v) ?c ?e ?_); (case c => walk_at "ff"); (case e => with_reducible rfl)) | ((with_reducible refine w_rL (xs := ?x) ?c ?_); case c => walk_at "ff"))
local macro_rules | `(tactic| walk_at "go") => `(tactic| repeat walk_at "g1")
section
variable {P : Program} {w : World} {K : PySem.W.Frag} {mg : Str → Option Value} {base : Heap}
/-! begin_row -/
def dashes (z : List Nat) : List Nat := (List.range z.length).filter (dash z)
def LSt.add (st : LSt) (z : List Nat) : LSt := ⟨st.n, st.lines ++ [z], st.rungs ++ dashes z, st.deeds ++ [((dashes z).length : Int)]⟩
theorem eq_dash {c : Nat} : decide (V.str ⟨#[c]⟩ = V.str (Str.ofString "-")) = decide (c = 45) := by
  rw [str_dash]
  by_cases h : c = 45
  · subst h; simp
  · rw [decide_eq_false h]
    refine decide_eq_false fun q => h ?_
    have := V.str.inj q
    simpa using this
theorem dashes_len {z : List Nat} : (dashes z).length ≤ z.length := by
  unfold dashes
  exact Nat.le_trans (List.length_filter_le _ _) (by rw [List.length_range]; exact Nat.le_refl _)
def sp_Ladder_begin_row (K : PySem.W.Frag) (C : Addr) : Sp := fun vs H Q E => ∃ (m : Option Addr) (q : LQ) (st : LSt) (z : List Nat), vs = [.ref q.t, .str (S z)] ∧ LadAt K C m H q st ∧ LOk st ∧ z.length = st.n - 1 ∧
  ∀ H', LadAt K C m H' q (st.add z) → Frm q H H' → Q .non H'
theorem sc_Ladder_begin_row : FnScope ["self", "text", "found", "post"] ["self", "text"] (defScope s_Ladder_begin_row) := ⟨rfl, rfl, rfl, by decide +kernel, rfl, by decide +kernel, by decide +kernel⟩
theorem fok_Ladder_begin_row (T : Tx K mg) {C : Addr} (L : LC K C) {fd : FuncData} (F : FunD K "begin_row" "Ladder.begin_row" (defArgs s_Ladder_begin_row) (defBody s_Ladder_begin_row) (defScope s_Ladder_begin_row) [] [] (He.fAd K ("Ladder", some "begin_row")) fd) : FnOk P w K mg base CX0 4 (He.fAd K ("Ladder", some "begin_row")) fd ["self", "text"] (sp_Ladder_begin_row K C) := by
  refine F.ok sc_Ladder_begin_row (fun vs H Q E h => ?len) (fun cdv A outer s H vs Q E hr h => ⟨_, PSs.nox (pss_cons (ps_setLc (i := 2) (own := [("post", 3)]) rfl sc_Ladder_begin_row.nd rfl rfl (sw_true rfl rfl rfl (by decide +kernel)) (pi_range1 (by rfl) T.n_range (pa_cons (pe_callB call_len_str (by rfl) T.n_len (by decide +kernel) (pa_cons (pv 1) pa_nil)) pa_nil)) (blkOk_by (own := [("post", 3)]) (N := ["self", "text", "found", "post"]) (sc := defScope s_Ladder_begin_row) (by decide +kernel)) (fun _ _ _ _ _ => (pg_name (i := 3) sc_Ladder_begin_row.nd rfl (by first | exact Or.inl rfl | exact Or.inr rfl))) (fun _ _ _ _ _ => pts_one (pt_cmpR op_eq (pe_ix ix_str (pv 1) (pv 3) (fun _ _ => rfl)) pe_str (nomark _))) (fun _ _ _ _ _ => (pv 3)))
 (pss_cons (ps_expr (pe_bmK (K := K) PySem.F.plainAttrs_list PySem.F.slot_list_append PySem.F.type_list_append mt_append (pe_fldK (K := K) (pv 0) rfl) (pa_cons (pv 1) pa_nil)))
 (pss_cons (ps_expr (pe_bmK (K := K) PySem.F.plainAttrs_list PySem.F.slot_list_extend PySem.F.type_list_extend mt_extend (pe_fldK (K := K) (pv 0) rfl) (pa_cons (pv 2) pa_nil)))
 (pss_one (ps_expr (pe_bmK (K := K) PySem.F.plainAttrs_list PySem.F.slot_list_append PySem.F.type_list_append mt_append (pe_fldK (K := K) (pv 0) rfl) (pa_cons (pe_callB (call_len_seqK (K := K)) (by rfl) T.n_len (by decide +kernel) (pa_cons (pv 2) pa_nil)) pa_nil))))))), ?body⟩)
  case len => obtain ⟨_, _, _, _, rfl, _⟩ := h; rfl
  case body =>
    obtain ⟨m, q, st, z, rfl, hL, ok, hz, k⟩ := h
    have hn2 := ok.n2
    have hzl : (S z).length ≤ sizeLine := sizes (by rw [S_len]; omega)
    obtain ⟨tl, tr, td⟩ := tl_ne hL
    walk_at "go"
    refine w_lenS hzl ?_
    walk_at "go"
    refine ⟨by rw [S_len]; omega, by rw [S_len]; omega, ?_⟩
    rw [show ((S z).length : Int).toNat = z.length by rw [S_len]; omega]
    refine LcR.filterV (dash z) (fun (i : Nat) => V.int (i : Int)) (by omega) (fun i H2 kk hi s2 q2 => ?_) (fun i H2 kk hi hb s2 q2 => ?_) (fun D H2 nD s2 h2 => ?_)
    · have e1 : z[i]? = some z[i] := List.getElem?_eq_getElem hi
      walk_at "go"
      refine w_ixS hzl (at_of' (j := i) (by omega) (by rw [S_list]; exact e1)) ?_
      walk_at "go"
      rw [eq_dash]
      have := q2 H2 (Same.refl _)
      unfold dash at this
      rw [e1] at this
      simpa using this
    · walk_at "go"
      rw [Int.zero_add]
      exact q2 H2 (Same.refl _)
    · have hD : H2 D = some (.lst (nat (dashes z))) := h2
      have nDl : D ≠ q.l := fun e => by rw [e, hL.hl] at nD; cases nD
      have nDr : D ≠ q.r := fun e => by rw [e, hL.hr] at nD; cases nD
      have nDd : D ≠ q.d := fun e => by rw [e, hL.hd] at nD; cases nD
      have nDt : D ≠ q.t := fun e => by rw [e, hL.ob] at nD; cases nD
      have L2 := hL.same s2
      walk_at "go"
      refine f_lines L L2.ob ?_
      refine w_tyL L2.hl ?_
      walk_at "go"
      refine w_app L2.hl (by rw [List.length_map]; have := ok.sl; omega) fun H3 b3 h3 => ?_
      have o3 := b3 _ _ tl L2.ob
      have r3 := b3 _ _ hL.lr.symm L2.hr
      have d3 := b3 _ _ hL.ld.symm L2.hd
      have D3 := b3 _ _ nDl hD
      walk_at "go"
      refine f_rungs L o3 ?_
      refine w_tyL r3 ?_
      walk_at "go"
      refine w_ext r3 D3 (by rw [List.length_map, List.length_map]; have := ok.sr; have := @dashes_len z; omega) fun H4 b4 h4 => ?_
      have o4 := b4 _ _ tr o3
      have l4 := b4 _ _ hL.lr h3
      have d4 := b4 _ _ hL.rd.symm d3
      have D4 := b4 _ _ nDr D3
      walk_at "go"
      refine f_deeds L o4 ?_
      refine w_tyL d4 ?_
      walk_at "go"
      refine w_app d4 (by rw [List.length_map]; have := ok.sd; omega) fun H5 b5 h5 => ?_
      refine k H5 ⟨b5 _ _ td o4, ?_, ?_, ?_, hL.lr, hL.ld, hL.rd⟩ (fun b o n1 n2 n3 n4 e => b5 _ _ n4 (b4 _ _ n3 (b3 _ _ n2 (s2 _ _ e))))
      · rw [b5 _ _ hL.ld l4]
        simp [LSt.add, txt]
      · rw [b5 _ _ hL.rd h4]
        simp [LSt.add, nat]
      · rw [h5]
        simp [LSt.add]
theorem met_check_post (T : Tx K mg) {C : Addr} (L : LC K C) : MetS P w K mg base (L2.CX P w) 4 C "check_post" (sp_Ladder_check_post K C) := by
  obtain ⟨fd, F⟩ := T.d_Ladder_check_post
  exact ⟨_, fd, ["self", "post"], L.cls, L.m1, fok_Ladder_check_post T L F, (F.bindsN fun _ _ _ _ _ _ us hl => match us, hl with | [_, _], _ => rfl)⟩
theorem met_set_rung (T : Tx K mg) {C : Addr} (L : LC K C) : MetS P w K mg base CX0 4 C "set_rung" (sp_Ladder_set_rung K C) := by
  obtain ⟨fd, F⟩ := T.d_Ladder_set_rung
  exact ⟨_, fd, ["self", "post"], L.cls, L.m2, fok_Ladder_set_rung T L F, (F.bindsN fun _ _ _ _ _ _ us hl => match us, hl with | [_, _], _ => rfl)⟩
theorem met_begin_row (T : Tx K mg) {C : Addr} (L : LC K C) : MetS P w K mg base CX0 4 C "begin_row" (sp_Ladder_begin_row K C) := by
  obtain ⟨fd, F⟩ := T.d_Ladder_begin_row
  exact ⟨_, fd, ["self", "text"], L.cls, L.m3, fok_Ladder_begin_row T L F, (F.bindsN fun _ _ _ _ _ _ us hl => match us, hl with | [_, _], _ => rfl)⟩
theorem met_order (T : Tx K mg) {C : Addr} (L : LC K C) : MetS P w K mg base CX0 1 C "order" (sp_Ladder_order K C) := by
  obtain ⟨fd, F⟩ := T.d_Ladder_order
  exact ⟨_, fd, ["self"], L.cls, L.m4, fok_Ladder_order T L F, (F.bindsN fun _ _ _ _ _ _ us hl => match us, hl with | [_], _ => rfl)⟩

end
end Rg

set_option Elab.async false
set_option linter.all false
set_option maxRecDepth 100000
set_option maxHeartbeats 4000000
namespace Rg
open PySem L2
local macro_rules | `(tactic| wrow_read $p $h $n) => `(tactic| (refine ⟨sizes ?c, fun $p hp => ?_⟩; (case c => (first | exact Nat.le_of_ble_eq_true rfl | omega | (simp; omega))); generalize hg : upd _ $p _ = $h; have $n := New.of hp hg; clear hg hp))
local macro_rules | `(tactic| wrow_readAll $p $h $n) => `(tactic| (refine fun $p hp => ?_; generalize hg : upd _ $p _ = $h; have $n := New.of hp hg; clear hg hp))
local macro_rules | `(tactic| walk_at "kk") => `(tactic| dsimp only [cxK, noxK, blkK, trK, suK, L2.start, List.map_cons, List.map_nil, List.length_cons, List.length_nil, List.replicate, List.cons_append, List.nil_append, Nat.reduceAdd, Nat.reduceSub, List.append_nil])
local macro_rules | `(tactic| walk_at "ff") => `(tactic| first | assumption | (refine SqL.of ?_; walk_at "ff") | (refine SqT.of ?_; walk_at "ff") | (refine New.at_ (by assumption)) | (refine Same.at (by assumption) ?_; walk_at "ff") | (refine Same.at (New.sm (by assumption)) ?_; walk_at "ff") | (refine Same.seq (by assumption) ?_; walk_at "ff") | (refine Same.seqT (by assumption) ?_; walk_at "ff"))
local macro_rules | `(tactic| walk_at "sd") => `(tactic| first | decide | omega | assumption | exact Or.inl ⟨by decide, by decide⟩ | exact Or.inr ⟨by decide, by decide⟩ | exact ⟨by decide, by decide⟩ | exact ⟨by decide, by decide, by decide⟩ | exact Or.inl ⟨by omega, by omega⟩ | exact Or.inr ⟨by omega, by omega⟩ | exact ⟨by omega, by omega⟩ | exact ⟨by omega, by omega, by omega, by omega⟩)
local macro_rules | `(tactic| walk_at "g1") => `(tactic| first | ((with_reducible refine w_r1 ?c ?_); case c => ((try simp only [List.length_map]); walk_at "sd")) | ((with_reducible refine w_r2 ?c ?_); case c => ((try simp only [List.length_map]); walk_at "sd")) | (with_reducible first | refine w_seq ?_ | refine w_asg ?_ | refine w_sfld ?_ | refine w_make ?_ | refine w_methK ?_ | refine w_forS ?_ | refine w_m1 ?_ | refine w_isS ?_ | refine w_cnt ?_ | refine w_strE ?_ | refine w_makeK ?_ | refine w_inst ?_ | refine w_instK ?_ | refine w_prop ?_ | refine w_xf ?_ | refine w_rfl ?_ | refine w_ret ?_ | refine w_drop ?_ | refine w_next ?_ | refine w_if ?_ | refine w_var rfl ?_ | refine w_c ?_ | refine w_op ?_ | refine w_I0 ?_ | refine w_test ?_ | refine w_bl ?_ | refine w_cons ?_ | refine w_nil ?_ | refine w_cb ?_ | refine w_callS ?_ | refine w_un ?_ | refine w_U ?_ | refine w_eq rfl ?_ | refine w_ne rfl ?_ | refine w_not ?_ | refine w_and ?_ | refine w_or ?_ | refine w_B ?_ | refine w_sl ?_ | refine w_noPart ?_ | refine w_part ?_ | refine w_int ?_ | refine w_lst ?_ | refine w_tup ?_ | refine w_asgG ?_ | refine w_ifE ?_ | refine w_andV ?_ | refine w_orV ?_ | refine w_notV ?_ | refine w_meth ?_ | refine w_fld ?_ | refine w_brk ?_ | refine w_cont ?_ | refine w_retN ?_ | refine w_int1 ?_ | refine w_2i ?_ | refine w_1i ?_ | refine w_bm ?_ | refine w_bm0 ?_ | refine w_gsub ?_ | refine w_gcons ?_ | refine w_gnil ?_ | refine w_gname ?_ | refine w_forR1 ?_ | refine w_forR2 ?_ | refine w_forL ?_ | refine w_forT ?_ | refine w_listRg1 ?_ | refine w_lcR1 ?_ | refine w_lcR2 ?_ | refine w_lcL ?_ | refine w_yes ?_ | refine w_chain ?_ | refine w_mkoU ?_ | refine w_mko ?_ | refine w_sign ?_ | refine w_dash ?_) | ((with_reducible refine w_I ?c ?_); case c => walk_at "sd") | ((with_reducible refine w_lenL (xs := ?x) ?c ?_); case c => walk_at "ff") | ((with_reducible refine w_ixL (xs := ?x) (v := ?v) ?c ?e ?_); (case c => walk_at "ff"); (case e => with_reducible rfl)) | ((with_reducible refine w_rL (xs := ?x) ?c ?_); case c => walk_at "ff"))
local macro_rules | `(tactic| walk_at "go") => `(tactic| repeat walk_at "g1")
section
variable {P : Program} {w : World} {K : PySem.W.Frag} {mg : Str → Option Value} {base : Heap}
/-! texts -/
theorem sub_one {z : List Nat} {i c : Nat} (h : i < z.length) : Builtin.Str.subAt (S z) (S [c]) i = decide (z[i]? = some c) := by
  rw [StrLaws.subAt_eq, S_list, S_list, S_len]
  rw [List.getElem?_eq_getElem h, List.drop_eq_getElem_cons h]
  show ([z[i]] == [c]) = _
  rw [Bool.eq_iff_iff, beq_iff_eq, decide_eq_true_iff, List.singleton_inj, Option.some.injEq]
theorem occ_run {z : List Nat} {c lim : Nat} (hl : z.length < lim) : ∀ (m k : Nat) (arr : Array Nat) (fr : Nat), k + m = z.length + 1 → fr ≤ k → arr.size ≤ k →
    (forIn (m := Id) (List.range' k m) (arr, fr) (StrLaws.occBody (S z) (S [c]) (S z).length lim)).run.fst.toList = arr.toList ++ (List.range' k m).filter fun i => decide (z[i]? = some c)
  | 0, k, arr, fr, _, _, _ => by simp
  | m + 1, k, arr, fr, h1, h2, h3 => by
    rw [List.range'_succ, List.forIn_cons, List.filter_cons]
    by_cases hk : k < z.length
    · by_cases hd : z[k]? = some c
      · have hi : (((arr.size < lim ∧ fr ≤ k) ∧ k + (S [c]).length ≤ (S z).length) ∧ Builtin.Str.subAt (S z) (S [c]) k = true) := by
          refine ⟨⟨⟨by omega, h2⟩, by rw [S_len, S_len]; simp; omega⟩, ?_⟩
          rw [sub_one hk]
          exact decide_eq_true hd
        simp only [StrLaws.occBody, if_pos hi]
        have := occ_run (c := c) hl m (k + 1) (arr.push k) (k + (S [c]).length) (by omega) (by rw [S_len]; simp) (by simp; omega)
        rw [if_pos (decide_eq_true hd)]
        refine this.trans ?_
        simp
      · have hi : ¬ (((arr.size < lim ∧ fr ≤ k) ∧ k + (S [c]).length ≤ (S z).length) ∧ Builtin.Str.subAt (S z) (S [c]) k = true) := fun q => by
          rw [sub_one hk] at q
          exact hd (of_decide_eq_true q.2)
        simp only [StrLaws.occBody, if_neg hi]
        have := occ_run (c := c) hl m (k + 1) arr fr (by omega) (by omega) (by omega)
        rw [if_neg (by simp [hd])]
        exact this
    · have hi : ¬ (((arr.size < lim ∧ fr ≤ k) ∧ k + (S [c]).length ≤ (S z).length) ∧ Builtin.Str.subAt (S z) (S [c]) k = true) := fun q => by
        have := q.1.2
        rw [S_len, S_len] at this
        simp at this
        omega
      simp only [StrLaws.occBody, if_neg hi]
      have := occ_run (c := c) hl m (k + 1) arr fr (by omega) (by omega) (by omega)
      rw [if_neg (by rw [List.getElem?_eq_none (by omega)]; simp)]
      exact this
theorem occ_one (z : List Nat) (c : Nat) : Builtin.Str.occurrences (S z) (S [c]) 0 (S z).length ((S z).length + 1) = (List.range z.length).filter fun i => decide (z[i]? = some c) := by
  rw [StrLaws.occ_eq]
  have := occ_run (c := c) (z := z) (lim := (S z).length + 1) (by rw [S_len]; omega) (z.length + 1) 0 #[] 0 (by omega) (Nat.le_refl _) (Nat.le_refl _)
  rw [show (S z).length + 1 - 0 = z.length + 1 by rw [S_len]; rfl]
  refine this.trans ?_
  rw [← List.range_eq_range', List.range_succ, List.filter_append]
  simp
theorem count_dash (z : List Nat) : Txt.count (S z) (Str.ofString "-") = ((dashes z).length : Int) := by
  rw [str_dash]
  unfold Txt.count
  show ((Builtin.Str.occurrences (S z) (S [45]) 0 (S z).length ((S z).length + 1)).length : Int) = _
  rw [occ_one]
  rfl
/-- two strokes side by side -/
def DD (z : List Nat) : Prop := ∃ i, z[i]? = some 45 ∧ z[i + 1]? = some 45
theorem sub_two {z : List Nat} {i : Nat} : Builtin.Str.subAt (S z) (Str.ofString "--") i = true ↔ (z[i]? = some 45 ∧ z[i + 1]? = some 45) := by
  have e : Str.ofString "--" = S [45, 45] := by decide +kernel
  rw [e, StrLaws.subAt_eq, S_list, S_list, S_len]
  rw [beq_iff_eq]
  constructor
  · intro h
    have h0 := congrArg (fun l => l[0]?) h
    have h1 := congrArg (fun l => l[1]?) h
    simp [List.getElem?_take, List.getElem?_drop] at h0 h1
    exact ⟨h0, h1⟩
  · rintro ⟨h0, h1⟩
    refine List.ext_getElem? fun j => ?_
    match j with
    | 0 => simpa [List.getElem?_take, List.getElem?_drop] using h0
    | 1 => simpa [List.getElem?_take, List.getElem?_drop] using h1
    | j + 2 => rw [List.getElem?_eq_none (by rw [List.length_take]; simp; omega)]; rfl
theorem dd_in (z : List Nat) : (!(Builtin.Str.occurrences (S z) (Str.ofString "--") 0 (S z).length 1).isEmpty) = true ↔ DD z := by
  rw [StrLaws.found_iff]
  have e : (Str.ofString "--").length = 2 := by decide +kernel
  constructor
  · rintro ⟨i, _, h⟩
    exact ⟨i, sub_two.mp h⟩
  · rintro ⟨i, h0, h1⟩
    refine ⟨i, ?_, sub_two.mpr ⟨h0, h1⟩⟩
    rcases Nat.lt_or_ge (i + 1) z.length with q | q
    · rw [e, S_len]; omega
    · rw [List.getElem?_eq_none q] at h1; cases h1

/-! the call -/
def sp_Ladder___call (K : PySem.W.Frag) (C : Addr) : Sp := fun vs H Q E => ∃ (m : Option Addr) (q : LQ) (st : LSt) (p : Int) (ls : List (List Nat)) (z : List Nat), vs = [.ref q.t, .int p] ∧ LadAt K C m H q st ∧ LOk st ∧ st.rungs.length < 9000 ∧ st.deeds.length < 900 ∧ st.lines = ls ++ [z] ∧
  (¬ (0 ≤ p ∧ p < st.n - 1) → Err K E "InvalidPost" (.int p) H) ∧
  (0 ≤ p → p < st.n - 1 → ∀ s, taken z p.toNat = some s → Err K E "Taken" (.int s) H) ∧
  (0 ≤ p → p < st.n - 1 → taken z p.toNat = none → ∀ H' pa, LadAt K C m H' q (st.set p.toNat) → Frm q H H' → H pa = none → H' pa = some (.lst (nat (ordN st.n (st.rungs ++ [p.toNat])))) → Q (.ref pa) H')
theorem no_meth {n : Int} {l r d : Addr} {m : Option Addr} {x : Str} (h : (x == ("posts" : Str)) = false ∧ (x == ("lines" : Str)) = false ∧ (x == ("rungs" : Str)) = false ∧ (x == ("deeds" : Str)) = false ∧ (x == ("model" : Str)) = false) : List.lookup x (fLad n l r d m) = none := by
  obtain ⟨h1, h2, h3, h4, h5⟩ := h
  unfold fLad
  cases m <;> simp [List.lookup, h1, h2, h3, h4, h5]
theorem f_meth {H : Hp} {t C dx : Addr} {fs : List (Str × V)} {m : Str} {R : Prop} (h : H t = some (.ins C dx fs)) (l : List.lookup m fs = none) (q : R) : ∃ a dx fs, V.ref t = V.ref a ∧ H a = some (.ins C dx fs) ∧ List.lookup m fs = none ∧ R := ⟨t, dx, fs, rfl, h, l, q⟩
theorem set_ok {st : LSt} {p : Nat} (ok : LOk st) (hp : p + 1 < st.n) (h1 : st.rungs.length < 10000) (h2 : st.deeds.length < 1000) : LOk (st.set p) := by
  obtain ⟨ls, z, hz⟩ : ∃ ls z, st.lines = ls ++ [z] := ⟨st.lines.dropLast, st.lines.getLast ok.ne, (List.dropLast_concat_getLast ok.ne).symm⟩
  have hzl : z.length = st.n - 1 := ok.w z (by rw [hz]; simp)
  refine ⟨ok.n1, ok.n2, ?_, ?_, ?_, ?_, ?_, ?_⟩
  · simp [LSt.set, setLast]
  · intro l hl
    simp only [LSt.set] at hl ⊢
    rw [hz, setLast_eq] at hl
    rcases List.mem_append.mp hl with h | h
    · exact ok.w l (by rw [hz]; exact List.mem_append_left _ h)
    · rw [List.mem_singleton.mp h, List.length_set, hzl]
  · intro r hr
    simp only [LSt.set] at hr ⊢
    rcases List.mem_append.mp hr with h | h
    · exact ok.rg r h
    · rw [List.mem_singleton.mp h]; exact hp
  · simp only [LSt.set]
    rw [hz, setLast_eq, List.length_append]
    have := ok.sl
    rw [hz, List.length_append] at this
    exact this
  · simp only [LSt.set, List.length_append, List.length_singleton]
    omega
  · simp only [LSt.set, List.length_append, List.length_singleton]
    omega
theorem sc_Ladder___call : FnScope ["self", "post"] ["self", "post"] (defScope s_Ladder___call) := ⟨rfl, rfl, rfl, by decide +kernel, rfl, by decide +kernel, by decide +kernel⟩
theorem fok_Ladder___call (T : Tx K mg) {C : Addr} (L : LC K C) {fd : FuncData} (F : FunD K "__call__" "Ladder.__call__" (defArgs s_Ladder___call) (defBody s_Ladder___call) (defScope s_Ladder___call) [] [] (He.fAd K ("Ladder", some "__call__")) fd) : FnOk P w K mg base (L2.CX P w) 5 (He.fAd K ("Ladder", some "__call__")) fd ["self", "post"] (sp_Ladder___call K C) := by
  refine F.ok sc_Ladder___call (fun vs H Q E h => ?len) (fun cdv A outer s H vs Q E hr h => ⟨_, (pss_cons (ps_expr (pe_ms (met_check_post (K := K) T L) hr (by omega) (fun _ => paE (takes_of rfl rfl rfl rfl)) (pv 0) (pa_cons (pv 1) pa_nil)))
 (pss_cons (ps_expr (pe_ms (met_set_rung (K := K) T L) hr (by omega) (fun _ => pa0) (pv 0) (pa_cons (pv 1) pa_nil)))
 (pss_one (ps_ret (pe_ms0 (met_order (K := K) T L) hr (by omega) (fun _ => pa0) (pv 0)))))), ?body⟩)
  case len => obtain ⟨_, _, _, _, _, _, rfl, _⟩ := h; rfl
  case body =>
    obtain ⟨m, q, st, p, ls, z, rfl, hL, ok, hs1, hs2, hz, k1, k2, k3⟩ := h
    walk_at "go"
    refine f_meth hL.ob (no_meth (by decide +kernel)) ?_
    walk_at "go"
    refine ⟨m, q, st, p, ls, z, rfl, hL, ok, hz, k1, k2, fun h0 h1 ht H1 s1 => ?_⟩
    obtain ⟨p, rfl⟩ : ∃ p' : Nat, p = (p' : Int) := ⟨p.toNat, by omega⟩
    have L1 := hL.same s1
    have hp : p + 1 < st.n := by omega
    rw [Int.toNat_natCast] at ht
    have k3 := k3 h0 h1 (by rw [Int.toNat_natCast]; exact ht)
    rw [Int.toNat_natCast] at k3
    walk_at "go"
    refine f_meth L1.ob (no_meth (by decide +kernel)) ?_
    walk_at "go"
    refine ⟨m, q, st, p, rfl, L1, ok, hp, fun H2 L2 f2 => ?_⟩
    walk_at "go"
    refine f_meth L2.ob (no_meth (by decide +kernel)) ?_
    walk_at "go"
    refine ⟨m, q, st.set p, rfl, L2, set_ok ok hp (by omega) (by omega), fun pa H3 n3 s3 h3 => ?_⟩
    have f3 : Frm q H H3 := (Frm.of s1).trans (f2.trans (Frm.of s3))
    refine k3 H3 pa (L2.same s3) f3 ?_ h3
    have n2 := n3
    cases e : H pa with
    | none => rfl
    | some o =>
      have e1 := s1 _ _ e
      have a1 : pa ≠ q.t := fun z => by rw [z, L2.ob] at n2; cases n2
      have a2 : pa ≠ q.l := fun z => by rw [z, L2.hl] at n2; cases n2
      have a3 : pa ≠ q.r := fun z => by rw [z, L2.hr] at n2; cases n2
      have a4 : pa ≠ q.d := fun z => by rw [z, L2.hd] at n2; cases n2
      rw [f2 _ _ a1 a2 a3 a4 e1] at n2
      cases n2

theorem ins_Ladder (T : Tx K mg) : InsS P w K mg base (L2.CX P w) 5 (He.ga K "Ladder") (sp_Ladder___call K (He.ga K "Ladder")) := by
  obtain ⟨fd, F⟩ := T.d_Ladder___call
  exact ⟨_, fd, ["self", "post"], T.co_Ladder, fok_Ladder___call T (lc_Ladder T) F, (F.bindsN fun _ _ _ _ _ _ us hl => match us, hl with | [_, _], _ => rfl)⟩
theorem insk_Ladder_post (T : Tx K mg) : InsK P w K mg base (L2.CX P w) 5 (He.ga K "Ladder") ["post"] (fun vs zs => vs ++ zs) (sp_Ladder___call K (He.ga K "Ladder")) := by
  obtain ⟨fd, F⟩ := T.d_Ladder___call
  exact ⟨_, fd, ["self", "post"], _, T.co_Ladder, fok_Ladder___call T (lc_Ladder T) F, (kbn_all F fun _ _ _ _ _ _ us ws h1 h2 => match us, ws, h1, h2 with | [_], [_], _, _ => rfl)⟩
/-! next_row, rows, len, the making -/
def row0 (n : Nat) : List Nat := List.replicate (n - 1) 46
theorem mul_dot (n : Int) : Txt.mul (Str.ofString ".") n = S (List.replicate n.toNat 46) := by
  rw [str_dot]
  unfold Txt.mul
  by_cases h : n < 1
  · rw [if_pos h, show n.toNat = 0 by omega]
    rfl
  · rw [if_neg h]
    obtain ⟨k, rfl⟩ : ∃ k : Nat, n = ((k + 1 : Nat) : Int) := ⟨n.toNat - 1, by omega⟩
    rw [Int.toNat_natCast]
    have fold : ∀ (k : Nat) (acc : Array Nat), (List.replicate k (#[46] : Array Nat)).foldl (· ++ ·) acc = acc ++ (List.replicate k 46).toArray := by
      intro k
      induction k with
      | zero => intro acc; simp
      | succ k ih =>
        intro acc
        rw [List.replicate_succ, List.foldl_cons, ih, List.replicate_succ]
        apply Array.ext'
        simp only [Array.toList_append, List.append_assoc]
        rfl
    by_cases h1 : (((k + 1 : Nat) : Int) == 1 || (⟨#[46]⟩ : Str).length == 0) = true
    · rw [if_pos h1]
      have : k = 0 := by
        rcases Bool.or_eq_true_iff.mp h1 with e | e
        · have := eq_of_beq e
          omega
        · cases e
      subst this
      rfl
    · rw [if_neg h1]
      show (⟨_⟩ : Str) = ⟨_⟩
      have e := fold (k + 1) #[]
      rw [show ((#[] : Array Nat) ++ (List.replicate (k + 1) 46).toArray) = (List.replicate (k + 1) 46).toArray by apply Array.ext'; simp] at e
      exact congrArg Str.mk e
def sp_Ladder_next_row (K : PySem.W.Frag) (C : Addr) : Sp := fun vs H Q E => ∃ (m : Option Addr) (q : LQ) (st : LSt), vs = [.ref q.t] ∧ LadAt K C m H q st ∧ LOk st ∧
  ∀ H', LadAt K C m H' q (st.add (row0 st.n)) → Frm q H H' → Q (.int ((st.lines.length : Int) + 1)) H'
theorem sc_Ladder_next_row : FnScope ["self"] ["self"] (defScope s_Ladder_next_row) := ⟨rfl, rfl, rfl, by decide +kernel, rfl, by decide +kernel, by decide +kernel⟩
theorem fok_Ladder_next_row (T : Tx K mg) {C : Addr} (L : LC K C) {fd : FuncData} (F : FunD K "next_row" "Ladder.next_row" (defArgs s_Ladder_next_row) (defBody s_Ladder_next_row) (defScope s_Ladder_next_row) [] [] (He.fAd K ("Ladder", some "next_row")) fd) : FnOk P w K mg base CX0 5 (He.fAd K ("Ladder", some "next_row")) fd ["self"] (sp_Ladder_next_row K C) := by
  refine F.ok sc_Ladder_next_row (fun vs H Q E h => ?len) (fun cdv A outer s H vs Q E hr h => ⟨_, PSs.nox (pss_cons (ps_expr (pe_ms (met_begin_row (K := K) T L) hr (by omega) (fun _ => pa0) (pv 0) (pa_cons (pe_op op_repS pe_str (pe_op op_sub (pe_fldK (K := K) (pv 0) rfl) pe_int)) pa_nil)))
 (pss_one (ps_ret (pe_callB (call_len_seqK (K := K)) (by rfl) T.n_len (by decide +kernel) (pa_cons (pe_fldK (K := K) (pv 0) rfl) pa_nil))))), ?body⟩)
  case len => obtain ⟨_, _, _, rfl, _⟩ := h; rfl
  case body =>
    obtain ⟨m, q, st, rfl, hL, ok, k⟩ := h
    have hn1 := ok.n1
    have hn2 := ok.n2
    walk_at "go"
    refine f_meth hL.ob (no_meth (by decide +kernel)) ?_
    walk_at "go"
    refine f_posts L hL.ob ?_
    walk_at "go"
    refine w_repS (by rw [str_dot]; decide) (by omega) (by omega) ?_
    rw [mul_dot, show ((st.n : Int) - 1).toNat = st.n - 1 by omega]
    walk_at "go"
    refine ⟨m, q, st, row0 st.n, rfl, hL, ok, by simp [row0], fun H1 L1 f1 => ?_⟩
    walk_at "go"
    refine f_lines L L1.ob ?_
    refine w_lenL (SqL.of L1.hl) ?_
    rw [show ((txt (st.add (row0 st.n)).lines).length : Int) = (st.lines.length : Int) + 1 by simp [LSt.add, txt]]
    exact k H1 L1 f1
theorem met_Ladder_next_row (T : Tx K mg) : MetS P w K mg base CX0 5 (He.ga K "Ladder") "next_row" (sp_Ladder_next_row K (He.ga K "Ladder")) := by
  obtain ⟨fd, F⟩ := T.d_Ladder_next_row
  exact ⟨_, fd, ["self"], T.cls_Ladder, T.me_Ladder_next_row, fok_Ladder_next_row T (lc_Ladder T) F, (F.bindsN fun _ _ _ _ _ _ us hl => match us, hl with | [_], _ => rfl)⟩
theorem met_Ladder_order (T : Tx K mg) : MetS P w K mg base CX0 1 (He.ga K "Ladder") "order" (sp_Ladder_order K (He.ga K "Ladder")) := by
  obtain ⟨fd, F⟩ := T.d_Ladder_order
  exact ⟨_, fd, ["self"], T.cls_Ladder, T.me_Ladder_order, fok_Ladder_order T (lc_Ladder T) F, (F.bindsN fun _ _ _ _ _ _ us hl => match us, hl with | [_], _ => rfl)⟩
def sp_Ladder_rows (K : PySem.W.Frag) (C : Addr) : Sp := fun vs H Q E => ∃ (m : Option Addr) (q : LQ) (st : LSt), vs = [.ref q.t] ∧ LadAt K C m H q st ∧
  ∀ p H', H p = none → Same H H' → H' p = some (.lst (txt st.lines)) → Q (.ref p) H'
theorem sc_Ladder_rows : FnScope ["self"] ["self"] (defScope s_Ladder_rows) := ⟨rfl, rfl, rfl, by decide +kernel, rfl, by decide +kernel, by decide +kernel⟩
theorem fok_Ladder_rows (T : Tx K mg) {C : Addr} (L : LC K C) {fd : FuncData} (F : FunD K "rows" "Ladder.rows" (defArgs s_Ladder_rows) (defBody s_Ladder_rows) (defScope s_Ladder_rows) [] [] (PropG K (He.ga K "Ladder") "rows") fd) : FnOk P w K mg base CX0 1 (PropG K (He.ga K "Ladder") "rows") fd ["self"] (sp_Ladder_rows K C) := by
  refine F.ok sc_Ladder_rows (fun vs H Q E h => ?len) (fun cdv A outer s H vs Q E hr h => ⟨_, PSs.nox (pss_one (ps_ret (pe_callTy (call_list_ofK (K := K)) (by rfl) T.n_list (by decide +kernel) (pa_cons (pe_fldK (K := K) (pv 0) rfl) pa_nil)))), ?body⟩)
  case len => obtain ⟨_, _, _, rfl, _⟩ := h; rfl
  case body =>
    obtain ⟨m, q, st, rfl, hL, k⟩ := h
    walk_at "go"
    refine f_lines L hL.ob ?_
    refine ⟨_, _, rfl, .inl (SqL.of hL.hl), ?_⟩
    exact w_new fun p H1 n1 s1 h1 => k p H1 n1 s1 h1
theorem prp_Ladder_rows (T : Tx K mg) : PrpS P w K mg base CX0 1 (He.ga K "Ladder") "rows" (sp_Ladder_rows K (He.ga K "Ladder")) := by
  obtain ⟨fd, F⟩ := T.d_Ladder_rows
  obtain ⟨p, hp⟩ := T.pr_Ladder_rows
  exact ⟨p, _, fd, ["self"], T.cls_Ladder, hp, fok_Ladder_rows T (lc_Ladder T) F, (F.bindsN fun _ _ _ _ _ _ us hl => match us, hl with | [_], _ => rfl)⟩
def sp_Ladder___len (K : PySem.W.Frag) (C : Addr) : Sp := fun vs H Q E => ∃ (m : Option Addr) (q : LQ) (st : LSt), vs = [.ref q.t] ∧ LadAt K C m H q st ∧ Q (.int (st.rungs.length : Int)) H
theorem sc_Ladder___len : FnScope ["self"] ["self"] (defScope s_Ladder___len) := ⟨rfl, rfl, rfl, by decide +kernel, rfl, by decide +kernel, by decide +kernel⟩
theorem fok_Ladder___len (T : Tx K mg) {C : Addr} (L : LC K C) {fd : FuncData} (F : FunD K "__len__" "Ladder.__len__" (defArgs s_Ladder___len) (defBody s_Ladder___len) (defScope s_Ladder___len) [] [] (He.fAd K ("Ladder", some "__len__")) fd) : FnOk P w K mg base CX0 1 (He.fAd K ("Ladder", some "__len__")) fd ["self"] (sp_Ladder___len K C) := by
  refine F.ok sc_Ladder___len (fun vs H Q E h => ?len) (fun cdv A outer s H vs Q E hr h => ⟨_, PSs.nox (pss_one (ps_ret (pe_callB (call_len_seqK (K := K)) (by rfl) T.n_len (by decide +kernel) (pa_cons (pe_fldK (K := K) (pv 0) rfl) pa_nil)))), ?body⟩)
  case len => obtain ⟨_, _, _, rfl, _⟩ := h; rfl
  case body =>
    obtain ⟨m, q, st, rfl, hL, k⟩ := h
    walk_at "go"
    refine f_rungs L hL.ob ?_
    refine w_lenL (SqL.of hL.hr) ?_
    rw [List.length_map]
    exact k
theorem len_Ladder (T : Tx K mg) : LenS P w K mg base CX0 1 (He.ga K "Ladder") (sp_Ladder___len K (He.ga K "Ladder")) := by
  obtain ⟨fd, F⟩ := T.d_Ladder___len
  exact ⟨_, fd, ["self"], T.sp_Ladder___len__.1, T.sp_Ladder___len__.2, fok_Ladder___len T (lc_Ladder T) F, (F.bindsN fun _ _ _ _ _ _ us hl => match us, hl with | [_], _ => rfl)⟩

end
end Rg

set_option Elab.async false
set_option linter.all false
set_option maxRecDepth 100000
set_option maxHeartbeats 4000000
namespace Rg
open PySem L2
local macro_rules | `(tactic| wrow_read $p $h $n) => `(tactic| (refine ⟨sizes ?c, fun $p hp => ?_⟩; (case c => (first | exact Nat.le_of_ble_eq_true rfl | omega | (simp; omega))); generalize hg : upd _ $p _ = $h; have $n := New.of hp hg; clear hg hp))
local macro_rules | `(tactic| wrow_readAll $p $h $n) => `(tactic| (refine fun $p hp => ?_; generalize hg : upd _ $p _ = $h; have $n := New.of hp hg; clear hg hp))
local macro_rules | `(tactic| walk_at "kk") => `(tactic| dsimp only [cxK, noxK, blkK, trK, suK, L2.start, List.map_cons, List.map_nil, List.length_cons, List.length_nil, List.replicate, List.cons_append, List.nil_append, Nat.reduceAdd, Nat.reduceSub, List.append_nil])
local macro_rules | `(tactic| walk_at "ff") => `(tactic| first | assumption | (refine SqL.of ?_; walk_at "ff") | (refine SqT.of ?_; walk_at "ff") | (refine New.at_ (by assumption)) | (refine Same.at (by assumption) ?_; walk_at "ff") | (refine Same.at (New.sm (by assumption)) ?_; walk_at "ff") | (refine Same.seq (by assumption) ?_; walk_at "ff") | (refine Same.seqT (by assumption) ?_; walk_at "ff"))
local macro_rules | `(tactic| walk_at "sd") => `(tactic| first | decide | omega | assumption | exact Or.inl ⟨by decide, by decide⟩ | exact Or.inr ⟨by decide, by decide⟩ | exact ⟨by decide, by decide⟩ | exact ⟨by decide, by decide, by decide⟩ | exact Or.inl ⟨by omega, by omega⟩ | exact Or.inr ⟨by omega, by omega⟩ | exact ⟨by omega, by omega⟩ | exact ⟨by omega, by omega, by omega, by omega⟩)
local macro_rules | `(tactic| walk_at "g1") => `(tactic| first | ((with_reducible refine w_r1 ?c ?_); case c => ((try simp only [List.length_map]); walk_at "sd")) | ((with_reducible refine w_r2 ?c ?_); case c => ((try simp only [List.length_map]); walk_at "sd")) | (with_reducible first | refine w_seq ?_ | refine w_asg ?_ | refine w_sfld ?_ | refine w_make ?_ | refine w_methK ?_ | refine w_forS ?_ | refine w_m1 ?_ | refine w_isS ?_ | refine w_cnt ?_ | refine w_strE ?_ | refine w_makeK ?_ | refine w_inst ?_ | refine w_instK ?_ | refine w_prop ?_ | refine w_xf ?_ | refine w_rfl ?_ | refine w_ret ?_ | refine w_drop ?_ | refine w_next ?_ | refine w_if ?_ | refine w_var rfl ?_ | refine w_c ?_ | refine w_op ?_ | refine w_I0 ?_ | refine w_test ?_ | refine w_bl ?_ | refine w_cons ?_ | refine w_nil ?_ | refine w_cb ?_ | refine w_callS ?_ | refine w_un ?_ | refine w_U ?_ | refine w_eq rfl ?_ | refine w_ne rfl ?_ | refine w_not ?_ | refine w_and ?_ | refine w_or ?_ | refine w_B ?_ | refine w_sl ?_ | refine w_noPart ?_ | refine w_part ?_ | refine w_int ?_ | refine w_lst ?_ | refine w_tup ?_ | refine w_asgG ?_ | refine w_ifE ?_ | refine w_andV ?_ | refine w_orV ?_ | refine w_notV ?_ | refine w_meth ?_ | refine w_fld ?_ | refine w_brk ?_ | refine w_cont ?_ | refine w_retN ?_ | refine w_int1 ?_ | refine w_2i ?_ | refine w_1i ?_ | refine w_bm ?_ | refine w_bm0 ?_ | refine w_gsub ?_ | refine w_gcons ?_ | refine w_gnil ?_ | refine w_gname ?_ | refine w_forR1 ?_ | refine w_forR2 ?_ | refine w_forL ?_ | refine w_forT ?_ | refine w_listRg1 ?_ | refine w_lcR1 ?_ | refine w_lcR2 ?_ | refine w_lcL ?_ | refine w_yes ?_ | refine w_chain ?_ | refine w_mkoU ?_ | refine w_mko ?_ | refine w_sign ?_ | refine w_dash ?_) | ((with_reducible refine w_I ?c ?_); case c => walk_at "sd") | ((with_reducible refine w_lenL (xs := ?x) ?c ?_); case c => walk_at "ff") | ((with_reducible refine w_ixL (xs := ?x) (v := ?v) ?c ?e ?_); (case c => walk_at "ff"); (case e => with_reducible rfl)) | ((with_reducible refine w_rL (xs := ?x) ?c ?_); case c => walk_at "ff"))
local macro_rules | `(tactic| walk_at "go") => `(tactic| repeat walk_at "g1")
section
variable {P : Program} {w : World} {K : PySem.W.Frag} {mg : Str → Option Value} {base : Heap}
/-! the making -/
def sp_Ladder___init (K : PySem.W.Frag) (C : Addr) : Sp := fun vs H Q E => ∃ (t dx : Addr) (n : Int), vs = [.ref t, .int n] ∧ H t = some (.ins C dx []) ∧
  (n < 1 → Err K E "InvalidSize" (.int n) H) ∧
  (1 ≤ n → n ≤ 1000 ∧ ∀ H' l r d, H l = none → H r = none → H d = none → (∀ b o, b ≠ t → H b = some o → H' b = some o) → LadAt K C none H' ⟨t, dx, l, r, d⟩ ⟨n.toNat, [row0 n.toNat], [], []⟩ → Q .non H')
theorem sc_Ladder___init : FnScope ["self", "n"] ["self", "n"] (defScope s_Ladder___init) := ⟨rfl, rfl, rfl, by decide +kernel, rfl, by decide +kernel, by decide +kernel⟩
theorem fok_Ladder___init (T : Tx K mg) {C : Addr} (L : LC K C) {fd : FuncData} (F : FunD K "__init__" "Ladder.__init__" (defArgs s_Ladder___init) (defBody s_Ladder___init) (defScope s_Ladder___init) [] [] (He.fAd K ("Ladder", some "__init__")) fd) : FnOk P w K mg base (L2.CX P w) 4 (He.fAd K ("Ladder", some "__init__")) fd ["self", "n"] (sp_Ladder___init K C) := by
  refine F.ok sc_Ladder___init (fun vs H Q E h => ?len) (fun cdv A outer s H vs Q E hr h => ⟨_, (pss_cons (ps_if (pt_cmpR op_lt (pv 1) pe_int (nomark _)) (pss_one (ps_raise rfl (takes_of rfl rfl rfl rfl) (pmk_os (exc_InvalidSize (K := K) T) hr (by omega) (by rfl) (pa_cons (pv 1) pa_nil)))) pss_nil)
 (pss_cons (ps_fldK (K := K) (pv 0) (pv 1) rfl)
 (pss_cons (ps_fldK (K := K) (pv 0) (pe_lst (pa_cons (pe_op op_repS pe_str (pe_op op_sub (pv 1) pe_int)) pa_nil)) rfl)
 (pss_cons (ps_fldK (K := K) (pv 0) (pe_lst pa_nil) rfl)
 (pss_one (ps_fldK (K := K) (pv 0) (pe_lst pa_nil) rfl)))))), ?body⟩)
  case len => obtain ⟨_, _, _, rfl, _⟩ := h; rfl
  case body =>
    obtain ⟨t, dx, n, rfl, ht, k1, k2⟩ := h
    walk_at "kk"
    walk_at "go"
    refine w_dec (fun h0 => ?_) (fun h0 => ?_)
    · walk_at "go"
      exact (k1 h0).new (Same.refl _)
    · obtain ⟨hn, k2⟩ := k2 (by omega)
      walk_at "go"
      refine w_setf ht L.cls L.np (by show 0 < 1000; decide) fun H1 b1 h1 => ?_
      walk_at "go"
      refine w_repS (by rw [str_dot]; decide) (by omega) (by omega) ?_
      rw [mul_dot]
      walk_at "go"
      wrow_read l H2 N2
      have tl : l ≠ t := fun e => by have := N2.no; rw [e, h1] at this; cases this
      have o2 := N2.sm _ _ h1
      walk_at "go"
      refine w_setf o2 L.cls L.nl (by show 1 < 1000; decide) fun H3 b3 h3 => ?_
      have l3 := b3 _ _ tl N2.at_
      walk_at "go"
      wrow_read r H4 N4
      have tr : r ≠ t := fun e => by have := N4.no; rw [e, h3] at this; cases this
      have lr : r ≠ l := fun e => by have := N4.no; rw [e, l3] at this; cases this
      have o4 := N4.sm _ _ h3
      walk_at "go"
      refine w_setf o4 L.cls L.nr (by show 2 < 1000; decide) fun H5 b5 h5 => ?_
      have l5 := b5 _ _ tl (N4.sm _ _ l3)
      have r5 := b5 _ _ tr N4.at_
      walk_at "go"
      wrow_read d H6 N6
      have td : d ≠ t := fun e => by have := N6.no; rw [e, h5] at this; cases this
      have ld : d ≠ l := fun e => by have := N6.no; rw [e, l5] at this; cases this
      have rd : d ≠ r := fun e => by have := N6.no; rw [e, r5] at this; cases this
      have o6 := N6.sm _ _ h5
      walk_at "go"
      refine w_setf o6 L.cls L.nd (by show 3 < 1000; decide) fun H7 b7 h7 => ?_
      have fr1 : ∀ b o, b ≠ t → H b = some o → H1 b = some o := fun b o nb e => b1 _ _ nb e
      have fr2 : ∀ b o, b ≠ t → H b = some o → H3 b = some o := fun b o nb e => b3 _ _ nb (N2.sm _ _ (fr1 b o nb e))
      have fr3 : ∀ b o, b ≠ t → H b = some o → H5 b = some o := fun b o nb e => b5 _ _ nb (N4.sm _ _ (fr2 b o nb e))
      have no : ∀ {b : Addr} {H' : Hp}, (∀ o, b ≠ t → H b = some o → H' b = some o) → b ≠ t → H' b = none → H b = none := fun {b} {H'} f nb e => by
        cases q : H b with
        | none => rfl
        | some o => rw [f o nb q] at e; cases e
      refine k2 H7 l r d (no (fr1 _) tl N2.no) (no (fr2 _) tr N4.no) (no (fr3 _) td N6.no) (fun b o nb e => b7 _ _ nb (N6.sm _ _ (fr3 b o nb e))) ⟨h7.trans ?_, ?_, ?_, ?_, lr.symm, ld.symm, rd.symm⟩
      · have e : ((n.toNat : Nat) : Int) = n := by omega
        show some (HO.ins C dx (("posts", V.int n) :: ("lines", V.ref l) :: ("rungs", V.ref r) :: ("deeds", V.ref d) :: [])) = some (HO.ins C dx (("posts", V.int ((n.toNat : Nat) : Int)) :: ("lines", V.ref l) :: ("rungs", V.ref r) :: ("deeds", V.ref d) :: []))
        rw [e]
      · have := b7 _ _ tl (N6.sm _ _ l5)
        rw [show (n - 1).toNat = n.toNat - 1 by omega] at this
        exact this
      · exact b7 _ _ tr (N6.sm _ _ r5)
      · exact b7 _ _ td N6.at_
theorem mak_Ladder (T : Tx K mg) : MakS P w K mg base (L2.CX P w) 4 "Ladder" (He.ga K "Ladder") (sp_Ladder___init K (He.ga K "Ladder")) := by
  obtain ⟨fd, F⟩ := T.d_Ladder___init
  exact ⟨_, fd, ["self", "n"], T.mk_Ladder, fok_Ladder___init T (lc_Ladder T) F, T.gC_Ladder, (F.bindsN fun _ _ _ _ _ _ us hl => match us, hl with | [_, _], _ => rfl)⟩
theorem makk_Ladder_n (T : Tx K mg) : MakK P w K mg base (L2.CX P w) 4 "Ladder" (He.ga K "Ladder") 0 ["n"] (fun vs zs => vs ++ zs) (sp_Ladder___init K (He.ga K "Ladder")) := by
  obtain ⟨fd, F⟩ := T.d_Ladder___init
  exact ⟨_, fd, ["self", "n"], _, T.mk_Ladder, fok_Ladder___init T (lc_Ladder T) F, T.gC_Ladder, (kbn_all F fun _ _ _ _ _ _ us ws h1 h2 => match us, ws, h1, h2 with | [_], [_], _, _ => rfl)⟩

end
end Rg

set_option Elab.async false
set_option linter.all false
set_option maxRecDepth 100000
set_option maxHeartbeats 4000000
namespace Rg
open PySem L2
local macro_rules | `(tactic| wrow_read $p $h $n) => `(tactic| (refine ⟨sizes ?c, fun $p hp => ?_⟩; (case c => (first | exact Nat.le_of_ble_eq_true rfl | omega | (simp; omega))); generalize hg : upd _ $p _ = $h; have $n := New.of hp hg; clear hg hp))
local macro_rules | `(tactic| wrow_readAll $p $h $n) => `(tactic| (refine fun $p hp => ?_; generalize hg : upd _ $p _ = $h; have $n := New.of hp hg; clear hg hp))
local macro_rules | `(tactic| walk_at "kk") => `(tactic| dsimp only [cxK, noxK, blkK, trK, suK, L2.start, List.map_cons, List.map_nil, List.length_cons, List.length_nil, List.replicate, List.cons_append, List.nil_append, Nat.reduceAdd, Nat.reduceSub, List.append_nil])
local macro_rules | `(tactic| walk_at "ff") => `(tactic| first | assumption | (refine SqL.of ?_; walk_at "ff") | (refine SqT.of ?_; walk_at "ff") | (refine New.at_ (by assumption)) | (refine Same.at (by assumption) ?_; walk_at "ff") | (refine Same.at (New.sm (by assumption)) ?_; walk_at "ff") | (refine Same.seq (by assumption) ?_; walk_at "ff") | (refine Same.seqT (by assumption) ?_; walk_at "ff"))
local macro_rules | `(tactic| walk_at "sd") => `(tactic| first | decide | omega | assumption | exact Or.inl ⟨by decide, by decide⟩ | exact Or.inr ⟨by decide, by decide⟩ | exact ⟨by decide, by decide⟩ | exact ⟨by decide, by decide, by decide⟩ | exact Or.inl ⟨by omega, by omega⟩ | exact Or.inr ⟨by omega, by omega⟩ | exact ⟨by omega, by omega⟩ | exact ⟨by omega, by omega, by omega, by omega⟩)
local macro_rules | `(tactic| walk_at "g1") => `(tactic| first | ((with_reducible refine w_r1 ?c ?_); case c => ((try simp only [List.length_map]); walk_at "sd")) | ((with_reducible refine w_r2 ?c ?_); case c => ((try simp only [List.length_map]); walk_at "sd")) | (with_reducible first | refine w_seq ?_ | refine w_asg ?_ | refine w_sfld ?_ | refine w_make ?_ | refine w_methK ?_ | refine w_forS ?_ | refine w_m1 ?_ | refine w_isS ?_ | refine w_cnt ?_ | refine w_strE ?_ | refine w_makeK ?_ | refine w_inst ?_ | refine w_instK ?_ | refine w_prop ?_ | refine w_xf ?_ | refine w_rfl ?_ | refine w_ret ?_ | refine w_drop ?_ | refine w_next ?_ | refine w_if ?_ | refine w_var rfl ?_ | refine w_c ?_ | refine w_op ?_ | refine w_I0 ?_ | refine w_test ?_ | refine w_bl ?_ | refine w_cons ?_ | refine w_nil ?_ | refine w_cb ?_ | refine w_callS ?_ | refine w_un ?_ | refine w_U ?_ | refine w_eq rfl ?_ | refine w_ne rfl ?_ | refine w_not ?_ | refine w_and ?_ | refine w_or ?_ | refine w_B ?_ | refine w_sl ?_ | refine w_noPart ?_ | refine w_part ?_ | refine w_int ?_ | refine w_lst ?_ | refine w_tup ?_ | refine w_asgG ?_ | refine w_ifE ?_ | refine w_andV ?_ | refine w_orV ?_ | refine w_notV ?_ | refine w_meth ?_ | refine w_fld ?_ | refine w_brk ?_ | refine w_cont ?_ | refine w_retN ?_ | refine w_int1 ?_ | refine w_2i ?_ | refine w_1i ?_ | refine w_bm ?_ | refine w_bm0 ?_ | refine w_gsub ?_ | refine w_gcons ?_ | refine w_gnil ?_ | refine w_gname ?_ | refine w_forR1 ?_ | refine w_forR2 ?_ | refine w_forL ?_ | refine w_forT ?_ | refine w_listRg1 ?_ | refine w_lcR1 ?_ | refine w_lcR2 ?_ | refine w_lcL ?_ | refine w_yes ?_ | refine w_chain ?_ | refine w_mkoU ?_ | refine w_mko ?_ | refine w_sign ?_ | refine w_dash ?_) | ((with_reducible refine w_I ?c ?_); case c => walk_at "sd") | ((with_reducible refine w_lenL (xs := ?x) ?c ?_); case c => walk_at "ff") | ((with_reducible refine w_ixL (xs := ?x) (v := ?v) ?c ?e ?_); (case c => walk_at "ff"); (case e => with_reducible rfl)) | ((with_reducible refine w_rL (xs := ?x) ?c ?_); case c => walk_at "ff"))
local macro_rules | `(tactic| walk_at "go") => `(tactic| repeat walk_at "g1")
section
variable {P : Program} {w : World} {K : PySem.W.Frag} {mg : Str → Option Value} {base : Heap}
theorem exc_InvalidRow (T : Tx K mg) : ExS P w K mg base 1 "InvalidRow" (He.ga K "InvalidRow") := by
  obtain ⟨fd, F⟩ := T.d_RungError___init
  exact ⟨T.ox_InvalidRow, _, fd, ["self", "value"], T.xi_InvalidRow.1, T.xi_InvalidRow.2.1, fok_RungError___init T T.ox_InvalidRow T.xi_InvalidRow.2.2 F, F.bindsN fun _ _ _ _ _ _ us hl => match us, hl with | [_, _], _ => rfl, T.e_InvalidRow⟩
/-! check_text, add_row -/
/-- a text that is a row -/
def Row (n : Nat) (z : List Nat) : Prop := z.length = n - 1 ∧ ¬ DD z ∧ ∀ c ∈ z, c = 45 ∨ c = 46
theorem tail_cut (z : List Nat) : cutS (S z) (some (-1)) none = S (z.drop (z.length - 1)) := by
  cases z with
  | nil => decide +kernel
  | cons a l =>
    rw [C8.cutS_slice]
    exact SX.slice_last (List.cons_ne_nil _ _)
theorem drop_last {z : List Nat} : z.drop (z.length - 1) = [45] ↔ z.getLast? = some 45 := by
  rcases List.eq_nil_or_concat z with rfl | ⟨l, c, rfl⟩
  · simp
  · simp
theorem dd_snoc {z : List Nat} {c : Nat} (h : DD (z ++ [c])) : DD z ∨ (z.getLast? = some 45 ∧ c = 45) := by
  obtain ⟨i, h0, h1⟩ := h
  by_cases hi : i + 1 < z.length
  · rw [List.getElem?_append_left (by omega)] at h0
    rw [List.getElem?_append_left hi] at h1
    exact .inl ⟨i, h0, h1⟩
  · have hl : i + 1 < (z ++ [c]).length := by
      rcases Nat.lt_or_ge (i + 1) (z ++ [c]).length with q | q
      · exact q
      · rw [List.getElem?_eq_none q] at h1; cases h1
    rw [List.length_append, List.length_singleton] at hl
    have e : i + 1 = z.length := by omega
    rw [List.getElem?_append_left (by omega)] at h0
    rw [e, List.getElem?_append_right (Nat.le_refl _), Nat.sub_self] at h1
    refine .inr ⟨?_, by simpa using h1⟩
    rw [List.getLast?_eq_getElem?, ← e, Nat.add_sub_cancel]
    exact h0
theorem row_snoc {n c : Nat} {z : List Nat} (h : Row n z) (hn : 1 ≤ n) (hc : c = 45 ∧ z.getLast? ≠ some 45 ∨ c = 46) : Row (n + 1) (z ++ [c]) := by
  obtain ⟨h1, h2, h3⟩ := h
  refine ⟨by rw [List.length_append, List.length_singleton]; omega, fun d => ?_, fun x hx => ?_⟩
  · rcases dd_snoc d with q | ⟨q1, q2⟩
    · exact h2 q
    · rcases hc with ⟨_, q⟩ | q
      · exact q q1
      · omega
  · rcases List.mem_append.mp hx with q | q
    · exact h3 x q
    · rw [List.mem_singleton.mp q]
      rcases hc with ⟨q, _⟩ | q
      · exact .inl q
      · exact .inr q
theorem in_marks {c : Nat} : inV (V.str ⟨#[c]⟩) [V.str (Str.ofString "-"), V.str (Str.ofString ".")] = decide (c = 45 ∨ c = 46) := by
  rw [str_dash, str_dot]
  have e : ∀ d : Nat, eqV (V.str ⟨#[d]⟩) (V.str ⟨#[c]⟩) = decide (c = d) := fun d => by
    rw [Bool.eq_iff_iff]
    simp [eqV]
    exact eq_comm
  unfold inV
  rw [Bool.eq_iff_iff]
  simp [e]
theorem str_empty : Str.ofString "" = S [] := by decide +kernel
def sp_Ladder_check_text (K : PySem.W.Frag) (C : Addr) : Sp := fun vs H Q E => ∃ (m : Option Addr) (q : LQ) (st : LSt) (z : List Nat), vs = [.ref q.t, .str (S z)] ∧ LadAt K C m H q st ∧ LOk st ∧ z.length ≤ 100000 ∧
  (¬ Row st.n z → Err K E "InvalidRow" (.str (S z)) H) ∧ (Row st.n z → ∀ H', Same H H' → Q .non H')
theorem sc_Ladder_check_text : FnScope ["self", "text", "char"] ["self", "text"] (defScope s_Ladder_check_text) := ⟨rfl, rfl, rfl, by decide +kernel, rfl, by decide +kernel, by decide +kernel⟩
theorem fok_Ladder_check_text (T : Tx K mg) {C : Addr} (L : LC K C) {fd : FuncData} (F : FunD K "check_text" "Ladder.check_text" (defArgs s_Ladder_check_text) (defBody s_Ladder_check_text) (defScope s_Ladder_check_text) [] [] (He.fAd K ("Ladder", some "check_text")) fd) : FnOk P w K mg base (L2.CX P w) 4 (He.fAd K ("Ladder", some "check_text")) fd ["self", "text"] (sp_Ladder_check_text K C) := by
  refine F.ok sc_Ladder_check_text (fun vs H Q E h => ?len) (fun cdv A outer s H vs Q E hr h => ⟨_, (pss_cons (ps_if (PW.pt (pw_or (pt_cmpR op_ne (pe_callB call_len_str (by rfl) T.n_len (by decide +kernel) (pa_cons (pv 1) pa_nil)) (pe_op op_sub (pe_fldK (K := K) (pv 0) rfl) pe_int) (nomark _)) (pw_or1 (pt_cmpR op_in_str pe_str (pv 1) (by rfl))))) (pss_one (ps_raise rfl (takes_of rfl rfl rfl rfl) (pmk_os (exc_InvalidRow (K := K) T) hr (by omega) (by rfl) (pa_cons (pv 1) pa_nil)))) pss_nil)
 (pss_one (ps_for (passes_of rfl) rfl (pi_str (pv 1)) (pg_name (i := 2) sc_Ladder_check_text.nd rfl (by first | exact Or.inl rfl | exact Or.inr rfl))
 (pss_one (ps_if (pt_cmpR (op_notIn_seqK (K := K)) (pv 2) (pe_tup (pa_cons pe_str (pa_cons pe_str pa_nil))) (by rfl)) (pss_one (ps_raise rfl (takes_of rfl rfl rfl rfl) (pmk_os (exc_InvalidRow (K := K) T) hr (by omega) (by rfl) (pa_cons (pv 1) pa_nil)))) pss_nil))))), ?body⟩)
  case len => obtain ⟨_, _, _, _, rfl, _⟩ := h; rfl
  case body =>
    obtain ⟨m, q, st, z, rfl, hL, ok, hz, k1, k2⟩ := h
    have hn1 := ok.n1
    have hn2 := ok.n2
    walk_at "kk"
    walk_at "go"
    refine w_lenS (sizes (by rw [S_len]; omega)) ?_
    walk_at "go"
    refine f_posts L hL.ob ?_
    walk_at "go"
    rw [S_len]
    refine w_ndec (fun h0 => ?_) (fun h0 => ?_)
    · walk_at "go"
      refine w_T rfl ?_
      walk_at "go"
      exact (k1 fun r => h0 (by have := r.1; congr 1; omega)).new (Same.refl _)
    · have hzl : z.length = st.n - 1 := by have := V.int.inj h0; omega
      walk_at "go"
      refine w_2s ?_
      walk_at "go"
      refine w_ite (fun h1 => ?_) (fun h1 => ?_)
      · walk_at "go"
        exact (k1 fun r => r.2.1 ((dd_in z).mp h1)).new (Same.refl _)
      · have hd : ¬ DD z := fun q => by rw [(dd_in z).mpr q] at h1; cases h1
        walk_at "go"
        refine ForS.run (fun i σ H2 => (∃ v, σ = [some (.ref q.t), some (.str (S z)), v]) ∧ Same H H2 ∧ ∀ j c, j < i → z[j]? = some c → c = 45 ∨ c = 46) ⟨⟨_, rfl⟩, Same.refl _, fun j c hj _ => absurd hj (Nat.not_lt_zero _)⟩ ?_ ?_
        · rintro i c _ H2 hc ⟨⟨v, rfl⟩, s2, hh⟩
          rw [S_list] at hc
          walk_at "go"
          wrow_read p H3 N3
          refine ⟨p, _, rfl, .inr (SqT.of N3.at_), rfl, rfl, ?_⟩
          rw [in_marks]
          walk_at "go"
          refine w_ndec (fun g => ?_) (fun g => ?_)
          · walk_at "go"
            exact (k1 fun r => g (r.2.2 c (List.mem_of_getElem? hc))).new (s2.trans N3.sm)
          · walk_at "go"
            refine ⟨⟨_, rfl⟩, s2.trans N3.sm, fun j d hj hd' => ?_⟩
            by_cases e : j = i
            · subst e
              rw [hc] at hd'
              cases hd'
              exact g
            · exact hh j d (by omega) hd'
        · rintro _ H2 ⟨⟨v, rfl⟩, s2, hh⟩
          rw [S_list] at hh
          refine k2 ⟨hzl, hd, fun c hc => ?_⟩ H2 s2
          obtain ⟨j, hj, e⟩ := List.mem_iff_getElem.mp hc
          exact hh j c hj (by rw [List.getElem?_eq_getElem hj, e])
def sp_Ladder_add_row (K : PySem.W.Frag) (C : Addr) : Sp := fun vs H Q E => ∃ (m : Option Addr) (q : LQ) (st : LSt) (z : List Nat), vs = [.ref q.t, .str (S z)] ∧ LadAt K C m H q st ∧ LOk st ∧ z.length ≤ 100000 ∧
  (¬ Row st.n z → Err K E "InvalidRow" (.str (S z)) H) ∧ (Row st.n z → ∀ H', LadAt K C m H' q (st.add z) → Frm q H H' → Q .non H')
theorem met_check_text (T : Tx K mg) {C : Addr} (L : LC K C) : MetS P w K mg base (L2.CX P w) 4 C "check_text" (sp_Ladder_check_text K C) := by
  obtain ⟨fd, F⟩ := T.d_Ladder_check_text
  exact ⟨_, fd, ["self", "text"], L.cls, L.m5, fok_Ladder_check_text T L F, (F.bindsN fun _ _ _ _ _ _ us hl => match us, hl with | [_, _], _ => rfl)⟩
theorem sc_Ladder_add_row : FnScope ["self", "text"] ["self", "text"] (defScope s_Ladder_add_row) := ⟨rfl, rfl, rfl, by decide +kernel, rfl, by decide +kernel, by decide +kernel⟩
theorem fok_Ladder_add_row (T : Tx K mg) {C : Addr} (L : LC K C) {fd : FuncData} (F : FunD K "add_row" "Ladder.add_row" (defArgs s_Ladder_add_row) (defBody s_Ladder_add_row) (defScope s_Ladder_add_row) [] [] (He.fAd K ("Ladder", some "add_row")) fd) : FnOk P w K mg base (L2.CX P w) 5 (He.fAd K ("Ladder", some "add_row")) fd ["self", "text"] (sp_Ladder_add_row K C) := by
  refine F.ok sc_Ladder_add_row (fun vs H Q E h => ?len) (fun cdv A outer s H vs Q E hr h => ⟨_, (pss_cons (ps_expr (pe_ms (met_check_text (K := K) T L) hr (by omega) (fun _ => paE (takes_of rfl rfl rfl rfl)) (pv 0) (pa_cons (pv 1) pa_nil)))
 (pss_one (ps_expr (pe_ms (met_begin_row (K := K) T L) hr (by omega) (fun _ => pa0) (pv 0) (pa_cons (pv 1) pa_nil))))), ?body⟩)
  case len => obtain ⟨_, _, _, _, rfl, _⟩ := h; rfl
  case body =>
    obtain ⟨m, q, st, z, rfl, hL, ok, hz, k1, k2⟩ := h
    walk_at "kk"
    walk_at "go"
    refine f_meth hL.ob (no_meth (by decide +kernel)) ?_
    walk_at "go"
    refine ⟨m, q, st, z, rfl, hL, ok, hz, k1, fun hr H1 s1 => ?_⟩
    have L1 := hL.same s1
    walk_at "go"
    refine f_meth L1.ob (no_meth (by decide +kernel)) ?_
    walk_at "go"
    refine ⟨m, q, st, z, rfl, L1, ok, hr.1, fun H2 L2 f2 => ?_⟩
    exact k2 hr H2 L2 ((Frm.of s1).trans f2)
theorem met_Ladder_add_row (T : Tx K mg) : MetS P w K mg base (L2.CX P w) 5 (He.ga K "Ladder") "add_row" (sp_Ladder_add_row K (He.ga K "Ladder")) := by
  obtain ⟨fd, F⟩ := T.d_Ladder_add_row
  exact ⟨_, fd, ["self", "text"], T.cls_Ladder, T.me_Ladder_add_row, fok_Ladder_add_row T (lc_Ladder T) F, (F.bindsN fun _ _ _ _ _ _ us hl => match us, hl with | [_, _], _ => rfl)⟩
theorem metk_Ladder_add_row_text (T : Tx K mg) : MetK P w K mg base (L2.CX P w) 5 (He.ga K "Ladder") "add_row" ["text"] (fun vs zs => vs ++ zs) (sp_Ladder_add_row K (He.ga K "Ladder")) := by
  obtain ⟨fd, F⟩ := T.d_Ladder_add_row
  exact ⟨_, fd, ["self", "text"], _, T.cls_Ladder, T.me_Ladder_add_row, fok_Ladder_add_row T (lc_Ladder T) F, (kbn_all F fun _ _ _ _ _ _ us ws h1 h2 => match us, ws, h1, h2 with | [_], [_], _, _ => rfl)⟩
/-! _law_text -/
def spLawText (K : PySem.W.Frag) : Sp := fun vs H Q _ => ∃ (a : Addr) (ns : List Int), vs = [.ref a] ∧ SqL K H a (ns.map V.int) ∧ ns.length ≤ 10000 ∧ ∀ (z : List Nat) (H' : Hp), Row (ns.length + 1) z → Same H H' → Q (.str (S z)) H'
theorem sc_law_text : FnScope ["marks", "line", "mark"] ["marks"] (defScope s_law_text) := ⟨rfl, rfl, rfl, by decide +kernel, rfl, by decide +kernel, by decide +kernel⟩
theorem cal_law_text (T : Tx K mg) : CalS P w K mg base CX0 1 "_law_text" (spLawText K) := by
  obtain ⟨fd, F⟩ := T.d_law_text
  refine ⟨_, fd, ["marks"], F.ok sc_law_text (fun vs H Q E h => ?len) (fun cdv A outer s H vs Q E hr h => ⟨_, PSs.nox (pss_cons (ps_set (i := 1) sc_law_text.nd rfl (by first | exact Or.inl rfl | exact Or.inr rfl) pe_str)
 (pss_cons (ps_for PassesOwn.never rfl (pi_listK (K := K) (pv 0)) (pg_name (i := 2) sc_law_text.nd rfl (by first | exact Or.inl rfl | exact Or.inr rfl))
 (pss_one (ps_if (PW.pt (pw_and (pt_cmpR op_eq (pv 2) pe_int (nomark _)) (pw_and1 (pt_cmpR op_ne (pe_slice sl_str (pv 1) (po_some (pe_un un_neg pe_int)) po_none) pe_str (nomark _))))) (pss_one (ps_set (i := 1) sc_law_text.nd rfl (by first | exact Or.inl rfl | exact Or.inr rfl) (pe_op op_add_str (pv 1) pe_str))) (pss_one (ps_set (i := 1) sc_law_text.nd rfl (by first | exact Or.inl rfl | exact Or.inr rfl) (pe_op op_add_str (pv 1) pe_str))))))
 (pss_one (ps_ret (pv 1))))), ?body⟩), T.g_law_text, F.kp, F.bindsN fun _ _ _ _ _ _ us hl => match us, hl with | [_], _ => rfl⟩
  case len => obtain ⟨_, _, rfl, _⟩ := h; rfl
  case body =>
    obtain ⟨a, ns, rfl, hS, hl, k⟩ := h
    walk_at "kk"
    walk_at "go"
    refine ForL.run (ns.map V.int) (fun i σ H2 => H = H2 ∧ ∃ z v, σ = [some (.ref a), some (.str (S z)), v] ∧ Row (i + 1) z) ⟨rfl, [], _, by rw [str_empty] <;> rfl, rfl, fun ⟨i, h, _⟩ => by simp at h, by simp⟩ (fun i σ H2 _ h => by rw [← h.1]; exact hS) ?_ ?_
    · rintro i x _ _ hx ⟨rfl, z, v, rfl, hr⟩
      rw [List.getElem?_map] at hx
      obtain ⟨m, hm, rfl⟩ := Option.map_eq_some_iff.mp hx
      have hi : i < ns.length := (List.getElem?_eq_some_iff.mp hm).1
      have hz : z.length = i := by have := hr.1; omega
      have hs : sizeLine = 16777216 := by decide
      have ld : (Str.ofString "-").length = 1 := by rw [str_dash]; rfl
      have ld2 : (Str.ofString ".").length = 1 := by rw [str_dot]; rfl
      walk_at "go"
      refine w_dec (fun g => ?_) (fun g => ?_)
      · walk_at "go"
        refine w_slS (sizes (by rw [S_len]; omega)) ?_
        walk_at "go"
        rw [tail_cut, str_dash]
        refine w_ndec (fun g1 => ?_) (fun g1 => ?_)
        · walk_at "go"
          refine w_cat (by rw [S_len]; show z.length + 1 ≤ _; omega) ?_
          refine ⟨rfl, z ++ [45], _, by rw [← S_app] <;> rfl, row_snoc hr (by omega) (.inl ⟨rfl, fun q => g1 ?_⟩)⟩
          rw [drop_last.mpr q]
        · walk_at "go"
          refine w_cat (by rw [S_len, ld2]; omega) ?_
          exact ⟨rfl, z ++ [46], _, by rw [str_dot, ← S_app] <;> rfl, row_snoc hr (by omega) (.inr rfl)⟩
      · walk_at "go"
        refine w_F rfl ?_
        walk_at "go"
        refine w_cat (by rw [S_len, ld2]; omega) ?_
        exact ⟨rfl, z ++ [46], _, by rw [str_dot, ← S_app] <;> rfl, row_snoc hr (by omega) (.inr rfl)⟩
    · rintro _ _ ⟨rfl, z, v, rfl, hr⟩
      walk_at "go"
      rw [List.length_map] at hr
      exact k z H hr (Same.refl _)

end
end Rg

set_option Elab.async false
set_option linter.all false
set_option maxRecDepth 100000
set_option maxHeartbeats 4000000
namespace Rg
open PySem L2
local macro_rules | `(tactic| wrow_read $p $h $n) => `(tactic| (refine ⟨sizes ?c, fun $p hp => ?_⟩; (case c => (first | exact Nat.le_of_ble_eq_true rfl | omega | (simp; omega))); generalize hg : upd _ $p _ = $h; have $n := New.of hp hg; clear hg hp))
local macro_rules | `(tactic| wrow_readAll $p $h $n) => `(tactic| (refine fun $p hp => ?_; generalize hg : upd _ $p _ = $h; have $n := New.of hp hg; clear hg hp))
local macro_rules | `(tactic| walk_at "kk") => `(tactic| dsimp only [cxK, noxK, blkK, trK, suK, L2.start, List.map_cons, List.map_nil, List.length_cons, List.length_nil, List.replicate, List.cons_append, List.nil_append, Nat.reduceAdd, Nat.reduceSub, List.append_nil])
local macro_rules | `(tactic| walk_at "ff") => `(tactic| first | assumption | (refine SqL.of ?_; walk_at "ff") | (refine SqT.of ?_; walk_at "ff") | (refine New.at_ (by assumption)) | (refine Same.at (by assumption) ?_; walk_at "ff") | (refine Same.at (New.sm (by assumption)) ?_; walk_at "ff") | (refine Same.seq (by assumption) ?_; walk_at "ff") | (refine Same.seqT (by assumption) ?_; walk_at "ff"))
local macro_rules | `(tactic| walk_at "sd") => `(tactic| first | decide | omega | assumption | exact Or.inl ⟨by decide, by decide⟩ | exact Or.inr ⟨by decide, by decide⟩ | exact ⟨by decide, by decide⟩ | exact ⟨by decide, by decide, by decide⟩ | exact Or.inl ⟨by omega, by omega⟩ | exact Or.inr ⟨by omega, by omega⟩ | exact ⟨by omega, by omega⟩ | exact ⟨by omega, by omega, by omega, by omega⟩)
local macro_rules | `(tactic| walk_at "g1") => `(tactic| first | ((with_reducible refine w_r1 ?c ?_); case c => ((try simp only [List.length_map]); walk_at "sd")) | ((with_reducible refine w_r2 ?c ?_); case c => ((try simp only [List.length_map]); walk_at "sd")) | (with_reducible first | refine w_seq ?_ | refine w_asg ?_ | refine w_sfld ?_ | refine w_make ?_ | refine w_methK ?_ | refine w_forS ?_ | refine w_m1 ?_ | refine w_isS ?_ | refine w_cnt ?_ | refine w_strE ?_ | refine w_makeK ?_ | refine w_inst ?_ | refine w_instK ?_ | refine w_prop ?_ | refine w_xf ?_ | refine w_rfl ?_ | refine w_ret ?_ | refine w_drop ?_ | refine w_next ?_ | refine w_if ?_ | refine w_var rfl ?_ | refine w_c ?_ | refine w_op ?_ | refine w_I0 ?_ | refine w_test ?_ | refine w_bl ?_ | refine w_cons ?_ | refine w_nil ?_ | refine w_cb ?_ | refine w_callS ?_ | refine w_un ?_ | refine w_U ?_ | refine w_eq rfl ?_ | refine w_ne rfl ?_ | refine w_not ?_ | refine w_and ?_ | refine w_or ?_ | refine w_B ?_ | refine w_sl ?_ | refine w_noPart ?_ | refine w_part ?_ | refine w_int ?_ | refine w_lst ?_ | refine w_tup ?_ | refine w_asgG ?_ | refine w_ifE ?_ | refine w_andV ?_ | refine w_orV ?_ | refine w_notV ?_ | refine w_meth ?_ | refine w_fld ?_ | refine w_brk ?_ | refine w_cont ?_ | refine w_retN ?_ | refine w_int1 ?_ | refine w_2i ?_ | refine w_1i ?_ | refine w_bm ?_ | refine w_bm0 ?_ | refine w_gsub ?_ | refine w_gcons ?_ | refine w_gnil ?_ | refine w_gname ?_ | refine w_forR1 ?_ | refine w_forR2 ?_ | refine w_forL ?_ | refine w_forT ?_ | refine w_listRg1 ?_ | refine w_lcR1 ?_ | refine w_lcR2 ?_ | refine w_lcL ?_ | refine w_yes ?_ | refine w_chain ?_ | refine w_mkoU ?_ | refine w_mko ?_ | refine w_sign ?_ | refine w_dash ?_) | ((with_reducible refine w_I ?c ?_); case c => walk_at "sd") | ((with_reducible refine w_lenL (xs := ?x) ?c ?_); case c => walk_at "ff") | ((with_reducible refine w_ixL (xs := ?x) (v := ?v) ?c ?e ?_); (case c => walk_at "ff"); (case e => with_reducible rfl)) | ((with_reducible refine w_rL (xs := ?x) ?c ?_); case c => walk_at "ff"))
local macro_rules | `(tactic| walk_at "go") => `(tactic| repeat walk_at "g1")
section
variable {P : Program} {w : World} {K : PySem.W.Frag} {mg : Str → Option Value} {base : Heap}
theorem exc_NothingToUndo (T : Tx K mg) : ExS P w K mg base 1 "NothingToUndo" (He.ga K "NothingToUndo") := by
  obtain ⟨fd, F⟩ := T.d_RungError___init
  exact ⟨T.ox_NothingToUndo, _, fd, ["self", "value"], T.xi_NothingToUndo.1, T.xi_NothingToUndo.2.1, fok_RungError___init T T.ox_NothingToUndo T.xi_NothingToUndo.2.2 F, F.bindsN fun _ _ _ _ _ _ us hl => match us, hl with | [_, _], _ => rfl, T.e_NothingToUndo⟩
/-! undo -/
theorem cutV_to {xs : List V} {k : Nat} (h : k ≤ xs.length) : cutV xs none (some (k : Int)) = xs.take k := by
  unfold cutV
  rw [HT.sIx_nat, HT.sIx_none, Nat.min_eq_left h]
  simp
theorem last_at {α : Type} (xs : List α) (v : α) : (xs ++ [v])[(xs ++ [v]).length - 1]? = some v := by
  simp
def sp_Ladder_undo (K : PySem.W.Frag) (C : Addr) : Sp := fun vs H Q E => ∃ (m : Option Addr) (q : LQ) (st : LSt), vs = [.ref q.t] ∧ LadAt K C m H q st ∧ LOk st ∧
  ((st.deeds = [] ∧ Err K E "NothingToUndo" (.int 0) H) ∨
   (∃ (st0 : LSt) (p : Nat) (ls : List (List Nat)) (z : List Nat), st = st0.set p ∧ st0.lines = ls ++ [z] ∧ z.length + 1 = st.n ∧ z[p]? = some 46 ∧ ∀ H', LadAt K C m H' q st0 → Frm q H H' → Q .non H') ∨
   (∃ (st0 : LSt) (z : List Nat), st = st0.add z ∧ ∀ H' r', H r' = none → r' ≠ q.l → r' ≠ q.d → (∃ o, H' q.r = some o) → LadAt K C m H' { q with r := r' } st0 → Frm q H H' → Q .non H'))
theorem sc_Ladder_undo : FnScope ["self", "many", "post", "text"] ["self"] (defScope s_Ladder_undo) := ⟨rfl, rfl, rfl, by decide +kernel, rfl, by decide +kernel, by decide +kernel⟩
theorem fok_Ladder_undo (T : Tx K mg) {C : Addr} (L : LC K C) {fd : FuncData} (F : FunD K "undo" "Ladder.undo" (defArgs s_Ladder_undo) (defBody s_Ladder_undo) (defScope s_Ladder_undo) [] [] (He.fAd K ("Ladder", some "undo")) fd) : FnOk P w K mg base (L2.CX P w) 4 (He.fAd K ("Ladder", some "undo")) fd ["self"] (sp_Ladder_undo K C) := by
  refine F.ok sc_Ladder_undo (fun vs H Q E h => ?len) (fun cdv A outer s H vs Q E hr h => ⟨_, (pss_cons (ps_if (pt_cmpR op_eq (pe_callB (call_len_seqK (K := K)) (by rfl) T.n_len (by decide +kernel) (pa_cons (pe_fldK (K := K) (pv 0) rfl) pa_nil)) pe_int (nomark _)) (pss_one (ps_raise rfl (takes_of rfl rfl rfl rfl) (pmk_os (exc_NothingToUndo (K := K) T) hr (by omega) (by rfl) (pa_cons pe_int pa_nil)))) pss_nil)
 (pss_cons (ps_set (i := 1) sc_Ladder_undo.nd rfl (by first | exact Or.inl rfl | exact Or.inr rfl) (pe_bm0K (K := K) PySem.F.plainAttrs_list PySem.F.slot_list_pop PySem.F.type_list_pop mt_pop (pe_fldK (K := K) (pv 0) rfl)))
 (pss_one (ps_if (pt_cmpR op_eq (pv 1) (C8.pe_gc (by rfl) T.c_SINGLE_RUNG) (nomark _)) (pss_cons (ps_set (i := 2) sc_Ladder_undo.nd rfl (by first | exact Or.inl rfl | exact Or.inr rfl) (pe_bm0K (K := K) PySem.F.plainAttrs_list PySem.F.slot_list_pop PySem.F.type_list_pop mt_pop (pe_fldK (K := K) (pv 0) rfl)))
 (pss_cons (ps_set (i := 3) sc_Ladder_undo.nd rfl (by first | exact Or.inl rfl | exact Or.inr rfl) (pe_ix (ix_listK (K := K)) (pe_fldK (K := K) (pv 0) rfl) (pe_un un_neg pe_int) (fun _ _ => rfl)))
 (pss_one (ps_asg (pe_op op_add_str (pe_op op_add_str (pe_slice sl_str (pv 3) po_none (po_some (pv 2))) pe_str) (pe_slice sl_str (pv 3) (po_some (pe_op op_add (pv 2) pe_int)) po_none)) (pg_sub (pe_fldK (K := K) (pv 0) rfl) (pe_un un_neg pe_int) set_list))))) (pss_cons (ps_expr (pe_bm0K (K := K) PySem.F.plainAttrs_list PySem.F.slot_list_pop PySem.F.type_list_pop mt_pop (pe_fldK (K := K) (pv 0) rfl)))
 (pss_one (ps_fldK (K := K) (pv 0) (pe_slice (sl_listK (K := K)) (pe_fldK (K := K) (pv 0) rfl) po_none (po_some (pe_op op_sub (pe_callB (call_len_seqK (K := K)) (by rfl) T.n_len (by decide +kernel) (pa_cons (pe_fldK (K := K) (pv 0) rfl) pa_nil)) (pv 1)))) rfl))))))), ?body⟩)
  case len => obtain ⟨_, _, _, rfl, _⟩ := h; rfl
  case body =>
    obtain ⟨m, q, st, rfl, hL, ok, hc⟩ := h
    have hn1 := ok.n1
    have hn2 := ok.n2
    have hsr := ok.sr
    obtain ⟨tl, tr, td⟩ := tl_ne hL
    walk_at "kk"
    walk_at "go"
    refine f_deeds L hL.ob ?_
    walk_at "go"
    refine w_lenL (SqL.of hL.hd) ?_
    walk_at "go"
    rcases hc with ⟨he, k⟩ | ⟨st0, p, ls, z, rfl, hz, hzl, h46, k⟩ | ⟨st0, z, rfl, k⟩
    · rw [he]
      refine w_T rfl ?_
      walk_at "go"
      exact k.new (Same.refl _)
    · have hne : ¬ (V.int ((List.map V.int (st0.set p).deeds).length : Int) = V.int 0) := fun q => by
        have := V.int.inj q
        simp [LSt.set] at this
        omega
      refine w_F (decide_eq_false hne) ?_
      walk_at "go"
      refine f_deeds L hL.ob ?_
      refine w_tyL hL.hd ?_
      have ed : (st0.set p).deeds.map V.int = st0.deeds.map V.int ++ [V.int (-1)] := by simp [LSt.set]
      have hd := hL.hd
      rw [ed] at hd
      refine w_pop hd (last_at _ _) fun H1 b1 h1 => ?_
      rw [List.dropLast_concat] at h1
      have o1 := b1 _ _ td hL.ob
      have l1 := b1 _ _ hL.ld hL.hl
      have r1 := b1 _ _ hL.rd hL.hr
      walk_at "go"
      refine w_T rfl ?_
      walk_at "go"
      refine f_rungs L o1 ?_
      refine w_tyL r1 ?_
      have er : nat (st0.set p).rungs = nat st0.rungs ++ [V.int p] := by simp [LSt.set, nat]
      rw [er] at r1
      refine w_pop r1 (last_at _ _) fun H2 b2 h2 => ?_
      rw [List.dropLast_concat] at h2
      have o2 := b2 _ _ tr o1
      have l2 := b2 _ _ hL.lr l1
      have d2 := b2 _ _ hL.rd.symm h1
      have el : txt (st0.set p).lines = txt ls ++ [V.str (S (z.set p 45))] := by
        simp only [LSt.set]
        rw [hz, setLast_eq]
        simp [txt]
      rw [el] at l2
      have hs : sizeLine = 16777216 := by decide
      have lz : (z.set p 45).length ≤ 1000 := by rw [List.length_set]; omega
      have hpz : p < z.length := (List.getElem?_eq_some_iff.mp h46).1
      walk_at "go"
      refine f_lines L o2 ?_
      walk_at "go"
      refine w_ixL (SqL.of l2) (atI_last _ _) ?_
      walk_at "go"
      refine w_slS (sizes (by rw [S_len]; omega)) ?_
      walk_at "go"
      have lc : ∀ lo hi, (cutS (S (z.set p 45)) lo hi).length ≤ 1000 := fun lo hi => Nat.le_trans cut_len lz
      have ld : (Str.ofString ".").length = 1 := by rw [str_dot]; rfl
      refine w_cat (by have := lc none (some (p : Int)); omega) ?_
      walk_at "go"
      refine w_slS (sizes (by rw [S_len]; omega)) ?_
      refine w_cat (by have h1 := lc none (some (p : Int)); have h2 := lc (some ((p : Int) + 1)) none; rw [app_len]; omega) ?_
      rw [str_dot, set_cut (by rw [List.length_set]; exact hpz)]
      walk_at "go"
      refine f_lines L o2 ?_
      walk_at "go"
      refine w_setL l2 (ixN_last (by simp)) fun H3 b3 h3 => ?_
      have e9 : (txt ls ++ [V.str (S (z.set p 45))]).set ((txt ls ++ [V.str (S (z.set p 45))]).length - 1) (V.str (S ((z.set p 45).set p 46))) = txt st0.lines := by
        obtain ⟨hp', e46⟩ := List.getElem?_eq_some_iff.mp h46
        have : (z.set p 45).set p 46 = z := by
          rw [List.set_set, ← e46, List.set_getElem_self]
        rw [this, hz]
        simp [txt]
      rw [e9] at h3
      refine k H3 ⟨b3 _ _ tl o2, h3, b3 _ _ hL.lr.symm h2, b3 _ _ hL.ld.symm d2, hL.lr, hL.ld, hL.rd⟩ (fun b o n1 n2 n3 n4 e => b3 _ _ n2 (b2 _ _ n3 (b1 _ _ n4 e)))
    · have hne : ¬ (V.int ((List.map V.int (st0.add z).deeds).length : Int) = V.int 0) := fun q => by
        have := V.int.inj q
        simp [LSt.add] at this
        omega
      refine w_F (decide_eq_false hne) ?_
      walk_at "go"
      refine f_deeds L hL.ob ?_
      refine w_tyL hL.hd ?_
      have ed : (st0.add z).deeds.map V.int = st0.deeds.map V.int ++ [V.int ((dashes z).length : Int)] := by simp [LSt.add]
      have hd := hL.hd
      rw [ed] at hd
      refine w_pop hd (last_at _ _) fun H1 b1 h1 => ?_
      rw [List.dropLast_concat] at h1
      have o1 := b1 _ _ td hL.ob
      have l1 := b1 _ _ hL.ld hL.hl
      have r1 := b1 _ _ hL.rd hL.hr
      walk_at "go"
      refine w_F (decide_eq_false fun q => by have := V.int.inj q; omega) ?_
      walk_at "go"
      refine f_lines L o1 ?_
      refine w_tyL l1 ?_
      have el : txt (st0.add z).lines = txt st0.lines ++ [V.str (S z)] := by simp [LSt.add, txt]
      rw [el] at l1
      refine w_pop l1 (last_at _ _) fun H2 b2 h2 => ?_
      rw [List.dropLast_concat] at h2
      have o2 := b2 _ _ tl o1
      have r2 := b2 _ _ hL.lr.symm r1
      have d2 := b2 _ _ hL.ld.symm h1
      walk_at "go"
      refine f_rungs L o2 ?_
      walk_at "go"
      refine f_rungs L o2 ?_
      walk_at "go"
      refine w_slL (SqL.of r2) fun r' H3 n3 s3 h3 => ?_
      have e3 : cutV (nat (st0.add z).rungs) none (some (((nat (st0.add z).rungs).length : Int) - ((dashes z).length : Int))) = nat st0.rungs := by
        have e4 : ((nat (st0.add z).rungs).length : Int) - ((dashes z).length : Int) = ((nat st0.rungs).length : Int) := by
          simp [LSt.add, nat]
        have e5 : nat (st0.add z).rungs = nat st0.rungs ++ nat (dashes z) := by simp [LSt.add, nat]
        rw [e4, cutV_to (by rw [e5, List.length_append]; omega), e5, List.take_left]
      rw [e3] at h3
      have rl : r' ≠ q.l := fun e => by rw [e, h2] at n3; cases n3
      have rd : r' ≠ q.d := fun e => by rw [e, d2] at n3; cases n3
      have rt : r' ≠ q.t := fun e => by rw [e, o2] at n3; cases n3
      have n0 : H r' = none := by
        cases e : H r' with
        | none => rfl
        | some o => rw [b2 _ _ rl (b1 _ _ rd e)] at n3; cases n3
      walk_at "go"
      refine w_setf (s3 _ _ o2) L.cls L.nr (by cases m; exact (by decide : 4 < 1000); exact (by decide : 5 < 1000)) fun H4 b4 h4 => ?_
      refine k H4 r' n0 rl rd ⟨_, b4 _ _ tr.symm (s3 _ _ r2)⟩ ⟨h4.trans (by cases m <;> rfl), b4 _ _ tl.symm (s3 _ _ h2), b4 _ _ rt h3, b4 _ _ td.symm (s3 _ _ d2), rl.symm, hL.ld, rd⟩ (fun b o n1 n2 n3' n4 e => b4 _ _ n1 (s3 _ _ (b2 _ _ n2 (b1 _ _ n4 e))))
theorem met_Ladder_undo (T : Tx K mg) : MetS P w K mg base (L2.CX P w) 4 (He.ga K "Ladder") "undo" (sp_Ladder_undo K (He.ga K "Ladder")) := by
  obtain ⟨fd, F⟩ := T.d_Ladder_undo
  exact ⟨_, fd, ["self"], T.cls_Ladder, T.me_Ladder_undo, fok_Ladder_undo T (lc_Ladder T) F, (F.bindsN fun _ _ _ _ _ _ us hl => match us, hl with | [_], _ => rfl)⟩

end
end Rg

set_option Elab.async false
set_option linter.all false
set_option maxRecDepth 100000
set_option maxHeartbeats 4000000
namespace Rg
open PySem L2
local macro_rules | `(tactic| wrow_read $p $h $n) => `(tactic| (refine ⟨sizes ?c, fun $p hp => ?_⟩; (case c => (first | exact Nat.le_of_ble_eq_true rfl | omega | (simp; omega))); generalize hg : upd _ $p _ = $h; have $n := New.of hp hg; clear hg hp))
local macro_rules | `(tactic| wrow_readAll $p $h $n) => `(tactic| (refine fun $p hp => ?_; generalize hg : upd _ $p _ = $h; have $n := New.of hp hg; clear hg hp))
local macro_rules | `(tactic| walk_at "kk") => `(tactic| dsimp only [cxK, noxK, blkK, trK, suK, L2.start, List.map_cons, List.map_nil, List.length_cons, List.length_nil, List.replicate, List.cons_append, List.nil_append, Nat.reduceAdd, Nat.reduceSub, List.append_nil])
local macro_rules | `(tactic| walk_at "ff") => `(tactic| first | assumption | (refine SqL.of ?_; walk_at "ff") | (refine SqT.of ?_; walk_at "ff") | (refine New.at_ (by assumption)) | (refine Same.at (by assumption) ?_; walk_at "ff") | (refine Same.at (New.sm (by assumption)) ?_; walk_at "ff") | (refine Same.seq (by assumption) ?_; walk_at "ff") | (refine Same.seqT (by assumption) ?_; walk_at "ff"))
local macro_rules | `(tactic| walk_at "sd") => `(tactic| first | decide | omega | assumption | exact Or.inl ⟨by decide, by decide⟩ | exact Or.inr ⟨by decide, by decide⟩ | exact ⟨by decide, by decide⟩ | exact ⟨by decide, by decide, by decide⟩ | exact Or.inl ⟨by omega, by omega⟩ | exact Or.inr ⟨by omega, by omega⟩ | exact ⟨by omega, by omega⟩ | exact ⟨by omega, by omega, by omega, by omega⟩)
local macro_rules | `(tactic| walk_at "g1") => `(tactic| first | ((with_reducible refine w_r1 ?c ?_); case c => ((try simp only [List.length_map]); walk_at "sd")) | ((with_reducible refine w_r2 ?c ?_); case c => ((try simp only [List.length_map]); walk_at "sd")) | (with_reducible first | refine w_seq ?_ | refine w_asg ?_ | refine w_sfld ?_ | refine w_make ?_ | refine w_methK ?_ | refine w_forS ?_ | refine w_m1 ?_ | refine w_isS ?_ | refine w_cnt ?_ | refine w_strE ?_ | refine w_makeK ?_ | refine w_inst ?_ | refine w_instK ?_ | refine w_prop ?_ | refine w_xf ?_ | refine w_rfl ?_ | refine w_ret ?_ | refine w_drop ?_ | refine w_next ?_ | refine w_if ?_ | refine w_var rfl ?_ | refine w_c ?_ | refine w_op ?_ | refine w_I0 ?_ | refine w_test ?_ | refine w_bl ?_ | refine w_cons ?_ | refine w_nil ?_ | refine w_cb ?_ | refine w_callS ?_ | refine w_un ?_ | refine w_U ?_ | refine w_eq rfl ?_ | refine w_ne rfl ?_ | refine w_not ?_ | refine w_and ?_ | refine w_or ?_ | refine w_B ?_ | refine w_sl ?_ | refine w_noPart ?_ | refine w_part ?_ | refine w_int ?_ | refine w_lst ?_ | refine w_tup ?_ | refine w_asgG ?_ | refine w_ifE ?_ | refine w_andV ?_ | refine w_orV ?_ | refine w_notV ?_ | refine w_meth ?_ | refine w_fld ?_ | refine w_brk ?_ | refine w_cont ?_ | refine w_retN ?_ | refine w_int1 ?_ | refine w_2i ?_ | refine w_1i ?_ | refine w_bm ?_ | refine w_bm0 ?_ | refine w_gsub ?_ | refine w_gcons ?_ | refine w_gnil ?_ | refine w_gname ?_ | refine w_forR1 ?_ | refine w_forR2 ?_ | refine w_forL ?_ | refine w_forT ?_ | refine w_listRg1 ?_ | refine w_lcR1 ?_ | refine w_lcR2 ?_ | refine w_lcL ?_ | refine w_yes ?_ | refine w_chain ?_ | refine w_mkoU ?_ | refine w_mko ?_ | refine w_sign ?_ | refine w_dash ?_) | ((with_reducible refine w_I ?c ?_); case c => walk_at "sd") | ((with_reducible refine w_lenL (xs := ?x) ?c ?_); case c => walk_at "ff") | ((with_reducible refine w_ixL (xs := ?x) (v := ?v) ?c ?e ?_); (case c => walk_at "ff"); (case e => with_reducible rfl)) | ((with_reducible refine w_rL (xs := ?x) ?c ?_); case c => walk_at "ff"))
local macro_rules | `(tactic| walk_at "go") => `(tactic| repeat walk_at "g1")
section
variable {P : Program} {w : World} {K : PySem.W.Frag} {mg : Str → Option Value} {base : Heap}
/-! the law's helpers -/
theorem dash_at {z : List Nat} {i c : Nat} (e : z[i]? = some c) : decide (V.str ⟨#[c]⟩ = V.str (Str.ofString "-")) = dash z i := by
  rw [eq_dash]
  unfold dash
  rw [e]
  simp
theorem dash_out {z : List Nat} {i : Nat} (h : z.length ≤ i) : dash z i = false := by
  unfold dash
  rw [List.getElem?_eq_none h]
  rfl
def sp_law_down (K : PySem.W.Frag) : Sp := fun vs H Q _ => ∃ (z : List Nat) (p : Nat), vs = [.str (S z), .int p] ∧ z.length ≤ 10000 ∧ p ≤ z.length ∧ Q (.int (down z p)) H
theorem sc_law_down : FnScope ["line", "place"] ["line", "place"] (defScope s_law_down) := ⟨rfl, rfl, rfl, by decide +kernel, rfl, by decide +kernel, by decide +kernel⟩
theorem cal_law_down (T : Tx K mg) : CalS P w K mg base CX0 1 "_law_down" (sp_law_down K) := by
  obtain ⟨fd, F⟩ := T.d_law_down
  refine ⟨_, fd, ["line", "place"], F.ok sc_law_down (fun vs H Q E h => ?len) (fun cdv A outer s H vs Q E hr h => ⟨_, PSs.nox (pss_cons (ps_if (PW.pt (pw_and (pt_cmpR op_lt (pv 1) (pe_callB call_len_str (by rfl) T.n_len (by decide +kernel) (pa_cons (pv 0) pa_nil)) (nomark _)) (pw_and1 (pt_cmpR op_eq (pe_ix ix_str (pv 0) (pv 1) (fun _ _ => rfl)) pe_str (nomark _))))) (pss_one (ps_ret (pe_op op_add (pv 1) pe_int))) pss_nil)
 (pss_cons (ps_if (PW.pt (pw_and (pt_cmpR op_gt (pv 1) pe_int (nomark _)) (pw_and1 (pt_cmpR op_eq (pe_ix ix_str (pv 0) (pe_op op_sub (pv 1) pe_int) (fun _ _ => rfl)) pe_str (nomark _))))) (pss_one (ps_ret (pe_op op_sub (pv 1) pe_int))) pss_nil)
 (pss_one (ps_ret (pv 1))))), ?body⟩), T.g_law_down, F.kp, F.bindsN fun _ _ _ _ _ _ us hl => match us, hl with | [_, _], _ => rfl⟩
  case len => obtain ⟨_, _, rfl, _⟩ := h; rfl
  case body =>
    obtain ⟨z, p, rfl, hz, hp, k⟩ := h
    have hzl : (S z).length ≤ sizeLine := sizes (by rw [S_len]; omega)
    walk_at "kk"
    walk_at "go"
    refine w_lenS hzl ?_
    walk_at "go"
    rw [S_len]
    refine w_dec (fun h1 => ?_) (fun h1 => ?_)
    · have e1 : z[p]? = some z[p] := List.getElem?_eq_getElem (by omega)
      walk_at "go"
      refine w_ixS hzl (atI_nat (by rw [S_list]; exact e1)) ?_
      walk_at "go"
      rw [dash_at e1]
      refine w_ite (fun h2 => ?_) (fun h2 => ?_)
      · walk_at "go"
        have e : down z p = p + 1 := by unfold down; rw [if_pos h2]
        rw [e] at k
        exact k
      · walk_at "go"
        refine w_dec (fun h3 => ?_) (fun h3 => ?_)
        · have e2 : z[p - 1]? = some z[p - 1] := List.getElem?_eq_getElem (by omega)
          walk_at "go"
          refine w_ixS hzl (at_of' (j := p - 1) (by omega) (by rw [S_list]; exact e2)) ?_
          walk_at "go"
          rw [dash_at e2]
          refine w_ite (fun h4 => ?_) (fun h4 => ?_)
          · walk_at "go"
            have e : down z p = p - 1 := by unfold down; rw [if_neg (by rw [h2]; decide), if_pos ⟨by omega, h4⟩]
            rw [e, show ((p - 1 : Nat) : Int) = (p : Int) - 1 by omega] at k
            exact k
          · walk_at "go"
            have e : down z p = p := by unfold down; rw [if_neg (by rw [h2]; decide), if_neg (fun q => by rw [h4] at q; exact Bool.noConfusion q.2)]
            rw [e] at k
            exact k
        · walk_at "go"
          refine w_F rfl ?_
          walk_at "go"
          have e : down z p = p := by unfold down; rw [if_neg (by rw [h2]; decide), if_neg (fun q => by omega)]
          rw [e] at k
          exact k
    · walk_at "go"
      refine w_F rfl ?_
      walk_at "go"
      have h2 : dash z p = false := dash_out (by omega)
      refine w_dec (fun h3 => ?_) (fun h3 => ?_)
      · by_cases h5 : p - 1 < z.length
        · have e2 : z[p - 1]? = some z[p - 1] := List.getElem?_eq_getElem h5
          walk_at "go"
          refine w_ixS hzl (at_of' (j := p - 1) (by omega) (by rw [S_list]; exact e2)) ?_
          walk_at "go"
          rw [dash_at e2]
          refine w_ite (fun h4 => ?_) (fun h4 => ?_)
          · walk_at "go"
            have e : down z p = p - 1 := by unfold down; rw [if_neg (by rw [h2]; decide), if_pos ⟨by omega, h4⟩]
            rw [e, show ((p - 1 : Nat) : Int) = (p : Int) - 1 by omega] at k
            exact k
          · walk_at "go"
            have e : down z p = p := by unfold down; rw [if_neg (by rw [h2]; decide), if_neg (fun q => by rw [h4] at q; exact Bool.noConfusion q.2)]
            rw [e] at k
            exact k
        · exact absurd hp (by omega)
      · walk_at "go"
        refine w_F rfl ?_
        walk_at "go"
        have e : down z p = p := by unfold down; rw [if_neg (by rw [h2]; decide), if_neg (fun q => by omega)]
        rw [e] at k
        exact k

def sp_law_taken (K : PySem.W.Frag) : Sp := fun vs H Q _ => ∃ (z : List Nat) (p : Nat), vs = [.str (S z), .int p] ∧ z.length ≤ 10000 ∧ p < z.length ∧
  (∀ s H', taken z p = some s → Same H H' → Q (.int (s : Nat)) H') ∧ (∀ H', taken z p = none → Same H H' → Q .non H')
theorem sc_law_taken : FnScope ["line", "spot", "place"] ["line", "spot"] (defScope s_law_taken) := ⟨rfl, rfl, rfl, by decide +kernel, rfl, by decide +kernel, by decide +kernel⟩
theorem cal_law_taken (T : Tx K mg) : CalS P w K mg base CX0 2 "_law_taken" (sp_law_taken K) := by
  obtain ⟨fd, F⟩ := T.d_law_taken
  refine ⟨_, fd, ["line", "spot"], F.ok sc_law_taken (fun vs H Q E h => ?len) (fun cdv A outer s H vs Q E hr h => ⟨_, PSs.nox (pss_cons (ps_for PassesOwn.never rfl (pi_tupK (K := K) (pe_tup (pa_cons (pv 1) (pa_cons (pe_op op_add (pv 1) pe_int) pa_nil)))) (pg_name (i := 2) sc_law_taken.nd rfl (by first | exact Or.inl rfl | exact Or.inr rfl))
 (pss_one (ps_if (pt_cmpR op_ne (pe_cs (cal_law_down (K := K) T) hr (by omega) (by rfl) (fun _ => pa0) (pa_cons (pv 0) (pa_cons (pv 2) pa_nil))) (pv 2) (nomark _)) (pss_one (ps_ret (pv 2))) pss_nil)))
 (pss_one (ps_ret pe_non))), ?body⟩), T.g_law_taken, F.kp, F.bindsN fun _ _ _ _ _ _ us hl => match us, hl with | [_, _], _ => rfl⟩
  case len => obtain ⟨_, _, rfl, _⟩ := h; rfl
  case body =>
    obtain ⟨z, p, rfl, hz, hp, k1, k2⟩ := h
    walk_at "kk"
    walk_at "go"
    wrow_read tp H1 N1
    have s1 := N1.sm
    have h1 := N1.at_
    refine w_rT (SqT.of h1) ?_
    refine ForT.run [V.int p, V.int ((p : Int) + 1)] (fun i σ H2 => H1 = H2 ∧ (∃ v, σ = [some (.str (S z)), some (.int p), v]) ∧ (1 ≤ i → down z p = p) ∧ (2 ≤ i → down z (p + 1) = p + 1)) ⟨rfl, ⟨_, rfl⟩, by omega, by omega⟩ (fun i σ H2 _ h => by rw [← h.1]; exact SqT.of h1) ?_ ?_
    · rintro i x _ _ hx ⟨rfl, ⟨v, rfl⟩, d1, d2⟩
      match i, hx with
      | 0, hx =>
        cases hx
        walk_at "go"
        refine ⟨z, p, rfl, hz, by omega, ?_⟩
        walk_at "go"
        refine w_ndec (fun g => ?_) (fun g => ?_)
        · walk_at "go"
          have g1 : down z p ≠ p := fun q => g (by rw [q])
          exact k1 p _ (by unfold taken; rw [if_pos g1]) s1
        · walk_at "go"
          have g1 : down z p = p := by have := V.int.inj g; omega
          exact ⟨rfl, ⟨_, rfl⟩, fun _ => g1, by omega⟩
      | 1, hx =>
        cases hx
        have e3 : (p : Int) + 1 = ((p + 1 : Nat) : Int) := by omega
        rw [e3]
        walk_at "go"
        refine ⟨z, p + 1, rfl, hz, by omega, ?_⟩
        walk_at "go"
        refine w_ndec (fun g => ?_) (fun g => ?_)
        · walk_at "go"
          have g1 : down z (p + 1) ≠ p + 1 := fun q => g (by rw [q])
          exact k1 (p + 1) _ (by unfold taken; rw [if_neg (by simp [d1 (by omega)]), if_pos g1]) s1
        · walk_at "go"
          have g1 : down z (p + 1) = p + 1 := by have := V.int.inj g; omega
          exact ⟨rfl, ⟨_, rfl⟩, fun _ => d1 (by omega), fun _ => g1⟩
      | j + 2, hx => simp at hx
    · rintro _ _ ⟨rfl, ⟨v, rfl⟩, d1, d2⟩
      walk_at "go"
      exact k2 _ (taken_none.mpr ⟨d1 (by simp), d2 (by simp)⟩) s1
def sp_law_set (K : PySem.W.Frag) : Sp := fun vs H Q _ => ∃ (z : List Nat) (p : Nat), vs = [.str (S z), .int p] ∧ z.length ≤ 10000 ∧ p < z.length ∧ Q (.str (S (z.set p 45))) H
theorem sc_law_set : FnScope ["line", "spot"] ["line", "spot"] (defScope s_law_set) := ⟨rfl, rfl, rfl, by decide +kernel, rfl, by decide +kernel, by decide +kernel⟩
theorem cal_law_set (T : Tx K mg) : CalS P w K mg base CX0 1 "_law_set" (sp_law_set K) := by
  obtain ⟨fd, F⟩ := T.d_law_set
  refine ⟨_, fd, ["line", "spot"], F.ok sc_law_set (fun vs H Q E h => ?len) (fun cdv A outer s H vs Q E hr h => ⟨_, PSs.nox (pss_one (ps_ret (pe_op op_add_str (pe_op op_add_str (pe_slice sl_str (pv 0) po_none (po_some (pv 1))) pe_str) (pe_slice sl_str (pv 0) (po_some (pe_op op_add (pv 1) pe_int)) po_none)))), ?body⟩), T.g_law_set, F.kp, F.bindsN fun _ _ _ _ _ _ us hl => match us, hl with | [_, _], _ => rfl⟩
  case len => obtain ⟨_, _, rfl, _⟩ := h; rfl
  case body =>
    obtain ⟨z, p, rfl, hz, hp, k⟩ := h
    have hs : sizeLine = 16777216 := by decide
    have lc : ∀ lo hi, (cutS (S z) lo hi).length ≤ 10000 := fun lo hi => Nat.le_trans cut_len (by omega)
    have ld : (Str.ofString "-").length = 1 := by rw [str_dash]; rfl
    walk_at "kk"
    walk_at "go"
    refine w_slS (sizes (by rw [S_len]; omega)) ?_
    walk_at "go"
    refine w_cat (by have := lc none (some (p : Int)); omega) ?_
    walk_at "go"
    refine w_slS (sizes (by rw [S_len]; omega)) ?_
    refine w_cat (by have h1 := lc none (some (p : Int)); have h2 := lc (some ((p : Int) + 1)) none; rw [app_len]; omega) ?_
    rw [str_dash, set_cut hp]
    exact k

def sp_law_posts (K : PySem.W.Frag) : Sp := fun vs H Q _ => ∃ (a : Addr) (ns : List Int) (at_ : Nat), vs = [.ref a, .int at_] ∧ SqL K H a (ns.map V.int) ∧ at_ ≤ 100000 ∧ ∀ (n : Nat) (H' : Hp), 1 ≤ n → n ≤ 40 → Same H H' → Q (.int n) H'
theorem drawn_at {ls ds : List Int} {i : Nat} {l : Int} (h : Drawn ls ds) (e : ls[i]? = some l) : ∃ d, ds[i]? = some d ∧ 0 ≤ d ∧ d < l := by
  induction ls generalizing ds i with
  | nil => cases e
  | cons x ls ih =>
    cases ds with
    | nil => exact h.elim
    | cons d ds =>
      cases i with
      | zero => cases e; exact ⟨d, rfl, h.1.1, h.1.2⟩
      | succ i => exact ih (ds := ds) (i := i) h.2 e
theorem atI_int {ds : List Int} {i : Nat} {d : Int} (e : ds[i]? = some d) : atI (ds.map V.int) (i : Int) = some (V.int d) := atI_nat (by rw [List.getElem?_map, e]; rfl)
theorem sc_law_posts : FnScope ["script", "at", "drawn"] ["script", "at"] (defScope s_law_posts) := ⟨rfl, rfl, rfl, by decide +kernel, rfl, by decide +kernel, by decide +kernel⟩
theorem cal_law_posts (T : Tx K mg) : CalS P w K mg base CX0 3 "_law_posts" (sp_law_posts K) := by
  obtain ⟨fd, F⟩ := T.d_law_posts
  refine ⟨_, fd, ["script", "at"], F.ok sc_law_posts (fun vs H Q E h => ?len) (fun cdv A outer s H vs Q E hr h => ⟨_, PSs.nox (pss_cons (ps_set (i := 2) sc_law_posts.nd rfl (by first | exact Or.inl rfl | exact Or.inr rfl) (pe_cs (cal_law_draws (K := K) T) hr (by omega) (by rfl) (fun _ => pa0) (pa_cons (pv 0) (pa_cons (pv 1) (pa_cons (pe_lst (pa_cons pe_int (pa_cons pe_int (pa_cons pe_int pa_nil)))) pa_nil)))))
 (pss_cons (ps_if (pt_cmpR op_eq (pe_ix (ix_listK (K := K)) (pv 2) pe_int (fun _ _ => rfl)) pe_int (nomark _)) (pss_one (ps_ret (pe_op op_add pe_int (pe_ix (ix_listK (K := K)) (pv 2) pe_int (fun _ _ => rfl))))) pss_nil)
 (pss_one (ps_ret (pe_op op_add pe_int (pe_ix (ix_listK (K := K)) (pv 2) pe_int (fun _ _ => rfl))))))), ?body⟩), T.g_law_posts, F.kp, F.bindsN fun _ _ _ _ _ _ us hl => match us, hl with | [_, _], _ => rfl⟩
  case len => obtain ⟨_, _, _, rfl, _⟩ := h; rfl
  case body =>
    obtain ⟨a, ns, at_, rfl, hS, ha, k⟩ := h
    walk_at "kk"
    walk_at "go"
    wrow_read lp H1 N1
    refine ⟨a, lp, ns, [8, 40, 9], at_, rfl, N1.sm.seq hS, SqL.of N1.at_, by decide, by decide, ha, fun H2 dp ds hd nd s2 h2 => ?_⟩
    obtain ⟨d0, e0, _, _⟩ := drawn_at hd (i := 0) rfl
    obtain ⟨d1, e1, l1, u1⟩ := drawn_at hd (i := 1) rfl
    obtain ⟨d2, e2, l2, u2⟩ := drawn_at hd (i := 2) rfl
    walk_at "go"
    refine w_ixL (SqL.of h2) (atI_int (i := 0) e0) ?_
    walk_at "go"
    refine w_dec (fun g => ?_) (fun g => ?_)
    · walk_at "go"
      refine w_ixL (SqL.of h2) (atI_int (i := 1) e1) ?_
      walk_at "go"
      rw [show 1 + d1 = ((1 + d1).toNat : Int) by omega]
      exact k _ _ (by omega) (by omega) (N1.sm.trans s2)
    · walk_at "go"
      refine w_ixL (SqL.of h2) (atI_int (i := 2) e2) ?_
      walk_at "go"
      rw [show 1 + d2 = ((1 + d2).toNat : Int) by omega]
      exact k _ _ (by omega) (by omega) (N1.sm.trans s2)

end
end Rg

set_option Elab.async false
set_option linter.all false
set_option maxRecDepth 100000
set_option maxHeartbeats 4000000
namespace Rg
open PySem L2
local macro_rules | `(tactic| wrow_read $p $h $n) => `(tactic| (refine ⟨sizes ?c, fun $p hp => ?_⟩; (case c => (first | exact Nat.le_of_ble_eq_true rfl | omega | (simp; omega))); generalize hg : upd _ $p _ = $h; have $n := New.of hp hg; clear hg hp))
local macro_rules | `(tactic| wrow_readAll $p $h $n) => `(tactic| (refine fun $p hp => ?_; generalize hg : upd _ $p _ = $h; have $n := New.of hp hg; clear hg hp))
local macro_rules | `(tactic| walk_at "kk") => `(tactic| dsimp only [cxK, noxK, blkK, trK, suK, L2.start, List.map_cons, List.map_nil, List.length_cons, List.length_nil, List.replicate, List.cons_append, List.nil_append, Nat.reduceAdd, Nat.reduceSub, List.append_nil])
local macro_rules | `(tactic| walk_at "ff") => `(tactic| first | assumption | (refine SqL.of ?_; walk_at "ff") | (refine SqT.of ?_; walk_at "ff") | (refine New.at_ (by assumption)) | (refine Same.at (by assumption) ?_; walk_at "ff") | (refine Same.at (New.sm (by assumption)) ?_; walk_at "ff") | (refine Same.seq (by assumption) ?_; walk_at "ff") | (refine Same.seqT (by assumption) ?_; walk_at "ff"))
local macro_rules | `(tactic| walk_at "sd") => `(tactic| first | decide | omega | assumption | exact Or.inl ⟨by decide, by decide⟩ | exact Or.inr ⟨by decide, by decide⟩ | exact ⟨by decide, by decide⟩ | exact ⟨by decide, by decide, by decide⟩ | exact Or.inl ⟨by omega, by omega⟩ | exact Or.inr ⟨by omega, by omega⟩ | exact ⟨by omega, by omega⟩ | exact ⟨by omega, by omega, by omega, by omega⟩)
local macro_rules | `(tactic| walk_at "g1") => `(tactic| first | ((with_reducible refine w_r1 ?c ?_); case c => ((try simp only [List.length_map]); walk_at "sd")) | ((with_reducible refine w_r2 ?c ?_); case c => ((try simp only [List.length_map]); walk_at "sd")) | (with_reducible first | refine w_seq ?_ | refine w_asg ?_ | refine w_sfld ?_ | refine w_make ?_ | refine w_methK ?_ | refine w_forS ?_ | refine w_m1 ?_ | refine w_isS ?_ | refine w_cnt ?_ | refine w_strE ?_ | refine w_makeK ?_ | refine w_inst ?_ | refine w_instK ?_ | refine w_prop ?_ | refine w_xf ?_ | refine w_rfl ?_ | refine w_ret ?_ | refine w_drop ?_ | refine w_next ?_ | refine w_if ?_ | refine w_var rfl ?_ | refine w_c ?_ | refine w_op ?_ | refine w_I0 ?_ | refine w_test ?_ | refine w_bl ?_ | refine w_cons ?_ | refine w_nil ?_ | refine w_cb ?_ | refine w_callS ?_ | refine w_un ?_ | refine w_U ?_ | refine w_eq rfl ?_ | refine w_ne rfl ?_ | refine w_not ?_ | refine w_and ?_ | refine w_or ?_ | refine w_B ?_ | refine w_sl ?_ | refine w_noPart ?_ | refine w_part ?_ | refine w_int ?_ | refine w_lst ?_ | refine w_tup ?_ | refine w_asgG ?_ | refine w_ifE ?_ | refine w_andV ?_ | refine w_orV ?_ | refine w_notV ?_ | refine w_meth ?_ | refine w_fld ?_ | refine w_brk ?_ | refine w_cont ?_ | refine w_retN ?_ | refine w_int1 ?_ | refine w_2i ?_ | refine w_1i ?_ | refine w_bm ?_ | refine w_bm0 ?_ | refine w_gsub ?_ | refine w_gcons ?_ | refine w_gnil ?_ | refine w_gname ?_ | refine w_forR1 ?_ | refine w_forR2 ?_ | refine w_forL ?_ | refine w_forT ?_ | refine w_listRg1 ?_ | refine w_lcR1 ?_ | refine w_lcR2 ?_ | refine w_lcL ?_ | refine w_yes ?_ | refine w_chain ?_ | refine w_mkoU ?_ | refine w_mko ?_ | refine w_sign ?_ | refine w_dash ?_) | ((with_reducible refine w_I ?c ?_); case c => walk_at "sd") | ((with_reducible refine w_lenL (xs := ?x) ?c ?_); case c => walk_at "ff") | ((with_reducible refine w_ixL (xs := ?x) (v := ?v) ?c ?e ?_); (case c => walk_at "ff"); (case e => with_reducible rfl)) | ((with_reducible refine w_rL (xs := ?x) ?c ?_); case c => walk_at "ff"))
local macro_rules | `(tactic| walk_at "go") => `(tactic| repeat walk_at "g1")
section
variable {P : Program} {w : World} {K : PySem.W.Frag} {mg : Str → Option Value} {base : Heap}
def sp_law_state (K : PySem.W.Frag) (C : Addr) : Sp := fun vs H Q _ => ∃ (m : Option Addr) (q : LQ) (st : LSt) (f : Int), vs = [.ref q.t, .int f] ∧ LadAt K C m H q st ∧ LOk st ∧
  ∀ pt pl pe H', H pl = none → H pe = none → pl ≠ pe → Same H H' → H' pt = some (.tup [.ref pl, .ref pe, .int (st.rungs.length : Int)]) → H' pl = some (.lst (txt st.lines)) → H' pe = some (.lst (nat (ordN st.n st.rungs))) → Q (.ref pt) H'
theorem sc_law_state : FnScope ["thing", "first", "lines", "ends"] ["thing", "first"] (defScope s_law_state) := ⟨rfl, rfl, rfl, by decide +kernel, rfl, by decide +kernel, by decide +kernel⟩
theorem cal_law_state (T : Tx K mg) : CalS P w K mg base CX0 6 "_law_state" (sp_law_state K (He.ga K "Ladder")) := by
  obtain ⟨fd, F⟩ := T.d_law_state
  refine ⟨_, fd, ["thing", "first"], F.ok sc_law_state (fun vs H Q E h => ?len) (fun cdv A outer s H vs Q E hr h => ⟨_, PSs.nox (C8.pss_cut (ps_if (pt_cmpR op_eq (pv 1) pe_int (nomark _)) (pss_cons (ps_set (i := 2) sc_law_state.nd rfl (by first | exact Or.inl rfl | exact Or.inr rfl) (pe_ps (prp_Ladder_rows (K := K) T) hr (by omega) passNox0 (pv 0) (by rfl)))
 (pss_one (ps_set (i := 3) sc_law_state.nd rfl (by first | exact Or.inl rfl | exact Or.inr rfl) (pe_ms0 (met_Ladder_order (K := K) T) hr (by omega) (fun _ => pa0) (pv 0))))) (pss_cons (ps_set (i := 3) sc_law_state.nd rfl (by first | exact Or.inl rfl | exact Or.inr rfl) (pe_ms0 (met_Ladder_order (K := K) T) hr (by omega) (fun _ => pa0) (pv 0)))
 (pss_one (ps_set (i := 2) sc_law_state.nd rfl (by first | exact Or.inl rfl | exact Or.inr rfl) (pe_ps (prp_Ladder_rows (K := K) T) hr (by omega) passNox0 (pv 0) (by rfl))))))
 (pss_one (ps_ret (pe_tup (pa_cons (pv 2) (pa_cons (pv 3) (pa_cons (pe_callB (call_lenO (len_Ladder (K := K) T) hr (by omega) passNox0) (by rfl) T.n_len (by decide +kernel) (pa_cons (pv 0) pa_nil)) pa_nil))))))), ?body⟩), T.g_law_state, F.kp, F.bindsN fun _ _ _ _ _ _ us hl => match us, hl with | [_, _], _ => rfl⟩
  case len => obtain ⟨_, _, _, _, rfl, _⟩ := h; rfl
  case body =>
    obtain ⟨m, q, st, f, rfl, hL, ok, k⟩ := h
    have hsr := ok.sr
    have L := lc_Ladder T
    walk_at "kk"
    walk_at "go"
    refine w_cut (fun σ H' => Same H H' ∧ ∃ pl pe, H pl = none ∧ H pe = none ∧ pl ≠ pe ∧ σ = [some (.ref q.t), some (.int f), some (.ref pl), some (.ref pe)] ∧ H' pl = some (.lst (txt st.lines)) ∧ H' pe = some (.lst (nat (ordN st.n st.rungs)))) ?_ ?_
    · walk_at "go"
      refine w_dec (fun g => ?_) (fun g => ?_)
      · walk_at "go"
        refine ⟨_, _, _, rfl, hL.ob, m, q, st, rfl, hL, fun pl H1 n1 s1 h1 => ?_⟩
        walk_at "go"
        refine f_meth (hL.same s1).ob (no_meth (by decide +kernel)) ?_
        walk_at "go"
        refine ⟨m, q, st, rfl, hL.same s1, ok, fun pe H2 n2 s2 h2 => ?_⟩
        exact ⟨s1.trans s2, pl, pe, n1, s1.free n2, ne_of_none h1 n2, rfl, s2 _ _ h1, h2⟩
      · walk_at "go"
        refine f_meth hL.ob (no_meth (by decide +kernel)) ?_
        walk_at "go"
        refine ⟨m, q, st, rfl, hL, ok, fun pe H1 n1 s1 h1 => ?_⟩
        walk_at "go"
        refine ⟨_, _, _, rfl, (hL.same s1).ob, m, q, st, rfl, hL.same s1, fun pl H2 n2 s2 h2 => ?_⟩
        exact ⟨s1.trans s2, pl, pe, s1.free n2, n1, (ne_of_none h1 n2).symm, rfl, h2, s2 _ _ h1⟩
    · rintro _ H1 ⟨s1, pl, pe, m1, m2, m3, rfl, h1, h2⟩
      have L1 := hL.same s1
      walk_at "go"
      refine ⟨_, rfl, ⟨_, _, L1.ob⟩, m, q, st, rfl, L1, _, rfl, ⟨by omega, by omega⟩, ?_⟩
      walk_at "go"
      wrow_read pt H3 N3
      exact k pt pl pe H3 m1 m2 m3 (s1.trans N3.sm) N3.at_ (N3.sm _ _ h1) (N3.sm _ _ h2)

end
end Rg

set_option Elab.async false
set_option linter.all false
set_option maxRecDepth 100000
set_option maxHeartbeats 4000000
namespace Rg
open PySem L2
local macro_rules | `(tactic| wrow_read $p $h $n) => `(tactic| (refine ⟨sizes ?c, fun $p hp => ?_⟩; (case c => (first | exact Nat.le_of_ble_eq_true rfl | omega | (simp; omega))); generalize hg : upd _ $p _ = $h; have $n := New.of hp hg; clear hg hp))
local macro_rules | `(tactic| wrow_readAll $p $h $n) => `(tactic| (refine fun $p hp => ?_; generalize hg : upd _ $p _ = $h; have $n := New.of hp hg; clear hg hp))
local macro_rules | `(tactic| walk_at "kk") => `(tactic| dsimp only [cxK, noxK, blkK, trK, suK, L2.start, List.map_cons, List.map_nil, List.length_cons, List.length_nil, List.replicate, List.cons_append, List.nil_append, Nat.reduceAdd, Nat.reduceSub, List.append_nil])
local macro_rules | `(tactic| walk_at "ff") => `(tactic| first | assumption | (refine SqL.of ?_; walk_at "ff") | (refine SqT.of ?_; walk_at "ff") | (refine New.at_ (by assumption)) | (refine Same.at (by assumption) ?_; walk_at "ff") | (refine Same.at (New.sm (by assumption)) ?_; walk_at "ff") | (refine Same.seq (by assumption) ?_; walk_at "ff") | (refine Same.seqT (by assumption) ?_; walk_at "ff"))
local macro_rules | `(tactic| walk_at "sd") => `(tactic| first | decide | omega | assumption | exact Or.inl ⟨by decide, by decide⟩ | exact Or.inr ⟨by decide, by decide⟩ | exact ⟨by decide, by decide⟩ | exact ⟨by decide, by decide, by decide⟩ | exact Or.inl ⟨by omega, by omega⟩ | exact Or.inr ⟨by omega, by omega⟩ | exact ⟨by omega, by omega⟩ | exact ⟨by omega, by omega, by omega, by omega⟩)
local macro_rules | `(tactic| walk_at "g1") => `(tactic| first | ((with_reducible refine w_r1 ?c ?_); case c => ((try simp only [List.length_map]); walk_at "sd")) | ((with_reducible refine w_r2 ?c ?_); case c => ((try simp only [List.length_map]); walk_at "sd")) | (with_reducible first | refine w_seq ?_ | refine w_asg ?_ | refine w_sfld ?_ | refine w_make ?_ | refine w_methK ?_ | refine w_forS ?_ | refine w_m1 ?_ | refine w_isS ?_ | refine w_cnt ?_ | refine w_strE ?_ | refine w_makeK ?_ | refine w_inst ?_ | refine w_instK ?_ | refine w_prop ?_ | refine w_xf ?_ | refine w_rfl ?_ | refine w_ret ?_ | refine w_drop ?_ | refine w_next ?_ | refine w_if ?_ | refine w_var rfl ?_ | refine w_c ?_ | refine w_op ?_ | refine w_I0 ?_ | refine w_test ?_ | refine w_bl ?_ | refine w_cons ?_ | refine w_nil ?_ | refine w_cb ?_ | refine w_callS ?_ | refine w_un ?_ | refine w_U ?_ | refine w_eq rfl ?_ | refine w_ne rfl ?_ | refine w_not ?_ | refine w_and ?_ | refine w_or ?_ | refine w_B ?_ | refine w_sl ?_ | refine w_noPart ?_ | refine w_part ?_ | refine w_int ?_ | refine w_lst ?_ | refine w_tup ?_ | refine w_asgG ?_ | refine w_ifE ?_ | refine w_andV ?_ | refine w_orV ?_ | refine w_notV ?_ | refine w_meth ?_ | refine w_fld ?_ | refine w_brk ?_ | refine w_cont ?_ | refine w_retN ?_ | refine w_int1 ?_ | refine w_2i ?_ | refine w_1i ?_ | refine w_bm ?_ | refine w_bm0 ?_ | refine w_gsub ?_ | refine w_gcons ?_ | refine w_gnil ?_ | refine w_gname ?_ | refine w_forR1 ?_ | refine w_forR2 ?_ | refine w_forL ?_ | refine w_forT ?_ | refine w_listRg1 ?_ | refine w_lcR1 ?_ | refine w_lcR2 ?_ | refine w_lcL ?_ | refine w_yes ?_ | refine w_chain ?_ | refine w_mkoU ?_ | refine w_mko ?_ | refine w_sign ?_ | refine w_dash ?_) | ((with_reducible refine w_I ?c ?_); case c => walk_at "sd") | ((with_reducible refine w_lenL (xs := ?x) ?c ?_); case c => walk_at "ff") | ((with_reducible refine w_ixL (xs := ?x) (v := ?v) ?c ?e ?_); (case c => walk_at "ff"); (case e => with_reducible rfl)) | ((with_reducible refine w_rL (xs := ?x) ?c ?_); case c => walk_at "ff"))
local macro_rules | `(tactic| walk_at "go") => `(tactic| repeat walk_at "g1")
section
variable {P : Program} {w : World} {K : PySem.W.Frag} {mg : Str → Option Value} {base : Heap}
theorem NewI.of {C x dx : Addr} {H H1 : Hp} (h1 : H x = none) (h2 : H dx = none) (h3 : dx ≠ x) (e : upd (upd H dx (.own x)) x (.ins C dx []) = H1) : NewI C x dx H H1 := by
  subst e
  exact ⟨h1, h2, h3, Same.mut (Same.mut (Same.refl _) h2) h1, upd_same⟩
/-! what the law keeps -/
def Off (q : LQ) (b : Addr) : Prop := b ≠ q.t ∧ b ≠ q.l ∧ b ≠ q.r ∧ b ≠ q.d
theorem Off.of {C : Addr} {m : Option Addr} {H : Hp} {q : LQ} {st : LSt} {b : Addr} (h : LadAt K C m H q st) (n : H b = none) : Off q b := by
  refine ⟨fun e => ?_, fun e => ?_, fun e => ?_, fun e => ?_⟩
  · rw [e, h.ob] at n; cases n
  · rw [e, h.hl] at n; cases n
  · rw [e, h.hr] at n; cases n
  · rw [e, h.hd] at n; cases n
theorem Frm.at_ {q : LQ} {H H' : Hp} {b : Addr} {o : HO} (f : Frm q H H') (n : Off q b) (e : H b = some o) : H' b = some o := f b o n.1 n.2.1 n.2.2.1 n.2.2.2 e
def Off4 (q q' : LQ) : Prop := Off q q'.t ∧ Off q q'.l ∧ Off q q'.r ∧ Off q q'.d
theorem LadAt.frm {C : Addr} {m : Option Addr} {H H' : Hp} {q q' : LQ} {st : LSt} (h : LadAt K C m H q' st) (f : Frm q H H') (n : Off4 q q') : LadAt K C m H' q' st :=
  ⟨f.at_ n.1 h.ob, f.at_ n.2.1 h.hl, f.at_ n.2.2.1 h.hr, f.at_ n.2.2.2 h.hd, h.lr, h.ld, h.rd⟩
theorem LadAt.but {C : Addr} {m : Option Addr} {H H' : Hp} {q : LQ} {st : LSt} {b : Addr} (h : LadAt K C m H q st) (f : But b H H') (n : Off q b) : LadAt K C m H' q st :=
  ⟨f _ _ n.1.symm h.ob, f _ _ n.2.1.symm h.hl, f _ _ n.2.2.1.symm h.hr, f _ _ n.2.2.2.symm h.hd, h.lr, h.ld, h.rd⟩
def Non4 (H : Hp) (q : LQ) : Prop := H q.t = none ∧ H q.l = none ∧ H q.r = none ∧ H q.d = none
theorem Frm.same {q : LQ} {H0 H H' : Hp} (f : Frm q H H') (s : Same H0 H) (n : Non4 H0 q) : Same H0 H' := fun b o e =>
  f b o (fun z => by rw [z, n.1] at e; cases e) (fun z => by rw [z, n.2.1] at e; cases e) (fun z => by rw [z, n.2.2.1] at e; cases e) (fun z => by rw [z, n.2.2.2] at e; cases e) (s b o e)
theorem dashes_row0 (n : Nat) : dashes (row0 n) = [] := by
  unfold dashes
  rw [List.filter_eq_nil_iff]
  intro i hi
  have h : i < (row0 n).length := List.mem_range.mp hi
  unfold dash
  rw [List.getElem?_eq_getElem h]
  simp [row0]
theorem add0_rungs {st : LSt} {n : Nat} : (st.add (row0 n)).rungs = st.rungs := by
  show st.rungs ++ dashes (row0 n) = st.rungs
  rw [dashes_row0, List.append_nil]
theorem add_ok {st : LSt} {z : List Nat} (ok : LOk st) (hz : z.length = st.n - 1) (h1 : st.lines.length < 1000) (h2 : st.rungs.length + z.length ≤ 10000) (h3 : st.deeds.length < 1000) : LOk (st.add z) := by
  refine ⟨ok.n1, ok.n2, ?_, ?_, ?_, ?_, ?_, ?_⟩
  · simp [LSt.add]
  · intro l hl
    simp only [LSt.add] at hl ⊢
    rcases List.mem_append.mp hl with h | h
    · exact ok.w l h
    · rw [List.mem_singleton.mp h, hz]
  · intro r hr
    simp only [LSt.add] at hr ⊢
    rcases List.mem_append.mp hr with h | h
    · exact ok.rg r h
    · have := List.mem_range.mp (List.mem_filter.mp h).1
      have := ok.n1
      omega
  · simp only [LSt.add, List.length_append, List.length_singleton]; omega
  · simp only [LSt.add, List.length_append]; have := @dashes_len z; omega
  · simp only [LSt.add, List.length_append, List.length_singleton]; omega
theorem Eqd.tupE {H : Hp} {n : Nat} {a b : Addr} {xs : List V} (h1 : SqT K H a xs) (h2 : SqT K H b xs) (l : xs.length ≤ 100000) (h : ∀ x ∈ xs, scl x = true) : Eqd K (n + 2) H (.ref a) (.ref b) :=
  Eqd.tup h1 h2 rfl l fun i u v p q => by
    rw [p] at q
    cases q
    exact Eqd.sc (h u (List.mem_of_getElem? p))
theorem scl_txt {ls : List (List Nat)} : ∀ x ∈ txt ls, scl x = true := by
  intro x hx
  obtain ⟨l, _, rfl⟩ := List.mem_map.mp hx
  rfl
theorem scl_nat {rs : List Nat} : ∀ x ∈ nat rs, scl x = true := by
  intro x hx
  obtain ⟨l, _, rfl⟩ := List.mem_map.mp hx
  rfl
/-- two tuples of a lines' list, an ends' list, a number -/
theorem Eqd.state {H : Hp} {n : Nat} {p p' a b a' b' : Addr} {ls : List (List Nat)} {rs : List Nat} {k : Int} (h1 : H p = some (.tup [.ref a, .ref b, .int k])) (h2 : H p' = some (.tup [.ref a', .ref b', .int k]))
    (e1 : H a = some (.lst (txt ls))) (e2 : H a' = some (.lst (txt ls))) (e3 : H b = some (.lst (nat rs))) (e4 : H b' = some (.lst (nat rs))) (l1 : ls.length ≤ 10000) (l2 : rs.length ≤ 10000) : Eqd K (n + 3) H (.ref p) (.ref p') := by
  refine Eqd.tup (SqT.of h1) (SqT.of h2) rfl (by show 3 ≤ 100000; decide) fun i u v p q => ?_
  match i, p, q with
  | 0, p, q => cases p; cases q; exact Eqd.lst (SqL.of e1) (SqL.of e2) rfl (by rw [List.length_map]; omega) scl_txt
  | 1, p, q => cases p; cases q; exact Eqd.lst (SqL.of e3) (SqL.of e4) rfl (by rw [List.length_map]; omega) scl_nat
  | 2, p, q => cases p; cases q; exact Eqd.sc rfl
  | i + 3, p, q => cases p
structure J (K : PySem.W.Frag) (H0 : Hp) (n : Nat) (q1 q2 : LQ) (pL pE : Addr) (st : LSt) (H : Hp) : Prop where
  sm : Same H0 H
  l1 : LadAt K (He.ga K "Ladder") none H q1 st
  l2 : LadAt K (He.ga K "Ladder") none H q2 ⟨n, [row0 n], [], []⟩
  ok : LOk st
  hn : st.n = n
  pl : H pL = some (.lst (txt st.lines))
  pe : H pE = some (.lst (nat (ordN n st.rungs)))
  o2 : Off4 q1 q2
  oL : Off q1 pL
  oL2 : Off q2 pL
  oE : Off q1 pE
  eL : pE ≠ pL
  f1 : Non4 H0 q1
  fL : H0 pL = none
theorem J.same {H0 H H' : Hp} {n : Nat} {q1 q2 : LQ} {pL pE : Addr} {st : LSt} (j : J K H0 n q1 q2 pL pE st H) (s : Same H H') : J K H0 n q1 q2 pL pE st H' :=
  { j with sm := j.sm.trans s, l1 := j.l1.same s, l2 := j.l2.same s, pl := s _ _ j.pl, pe := s _ _ j.pe }
def swV (p : Nat) : V → V
  | .int i => .int (sw p i.toNat : Nat)
  | v => v
theorem map_swV {p : Nat} {rs : List Nat} : (nat rs).map (swV p) = nat (rs.map (sw p)) := by
  simp [nat, swV]
theorem bar_len {p n : Nat} (h : p + 1 < n) : (List.replicate p 46 ++ 45 :: List.replicate (n - 2 - p) 46).length = n - 1 := by
  simp
  omega
theorem bar_eq {p n : Nat} (h : p + 1 < n) : Txt.mul (Str.ofString ".") (p : Int) ++ Str.ofString "-" ++ Txt.mul (Str.ofString ".") ((n : Int) - 2 - (p : Int)) = S (List.replicate p 46 ++ 45 :: List.replicate (n - 2 - p) 46) := by
  rw [mul_dot, mul_dot, str_dash, Int.toNat_natCast, show ((n : Int) - 2 - (p : Int)).toNat = n - 2 - p by omega]
  show S _ ++ S [45] ++ S _ = _
  rw [S_app, S_app]
  simp
theorem mul_dot_len {n : Int} (h : n ≤ 10000) : (Txt.mul (Str.ofString ".") n).length ≤ 10000 := by
  rw [mul_dot, S_len, List.length_replicate]
  omega
theorem ordN_lt {n i w : Nat} {rs : List Nat} (h : ∀ p ∈ rs, p + 1 < n) (e : (ordN n rs)[i]? = some w) : w < n := by
  unfold ordN at e
  rw [List.getElem?_map] at e
  obtain ⟨s, hs, rfl⟩ := Option.map_eq_some_iff.mp e
  have hl : s < n := List.mem_range.mp (List.mem_of_getElem? hs)
  exact run_lt h hl
theorem nat_at {rs : List Nat} {i : Nat} {x : V} (h : (nat rs)[i]? = some x) : ∃ w : Nat, rs[i]? = some w ∧ x = V.int (w : Int) := by
  unfold nat at h
  rw [List.getElem?_map] at h
  obtain ⟨w, hw, e⟩ := Option.map_eq_some_iff.mp h
  exact ⟨w, hw, e.symm⟩

/-! a row of rungs at once -/
theorem run_app (a b : List Nat) (s : Nat) : run (a ++ b) s = run b (run a s) := by
  unfold run
  rw [List.foldl_append]
theorem dash_lt {z : List Nat} {i : Nat} (h : dash z i = true) : i < z.length := by
  rcases Nat.lt_or_ge i z.length with q | q
  · exact q
  · rw [dash_out q] at h; cases h
theorem dd_of {z : List Nat} {i : Nat} (h0 : dash z i = true) (h1 : dash z (i + 1) = true) : DD z := ⟨i, of_decide_eq_true h0, of_decide_eq_true h1⟩
def dn (z : List Nat) (m i : Nat) : Nat := if dash z i = true ∧ i < m then i + 1 else if 0 < i ∧ dash z (i - 1) = true ∧ i - 1 < m then i - 1 else i
theorem run_dn {z : List Nat} (h : ¬ DD z) : ∀ (m i : Nat), run ((List.range m).filter (dash z)) i = dn z m i
  | 0, i => by simp [run, dn]
  | m + 1, i => by
    rw [List.range_succ, List.filter_append, run_app, run_dn h m i]
    by_cases hd : dash z m = true
    · rw [List.filter_cons, if_pos hd, List.filter_nil]
      show sw m (dn z m i) = _
      unfold dn
      by_cases c1 : dash z i = true ∧ i < m
      · rw [if_pos c1, if_pos ⟨c1.1, by omega⟩]
        have : i + 1 ≠ m := fun e => h (dd_of c1.1 (by rw [e]; exact hd))
        unfold sw
        rw [if_neg this, if_neg (by omega)]
      · rw [if_neg c1]
        by_cases c2 : 0 < i ∧ dash z (i - 1) = true ∧ i - 1 < m
        · rw [if_pos c2]
          have hi : ¬ (dash z i = true ∧ i < m + 1) := fun q => h (dd_of c2.2.1 (by rw [Nat.sub_add_cancel c2.1]; exact q.1))
          rw [if_neg hi, if_pos ⟨c2.1, c2.2.1, by omega⟩]
          unfold sw
          rw [if_neg (by omega), if_neg (by omega)]
        · rw [if_neg c2]
          unfold sw
          by_cases e1 : i = m
          · rw [if_pos e1, if_pos ⟨by rw [e1]; exact hd, by omega⟩, e1]
          · rw [if_neg e1]
            by_cases e2 : i = m + 1
            · rw [if_pos e2, if_neg (by omega), if_pos ⟨by omega, by rw [e2]; exact hd, by omega⟩]
              omega
            · rw [if_neg e2, if_neg (fun q => c1 ⟨q.1, by omega⟩), if_neg (fun q => c2 ⟨q.1, q.2.1, by omega⟩)]
    · rw [List.filter_cons, if_neg hd, List.filter_nil]
      show dn z m i = _
      unfold dn
      by_cases c1 : dash z i = true ∧ i < m
      · rw [if_pos c1, if_pos ⟨c1.1, by omega⟩]
      · have c1' : ¬ (dash z i = true ∧ i < m + 1) := fun q => by
          by_cases e : i = m
          · exact hd (by rw [← e]; exact q.1)
          · exact c1 ⟨q.1, by omega⟩
        rw [if_neg c1, if_neg c1']
        by_cases c2 : 0 < i ∧ dash z (i - 1) = true ∧ i - 1 < m
        · rw [if_pos c2, if_pos ⟨c2.1, c2.2.1, by omega⟩]
        · rw [if_neg c2, if_neg (fun q => by
            by_cases e : i - 1 = m
            · exact hd (by rw [← e]; exact q.2.1)
            · exact c2 ⟨q.1, q.2.1, by omega⟩)]
theorem run_dashes {z : List Nat} (h : ¬ DD z) (i : Nat) : run (dashes z) i = down z i := by
  unfold dashes
  rw [run_dn h]
  unfold dn down
  by_cases c1 : dash z i = true
  · rw [if_pos ⟨c1, dash_lt c1⟩, if_pos c1]
  · rw [if_neg (fun q => c1 q.1), if_neg c1]
    by_cases c2 : 0 < i ∧ dash z (i - 1) = true
    · rw [if_pos ⟨c2.1, c2.2, dash_lt c2.2⟩, if_pos c2]
    · rw [if_neg (fun q => c2 ⟨q.1, q.2.1⟩), if_neg c2]
theorem ordN_add {n : Nat} {rs z : List Nat} (h : ¬ DD z) : ordN n (rs ++ dashes z) = (ordN n rs).map (down z) := by
  unfold ordN
  rw [List.map_map]
  refine List.map_congr_left fun s _ => ?_
  show run (rs ++ dashes z) s = down z (run rs s)
  rw [run_app, run_dashes h]
def downV (z : List Nat) : V → V
  | .int i => .int (down z i.toNat : Nat)
  | v => v
theorem map_downV {z rs : List Nat} : (nat rs).map (downV z) = nat (rs.map (down z)) := by
  simp [nat, downV]
theorem row0_row {n : Nat} : Row n (row0 n) := by
  refine ⟨by simp [row0], fun ⟨i, h, _⟩ => ?_, fun c hc => ?_⟩
  · have := List.mem_of_getElem? h
    simp [row0] at this
  · simp [row0] at hc
    exact .inr hc.2
theorem rep_int (n : Nat) (k : Int) : (List.replicate n [V.int k]).flatten = (List.replicate n k).map V.int := by
  induction n with
  | zero => rfl
  | succ n ih => rw [List.replicate_succ, List.replicate_succ, List.flatten_cons, ih]; rfl
theorem cutV_from {ds : List Int} {k : Nat} (h : k ≤ ds.length) : cutV (ds.map V.int) (some (k : Int)) none = (ds.drop k).map V.int := by
  unfold cutV
  rw [HT.sIx_nat, HT.sIx_none, List.length_map, Nat.min_eq_left h]
  rw [← List.map_drop, List.take_of_length_le (by rw [List.length_map, List.length_drop]; exact Nat.le_refl _)]
/-- what a law of one ladder keeps -/
structure J1 (K : PySem.W.Frag) (H0 : Hp) (n : Nat) (q1 : LQ) (pL pE : Addr) (ls : List (List Nat)) (rs : List Nat) (st : LSt) (H : Hp) : Prop where
  sm : Same H0 H
  l1 : LadAt K (He.ga K "Ladder") none H q1 st
  ok : LOk st
  hn : st.n = n
  pl : H pL = some (.lst (txt ls))
  pe : H pE = some (.lst (nat (ordN n rs)))
  oL : Off q1 pL
  oE : Off q1 pE
  eL : pE ≠ pL
  f1 : Non4 H0 q1
  fL : H0 pL = none
theorem J1.same {H0 H H' : Hp} {n : Nat} {q1 : LQ} {pL pE : Addr} {ls : List (List Nat)} {rs : List Nat} {st : LSt} (j : J1 K H0 n q1 pL pE ls rs st H) (s : Same H H') : J1 K H0 n q1 pL pE ls rs st H' :=
  { j with sm := j.sm.trans s, l1 := j.l1.same s, pl := s _ _ j.pl, pe := s _ _ j.pe }

end
end Rg

set_option Elab.async false
set_option linter.all false
set_option maxRecDepth 100000
set_option maxHeartbeats 4000000
namespace Rg
open PySem L2
local macro_rules | `(tactic| wrow_read $p $h $n) => `(tactic| (refine ⟨sizes ?c, fun $p hp => ?_⟩; (case c => (first | exact Nat.le_of_ble_eq_true rfl | omega | (simp; omega))); generalize hg : upd _ $p _ = $h; have $n := New.of hp hg; clear hg hp))
local macro_rules | `(tactic| wrow_readAll $p $h $n) => `(tactic| (refine fun $p hp => ?_; generalize hg : upd _ $p _ = $h; have $n := New.of hp hg; clear hg hp))
local macro_rules | `(tactic| walk_at "kk") => `(tactic| dsimp only [cxK, noxK, blkK, trK, suK, L2.start, List.map_cons, List.map_nil, List.length_cons, List.length_nil, List.replicate, List.cons_append, List.nil_append, Nat.reduceAdd, Nat.reduceSub, List.append_nil])
local macro_rules | `(tactic| walk_at "ff") => `(tactic| first | assumption | (refine SqL.of ?_; walk_at "ff") | (refine SqT.of ?_; walk_at "ff") | (refine New.at_ (by assumption)) | (refine Same.at (by assumption) ?_; walk_at "ff") | (refine Same.at (New.sm (by assumption)) ?_; walk_at "ff") | (refine Same.seq (by assumption) ?_; walk_at "ff") | (refine Same.seqT (by assumption) ?_; walk_at "ff"))
local macro_rules | `(tactic| walk_at "sd") => `(tactic| first | decide | omega | assumption | exact Or.inl ⟨by decide, by decide⟩ | exact Or.inr ⟨by decide, by decide⟩ | exact ⟨by decide, by decide⟩ | exact ⟨by decide, by decide, by decide⟩ | exact Or.inl ⟨by omega, by omega⟩ | exact Or.inr ⟨by omega, by omega⟩ | exact ⟨by omega, by omega⟩ | exact ⟨by omega, by omega, by omega, by omega⟩)
local macro_rules | `(tactic| walk_at "g1") => `(tactic| first | ((with_reducible refine w_r1 ?c ?_); case c => ((try simp only [List.length_map]); walk_at "sd")) | ((with_reducible refine w_r2 ?c ?_); case c => ((try simp only [List.length_map]); walk_at "sd")) | (with_reducible first | refine w_seq ?_ | refine w_asg ?_ | refine w_sfld ?_ | refine w_make ?_ | refine w_methK ?_ | refine w_forS ?_ | refine w_m1 ?_ | refine w_isS ?_ | refine w_cnt ?_ | refine w_strE ?_ | refine w_makeK ?_ | refine w_inst ?_ | refine w_instK ?_ | refine w_prop ?_ | refine w_xf ?_ | refine w_rfl ?_ | refine w_ret ?_ | refine w_drop ?_ | refine w_next ?_ | refine w_if ?_ | refine w_var rfl ?_ | refine w_c ?_ | refine w_op ?_ | refine w_I0 ?_ | refine w_test ?_ | refine w_bl ?_ | refine w_cons ?_ | refine w_nil ?_ | refine w_cb ?_ | refine w_callS ?_ | refine w_un ?_ | refine w_U ?_ | refine w_eq rfl ?_ | refine w_ne rfl ?_ | refine w_not ?_ | refine w_and ?_ | refine w_or ?_ | refine w_B ?_ | refine w_sl ?_ | refine w_noPart ?_ | refine w_part ?_ | refine w_int ?_ | refine w_lst ?_ | refine w_tup ?_ | refine w_asgG ?_ | refine w_ifE ?_ | refine w_andV ?_ | refine w_orV ?_ | refine w_notV ?_ | refine w_meth ?_ | refine w_fld ?_ | refine w_brk ?_ | refine w_cont ?_ | refine w_retN ?_ | refine w_int1 ?_ | refine w_2i ?_ | refine w_1i ?_ | refine w_bm ?_ | refine w_bm0 ?_ | refine w_gsub ?_ | refine w_gcons ?_ | refine w_gnil ?_ | refine w_gname ?_ | refine w_forR1 ?_ | refine w_forR2 ?_ | refine w_forL ?_ | refine w_forT ?_ | refine w_listRg1 ?_ | refine w_lcR1 ?_ | refine w_lcR2 ?_ | refine w_lcL ?_ | refine w_yes ?_ | refine w_chain ?_ | refine w_mkoU ?_ | refine w_mko ?_ | refine w_sign ?_ | refine w_dash ?_) | ((with_reducible refine w_I ?c ?_); case c => walk_at "sd") | ((with_reducible refine w_lenL (xs := ?x) ?c ?_); case c => walk_at "ff") | ((with_reducible refine w_ixL (xs := ?x) (v := ?v) ?c ?e ?_); (case c => walk_at "ff"); (case e => with_reducible rfl)) | ((with_reducible refine w_rL (xs := ?x) ?c ?_); case c => walk_at "ff"))
local macro_rules | `(tactic| walk_at "go") => `(tactic| repeat walk_at "g1")
section
variable {P : Program} {w : World} {K : PySem.W.Frag} {mg : Str → Option Value} {base : Heap}
/-! states told, histories -/
theorem cal_law_text' (T : Tx K mg) : CalS P w K mg base CX0 1 "_law_text" (spLawText K) := cal_law_text T
/-- the tuple at p tells the state st, apart from the ladder at q -/
def StO (q : LQ) (H : Hp) (p : Addr) (st : LSt) : Prop := ∃ pl pe, H p = some (.tup [.ref pl, .ref pe, .int (st.rungs.length : Int)]) ∧ H pl = some (.lst (txt st.lines)) ∧ H pe = some (.lst (nat (ordN st.n st.rungs))) ∧ Off q p ∧ Off q pl ∧ Off q pe
theorem StO.same {q : LQ} {H H' : Hp} {p : Addr} {st : LSt} (h : StO q H p st) (s : Same H H') : StO q H' p st := by
  obtain ⟨pl, pe, h1, h2, h3, h4, h5, h6⟩ := h
  exact ⟨pl, pe, s _ _ h1, s _ _ h2, s _ _ h3, h4, h5, h6⟩
/-- rows: their signs -/
def Sg (z : List Nat) : Prop := ∀ c ∈ z, c = 45 ∨ c = 46
def Lz (st : LSt) : Prop := ∀ l ∈ st.lines, Sg l
/-- one deed: d a number that names the post -/
def Stp (n : Nat) (st st' : LSt) : Prop := (∃ (p : Nat) (ls : List (List Nat)) (z : List Nat), p + 1 < n ∧ st.lines = ls ++ [z] ∧ taken z p = none ∧ z[p]? = some 46 ∧ st' = st.set p) ∨ (∃ y, Row n y ∧ st' = st.add y ∧ st.rungs.length + (dashes y).length ≤ 60)
theorem taken_46 {z : List Nat} {p : Nat} (h : Sg z) (hp : p < z.length) (t : taken z p = none) : z[p]? = some 46 := by
  have e1 : z[p]? = some z[p] := List.getElem?_eq_getElem hp
  have d := (taken_none.mp t).1
  have nd : ¬ dash z p = true := fun q => by
    have := (down_ne (l := z) (i := p)).mpr (.inl q)
    exact this d
  rw [e1]
  rcases h z[p] (List.getElem_mem hp) with e | e
  · exfalso
    apply nd
    unfold dash
    rw [e1, e]
    rfl
  · rw [e]
theorem row_of_sg {n : Nat} {y : List Nat} (h : Row n y) (no : 45 ∉ y) : y = row0 n := by
  obtain ⟨h1, _, h3⟩ := h
  unfold row0
  rw [← h1]
  refine List.ext_getElem (by simp) fun i hi hj => ?_
  rw [List.getElem_replicate]
  rcases h3 y[i] (List.getElem_mem hi) with e | e
  · exact absurd (by rw [← e]; exact List.getElem_mem hi) no
  · exact e
/-- what a state of a history keeps: i its place -/
structure LK (n i : Nat) (st : LSt) : Prop where
  ok : LOk st
  hn : st.n = n
  sg : Lz st
  b1 : st.lines.length ≤ i + 1
  b2 : st.rungs.length ≤ 60
  b3 : st.deeds.length = i
theorem setLast_sg {ls : List (List Nat)} {z : List Nat} {p : Nat} (h : ∀ l ∈ ls ++ [z], Sg l) : ∀ l ∈ setLast (ls ++ [z]) p, Sg l := by
  intro l hl
  rw [setLast_eq] at hl
  rcases List.mem_append.mp hl with q | q
  · exact h l (List.mem_append_left _ q)
  · rw [List.mem_singleton.mp q]
    intro c hc
    rcases List.mem_or_eq_of_mem_set hc with q | q
    · exact h z (by simp) c q
    · exact .inl q
theorem LK.step {n i : Nat} {st st' : LSt} (k : LK n i st) (hi : i < 900) (hn : n ≤ 40) (h : Stp n st st') (hb : st.rungs.length < 60) : LK n (i + 1) st' := by
  have := k.b1
  have := k.b3
  rcases h with ⟨p, ls, z, hp, hz, _, _, rfl⟩ | ⟨y, hy, rfl, hr⟩
  · refine ⟨set_ok k.ok (by rw [k.hn]; exact hp) (by omega) (by omega), k.hn, ?_, ?_, ?_, ?_⟩
    · intro l hl
      have e : (st.set p).lines = setLast (ls ++ [z]) p := by simp only [LSt.set]; rw [hz]
      rw [e] at hl
      exact setLast_sg (by rw [← hz]; exact k.sg) l hl
    · simp only [LSt.set]
      rw [hz, setLast_eq, List.length_append]
      have := k.b1
      rw [hz, List.length_append] at this
      exact Nat.le_trans this (Nat.le_succ _)
    · simp [LSt.set]; omega
    · simp [LSt.set]; omega
  · refine ⟨add_ok k.ok (by rw [hy.1, k.hn]) (by omega) (by have := hy.1; omega) (by omega), k.hn, ?_, ?_, ?_, ?_⟩
    · intro l hl
      rcases List.mem_append.mp (show l ∈ st.lines ++ [y] from hl) with q | q
      · exact k.sg l q
      · rw [List.mem_singleton.mp q]; exact hy.2.2
    · simp [LSt.add]; omega
    · simp [LSt.add]; omega
    · simp [LSt.add]; omega
/-! _law_looked, _law_empty -/
def sp_law_looked (K : PySem.W.Frag) : Sp := fun vs H Q _ => ∃ (q : LQ) (st : LSt) (p : Addr) (k : Int), vs = [.ref q.t, .ref p, .int k] ∧ LadAt K (He.ga K "Ladder") none H q st ∧ LOk st ∧ StO q H p st ∧ ∀ H', Same H H' → Q (.bl true) H'
theorem sc_law_looked : FnScope ["thing", "state", "kind"] ["thing", "state", "kind"] (defScope s_law_looked) := ⟨rfl, rfl, rfl, by decide +kernel, rfl, by decide +kernel, by decide +kernel⟩
theorem cal_law_looked (T : Tx K mg) : CalS P w K mg base CX0 7 "_law_looked" (sp_law_looked K) := by
  obtain ⟨fd, F⟩ := T.d_law_looked
  refine ⟨_, fd, ["thing", "state", "kind"], F.ok sc_law_looked (fun vs H Q E h => ?len) (fun cdv A outer s H vs Q E hr h => ⟨_, PSs.nox (pss_cons (ps_if (pt_cmpR op_eq (pv 2) pe_int (nomark _)) (pss_one (ps_ret (pe_cs (cal_law_same (K := K) T 5) hr (by omega) (by rfl) (fun _ => pa0) (pa_cons (pe_cs (cal_law_state (K := K) T) hr (by omega) (by rfl) (fun _ => pa0) (pa_cons (pv 0) (pa_cons (pe_op op_mod (pe_ix (ix_tupK (K := K)) (pv 1) pe_int (fun _ _ => rfl)) pe_int) pa_nil))) (pa_cons (pv 1) pa_nil))))) pss_nil)
 (pss_cons (ps_if (pt_cmpR op_eq (pv 2) pe_int (nomark _)) (pss_one (ps_ret (pe_cs (cal_law_same (K := K) T 5) hr (by omega) (by rfl) (fun _ => pa0) (pa_cons (pe_callB (call_lenO (len_Ladder (K := K) T) hr (by omega) passNox0) (by rfl) T.n_len (by decide +kernel) (pa_cons (pv 0) pa_nil)) (pa_cons (pe_ix (ix_tupK (K := K)) (pv 1) pe_int (fun _ _ => rfl)) pa_nil))))) pss_nil)
 (pss_cons (ps_if (pt_cmpR op_eq (pv 2) pe_int (nomark _)) (pss_one (ps_ret (pe_cs (cal_law_same (K := K) T 5) hr (by omega) (by rfl) (fun _ => pa0) (pa_cons (pe_ps (prp_Ladder_rows (K := K) T) hr (by omega) passNox0 (pv 0) (by rfl)) (pa_cons (pe_ix (ix_tupK (K := K)) (pv 1) pe_int (fun _ _ => rfl)) pa_nil))))) pss_nil)
 (pss_cons (ps_if (pt_cmpR op_eq (pv 2) pe_int (nomark _)) (pss_one (ps_ret (pe_cs (cal_law_same (K := K) T 5) hr (by omega) (by rfl) (fun _ => pa0) (pa_cons (pe_ms0 (met_Ladder_order (K := K) T) hr (by omega) (fun _ => pa0) (pv 0)) (pa_cons (pe_ix (ix_tupK (K := K)) (pv 1) pe_int (fun _ _ => rfl)) pa_nil))))) pss_nil)
 (pss_one (ps_ret pe_bl)))))), ?body⟩), T.g_law_looked, F.kp, F.bindsN fun _ _ _ _ _ _ us hl => match us, hl with | [_, _, _], _ => rfl⟩
  case len => obtain ⟨_, _, _, _, rfl, _⟩ := h; rfl
  case body =>
    obtain ⟨q, st, p, kd, rfl, hL, ok, ⟨pl, pe, h1, h2, h3, o1, o2, o3⟩, k⟩ := h
    have L := lc_Ladder T
    have hsr := ok.sr
    have hsl := ok.sl
    have hn2 := ok.n2
    have ho : (ordN st.n st.rungs).length ≤ 10000 := by rw [ordN_len]; omega
    walk_at "kk"
    walk_at "go"
    refine w_dec (fun g => ?_) (fun g => ?_)
    · walk_at "go"
      refine w_ixT (SqT.of h1) (atI_nat (j := 2) rfl) ?_
      walk_at "go"
      refine ⟨none, q, st, _, rfl, hL, ok, fun pt pl' pe' H1 _ _ _ s1 g1 g2 g3 => ?_⟩
      walk_at "go"
      exact ⟨_, _, rfl, Eqd.state g1 (s1 _ _ h1) g2 (s1 _ _ h2) g3 (s1 _ _ h3) (by omega) ho, fun H2 s2 => k _ (s1.trans s2)⟩
    · walk_at "go"
      refine w_dec (fun g => ?_) (fun g => ?_)
      · walk_at "go"
        refine ⟨_, rfl, ⟨_, _, hL.ob⟩, none, q, st, rfl, hL, _, rfl, ⟨by omega, by omega⟩, ?_⟩
        walk_at "go"
        refine w_ixT (SqT.of h1) (atI_nat (j := 2) rfl) ?_
        walk_at "go"
        exact ⟨_, _, rfl, Eqd.int rfl, fun H2 s2 => k _ s2⟩
      · walk_at "go"
        refine w_dec (fun g => ?_) (fun g => ?_)
        · walk_at "go"
          refine ⟨_, _, _, rfl, hL.ob, none, q, st, rfl, hL, fun pl' H1 n1 s1 g1 => ?_⟩
          walk_at "go"
          refine w_ixT (SqT.of (s1 _ _ h1)) (atI_nat (j := 0) rfl) ?_
          walk_at "go"
          exact ⟨_, _, rfl, Eqd.lst (SqL.of g1) (SqL.of (s1 _ _ h2)) rfl (by rw [List.length_map]; omega) scl_txt, fun H2 s2 => k _ (s1.trans s2)⟩
        · walk_at "go"
          refine w_dec (fun g => ?_) (fun g => ?_)
          · walk_at "go"
            refine f_meth hL.ob (no_meth (by decide +kernel)) ?_
            walk_at "go"
            refine ⟨none, q, st, rfl, hL, ok, fun pe' H1 n1 s1 g1 => ?_⟩
            walk_at "go"
            refine w_ixT (SqT.of (s1 _ _ h1)) (atI_nat (j := 1) rfl) ?_
            walk_at "go"
            exact ⟨_, _, rfl, Eqd.lst (SqL.of g1) (SqL.of (s1 _ _ h3)) rfl (by rw [List.length_map]; omega) scl_nat, fun H2 s2 => k _ (s1.trans s2)⟩
          · walk_at "go"
            exact k _ (Same.refl _)
def sp_law_empty (K : PySem.W.Frag) : Sp := fun vs H Q _ => ∃ (q : LQ) (st : LSt), vs = [.ref q.t] ∧ LadAt K (He.ga K "Ladder") none H q st ∧ LOk st ∧ st.deeds = [] ∧ ∀ H', Same H H' → Q (.bl true) H'
theorem sc_law_empty : FnScope ["thing", "found", "e"] ["thing"] (defScope s_law_empty) := ⟨rfl, rfl, rfl, by decide +kernel, rfl, by decide +kernel, by decide +kernel⟩
theorem cal_law_empty (T : Tx K mg) : CalS P w K mg base CX0 7 "_law_empty" (sp_law_empty K) := by
  obtain ⟨fd, F⟩ := T.d_law_empty
  refine ⟨_, fd, ["thing"], F.ok sc_law_empty (fun vs H Q E h => ?len) (fun cdv A outer s H vs Q E hr h => ⟨_, PSs.nox (pss_cons (ps_set (i := 1) sc_law_empty.nd rfl (by first | exact Or.inl rfl | exact Or.inr rfl) pe_non)
 (pss_cons (ps_tryN rfl rfl takes0 (fun W pn xe tk po => (pss_one (ps_expr (pe_ms0 (met_Ladder_undo (K := K) T) hr (by omega) (fun σ => passAt tk σ) (pv 0))))) (HdsN.as (i := 2) ⟨rfl, by decide, .inl T.e_NothingToUndo⟩ sc_law_empty.nd rfl rfl (fun a oe cls d pn hz hf => (pss_one (ps_set (i := 1) sc_law_empty.nd rfl (by first | exact Or.inl rfl | exact Or.inr rfl) (pe_xf T.xf_NothingToUndo T.xn_NothingToUndo hz hf (pv 2))))) HdsN.nil))
 (pss_one (ps_ret (pe_cs (cal_law_same (K := K) T 5) hr (by omega) (by rfl) (fun _ => pa0) (pa_cons (pv 1) (pa_cons pe_int pa_nil))))))), ?body⟩), T.g_law_empty, F.kp, F.bindsN fun _ _ _ _ _ _ us hl => match us, hl with | [_], _ => rfl⟩
  case len => obtain ⟨_, _, rfl, _⟩ := h; rfl
  case body =>
    obtain ⟨q, st, rfl, hL, ok, he, k⟩ := h
    walk_at "kk"
    walk_at "go"
    refine f_meth hL.ob (no_meth (by decide +kernel)) ?_
    walk_at "go"
    refine ⟨none, q, st, rfl, hL, ok, .inl ⟨he, fun d H' nd sm hd => ?_⟩⟩
    refine ⟨true, T.exm_NothingToUndo_NothingToUndo, fun _ a na => ?_, fun q => Bool.noConfusion q⟩
    walk_at "kk"
    walk_at "go"
    refine ⟨rfl, rfl, d, _, _, rfl, hd, rfl, ?_⟩
    walk_at "go"
    exact ⟨_, _, rfl, Eqd.int rfl, fun H2 s2 => k _ (sm.trans s2)⟩
/-! _law_done -/
def sp_law_done (K : PySem.W.Frag) : Sp := fun vs H Q _ => ∃ (q : LQ) (st st' : LSt) (n i : Nat) (p p' pd : Addr) (ds : List Int) (d1 d2 : Int), vs = [.ref q.t, .ref p, .ref p', .ref pd, .int n] ∧ LadAt K (He.ga K "Ladder") none H q st ∧ LK n i st ∧ i ≤ 800 ∧ n ≤ 40 ∧ StO q H p st ∧ StO q H p' st' ∧
  H pd = some (.lst (ds.map V.int)) ∧ ds[1]? = some d1 ∧ ds[2]? = some d2 ∧ ((∃ (p : Nat) (ls : List (List Nat)) (z : List Nat), (p : Int) = d1 % ((n : Int) - 1) ∧ p + 1 < n ∧ st.lines = ls ++ [z] ∧ taken z p = none ∧ z[p]? = some 46 ∧ st' = st.set p) ∨ (∃ y, Row n y ∧ st' = st.add y ∧ st.rungs.length + (dashes y).length ≤ 60)) ∧
  ∀ H', LadAt K (He.ga K "Ladder") none H' q st' → Frm q H H' → Q (.bl true) H'
theorem sc_law_done : FnScope ["thing", "before", "after", "drawn", "size"] ["thing", "before", "after", "drawn", "size"] (defScope s_law_done) := ⟨rfl, rfl, rfl, by decide +kernel, rfl, by decide +kernel, by decide +kernel⟩
theorem cal_law_done (T : Tx K mg) : CalS P w K mg base CX0 7 "_law_done" (sp_law_done K) := by
  obtain ⟨fd, F⟩ := T.d_law_done
  refine ⟨_, fd, ["thing", "before", "after", "drawn", "size"], F.ok sc_law_done (fun vs H Q E h => ?len) (fun cdv A outer s H vs Q E hr h => ⟨_, PSs.nox (pss_cons (ps_if (pt_cmpR op_eq (pe_callB (call_len_seqK (K := K)) (by rfl) T.n_len (by decide +kernel) (pa_cons (pe_ix (ix_tupK (K := K)) (pv 2) pe_int (fun _ _ => rfl)) pa_nil)) (pe_callB (call_len_seqK (K := K)) (by rfl) T.n_len (by decide +kernel) (pa_cons (pe_ix (ix_tupK (K := K)) (pv 1) pe_int (fun _ _ => rfl)) pa_nil)) (nomark _)) (pss_one (ps_ret (pe_cs (cal_law_same (K := K) T 5) hr (by omega) (by rfl) (fun _ => pa0) (pa_cons (pe_is (ins_Ladder (K := K) T) hr (by omega) (fun _ => paL) (pv 0) (pa_cons (pe_op op_mod (pe_ix (ix_listK (K := K)) (pv 3) pe_int (fun _ _ => rfl)) (pe_op op_sub (pv 4) pe_int)) pa_nil)) (pa_cons (pe_ix (ix_tupK (K := K)) (pv 2) pe_int (fun _ _ => rfl)) pa_nil))))) pss_nil)
 (pss_cons (ps_if (PW.pt (pw_or (pt_cmpR op_in_sign pe_str (pe_ix (ix_listK (K := K)) (pe_ix (ix_tupK (K := K)) (pv 2) pe_int (fun _ _ => rfl)) (pe_un un_neg pe_int) (fun _ _ => rfl)) (by rfl)) (pw_or1 (pt_cmpR op_eq (pe_ix (ix_listK (K := K)) (pv 3) pe_int (fun _ _ => rfl)) pe_int (nomark _))))) (pss_one (ps_ret (pe_cmpR op_isN (pe_ms (met_Ladder_add_row (K := K) T) hr (by omega) (fun _ => paL) (pv 0) (pa_cons (pe_ix (ix_listK (K := K)) (pe_ix (ix_tupK (K := K)) (pv 2) pe_int (fun _ _ => rfl)) (pe_un un_neg pe_int) (fun _ _ => rfl)) pa_nil)) pe_non (nomark _)))) pss_nil)
 (pss_one (ps_ret (pe_cs (cal_law_same (K := K) T 5) hr (by omega) (by rfl) (fun _ => pa0) (pa_cons (pe_ms0 (met_Ladder_next_row (K := K) T) hr (by omega) (fun _ => pa0) (pv 0)) (pa_cons (pe_callB (call_len_seqK (K := K)) (by rfl) T.n_len (by decide +kernel) (pa_cons (pe_ix (ix_tupK (K := K)) (pv 2) pe_int (fun _ _ => rfl)) pa_nil)) pa_nil))))))), ?body⟩), T.g_law_done, F.kp, F.bindsN fun _ _ _ _ _ _ us hl => match us, hl with | [_, _, _, _, _], _ => rfl⟩
  case len => obtain ⟨_, _, _, _, _, _, _, _, _, _, _, rfl, _⟩ := h; rfl
  case body =>
    obtain ⟨q, st, st', n, i, p, p', pd, ds, d1, d2, rfl, hL, kk, hi, hn, ⟨pl, pe, h1, h2, h3, o1, o2, o3⟩, ⟨pl', pe', g1, g2, g3, u1, u2, u3⟩, hpd, e1, e2, hs, k⟩ := h
    have kb1 := kk.b1
    have kb2 := kk.b2
    have kb3 := kk.b3
    walk_at "kk"
    walk_at "go"
    refine w_ixT (SqT.of g1) (atI_nat (j := 0) rfl) ?_
    walk_at "go"
    refine w_ixT (SqT.of h1) (atI_nat (j := 0) rfl) ?_
    walk_at "go"
    rcases hs with ⟨pp, ls, z, hpp, hp1, hz, ht, h46, rfl⟩ | ⟨y, hy, rfl, hr⟩
    · have el : (txt (st.set pp).lines).length = (txt st.lines).length := by
        simp only [LSt.set]
        rw [hz, setLast_eq]
        simp [txt]
      rw [el]
      refine w_T (decide_eq_true rfl) ?_
      walk_at "go"
      refine ⟨_, rfl, ?_⟩
      walk_at "go"
      refine w_ixL (SqL.of hpd) (atI_int (i := 1) e1) ?_
      walk_at "go"
      rw [← hpp]
      have hpn : pp + 1 < st.n := by rw [kk.hn]; exact hp1
      refine ⟨⟨_, _, hL.ob⟩, none, q, st, pp, ls, z, rfl, hL, kk.ok, by omega, by omega, hz, fun g => absurd ⟨by omega, by omega⟩ g, fun _ _ s hs' => (by rw [Int.toNat_natCast, ht] at hs'; cases hs'), fun _ _ _ H' pa hl hf hna hpa => ?_⟩
      rw [Int.toNat_natCast] at hl hpa
      walk_at "go"
      refine w_ixT (SqT.of (hf.at_ u1 g1)) (atI_nat (j := 1) rfl) ?_
      walk_at "go"
      exact ⟨_, _, rfl, Eqd.lst (SqL.of hpa) (SqL.of (hf.at_ u3 g3)) rfl (by rw [List.length_map, ordN_len, kk.hn]; omega) scl_nat, fun H2 s2 => k H2 (hl.same s2) (hf.trans (Frm.of s2))⟩
    · have el : (txt (st.add y).lines).length = (txt st.lines).length + 1 := by simp [LSt.add, txt]
      refine w_F (decide_eq_false fun q => by have := V.int.inj q; omega) ?_
      walk_at "go"
      have ey : txt (st.add y).lines = txt st.lines ++ [V.str (S y)] := by simp [LSt.add, txt]
      have hys : Row st.n y := by rw [kk.hn]; exact hy
      refine w_ixT (SqT.of g1) (atI_nat (j := 0) rfl) ?_
      walk_at "go"
      refine w_ixL (SqL.of g2) (by rw [ey]; exact atI_last _ _) ?_
      walk_at "go"
      rw [S_list]
      refine w_dec (fun g => ?_) (fun g => ?_)
      · walk_at "go"
        refine w_T rfl ?_
        walk_at "go"
        refine f_meth hL.ob (no_meth (by decide +kernel)) ?_
        walk_at "go"
        refine w_ixT (SqT.of g1) (atI_nat (j := 0) rfl) ?_
        walk_at "go"
        refine w_ixL (SqL.of g2) (by rw [ey]; exact atI_last _ _) ?_
        walk_at "go"
        refine ⟨none, q, st, y, rfl, hL, kk.ok, by have := hy.1; omega, fun z => absurd hys z, fun _ H' hl hf => ?_⟩
        walk_at "go"
        exact k H' hl hf
      · walk_at "go"
        refine w_ixL (SqL.of hpd) (atI_int (i := 2) e2) ?_
        walk_at "go"
        refine w_dec (fun g' => ?_) (fun g' => ?_)
        · walk_at "go"
          refine f_meth hL.ob (no_meth (by decide +kernel)) ?_
          walk_at "go"
          refine w_ixT (SqT.of g1) (atI_nat (j := 0) rfl) ?_
          walk_at "go"
          refine w_ixL (SqL.of g2) (by rw [ey]; exact atI_last _ _) ?_
          walk_at "go"
          refine ⟨none, q, st, y, rfl, hL, kk.ok, by have := hy.1; omega, fun z => absurd hys z, fun _ H' hl hf => ?_⟩
          walk_at "go"
          exact k H' hl hf
        · walk_at "go"
          refine f_meth hL.ob (no_meth (by decide +kernel)) ?_
          walk_at "go"
          refine ⟨none, q, st, rfl, hL, kk.ok, fun H' hl hf => ?_⟩
          rw [kk.hn, ← row_of_sg hy g] at hl
          walk_at "go"
          refine w_ixT (SqT.of (hf.at_ u1 g1)) (atI_nat (j := 0) rfl) ?_
          walk_at "go"
          refine w_lenL (SqL.of (hf.at_ u2 g2)) ?_
          walk_at "go"
          exact ⟨_, _, rfl, Eqd.int (by rw [el, List.length_map]; omega), fun H2 s2 => k H2 (hl.same s2) (hf.trans (Frm.of s2))⟩

end
end Rg

set_option Elab.async false
set_option linter.all false
set_option maxRecDepth 100000
set_option maxHeartbeats 4000000
namespace Rg
open PySem L2
local macro_rules | `(tactic| wrow_read $p $h $n) => `(tactic| (refine ⟨sizes ?c, fun $p hp => ?_⟩; (case c => (first | exact Nat.le_of_ble_eq_true rfl | omega | (simp; omega))); generalize hg : upd _ $p _ = $h; have $n := New.of hp hg; clear hg hp))
local macro_rules | `(tactic| wrow_readAll $p $h $n) => `(tactic| (refine fun $p hp => ?_; generalize hg : upd _ $p _ = $h; have $n := New.of hp hg; clear hg hp))
local macro_rules | `(tactic| walk_at "kk") => `(tactic| dsimp only [cxK, noxK, blkK, trK, suK, L2.start, List.map_cons, List.map_nil, List.length_cons, List.length_nil, List.replicate, List.cons_append, List.nil_append, Nat.reduceAdd, Nat.reduceSub, List.append_nil])
local macro_rules | `(tactic| walk_at "ff") => `(tactic| first | assumption | (refine SqL.of ?_; walk_at "ff") | (refine SqT.of ?_; walk_at "ff") | (refine New.at_ (by assumption)) | (refine Same.at (by assumption) ?_; walk_at "ff") | (refine Same.at (New.sm (by assumption)) ?_; walk_at "ff") | (refine Same.seq (by assumption) ?_; walk_at "ff") | (refine Same.seqT (by assumption) ?_; walk_at "ff"))
local macro_rules | `(tactic| walk_at "sd") => `(tactic| first | decide | omega | assumption | exact Or.inl ⟨by decide, by decide⟩ | exact Or.inr ⟨by decide, by decide⟩ | exact ⟨by decide, by decide⟩ | exact ⟨by decide, by decide, by decide⟩ | exact Or.inl ⟨by omega, by omega⟩ | exact Or.inr ⟨by omega, by omega⟩ | exact ⟨by omega, by omega⟩ | exact ⟨by omega, by omega, by omega, by omega⟩)
local macro_rules | `(tactic| walk_at "g1") => `(tactic| first | ((with_reducible refine w_r1 ?c ?_); case c => ((try simp only [List.length_map]); walk_at "sd")) | ((with_reducible refine w_r2 ?c ?_); case c => ((try simp only [List.length_map]); walk_at "sd")) | (with_reducible first | refine w_seq ?_ | refine w_asg ?_ | refine w_sfld ?_ | refine w_make ?_ | refine w_methK ?_ | refine w_forS ?_ | refine w_m1 ?_ | refine w_isS ?_ | refine w_cnt ?_ | refine w_strE ?_ | refine w_makeK ?_ | refine w_inst ?_ | refine w_instK ?_ | refine w_prop ?_ | refine w_xf ?_ | refine w_rfl ?_ | refine w_ret ?_ | refine w_drop ?_ | refine w_next ?_ | refine w_if ?_ | refine w_var rfl ?_ | refine w_c ?_ | refine w_op ?_ | refine w_I0 ?_ | refine w_test ?_ | refine w_bl ?_ | refine w_cons ?_ | refine w_nil ?_ | refine w_cb ?_ | refine w_callS ?_ | refine w_un ?_ | refine w_U ?_ | refine w_eq rfl ?_ | refine w_ne rfl ?_ | refine w_not ?_ | refine w_and ?_ | refine w_or ?_ | refine w_B ?_ | refine w_sl ?_ | refine w_noPart ?_ | refine w_part ?_ | refine w_int ?_ | refine w_lst ?_ | refine w_tup ?_ | refine w_asgG ?_ | refine w_ifE ?_ | refine w_andV ?_ | refine w_orV ?_ | refine w_notV ?_ | refine w_meth ?_ | refine w_fld ?_ | refine w_brk ?_ | refine w_cont ?_ | refine w_retN ?_ | refine w_int1 ?_ | refine w_2i ?_ | refine w_1i ?_ | refine w_bm ?_ | refine w_bm0 ?_ | refine w_gsub ?_ | refine w_gcons ?_ | refine w_gnil ?_ | refine w_gname ?_ | refine w_forR1 ?_ | refine w_forR2 ?_ | refine w_forL ?_ | refine w_forT ?_ | refine w_listRg1 ?_ | refine w_lcR1 ?_ | refine w_lcR2 ?_ | refine w_lcL ?_ | refine w_yes ?_ | refine w_chain ?_ | refine w_mkoU ?_ | refine w_mko ?_ | refine w_sign ?_ | refine w_dash ?_) | ((with_reducible refine w_I ?c ?_); case c => walk_at "sd") | ((with_reducible refine w_lenL (xs := ?x) ?c ?_); case c => walk_at "ff") | ((with_reducible refine w_ixL (xs := ?x) (v := ?v) ?c ?e ?_); (case c => walk_at "ff"); (case e => with_reducible rfl)) | ((with_reducible refine w_rL (xs := ?x) ?c ?_); case c => walk_at "ff"))
local macro_rules | `(tactic| walk_at "go") => `(tactic| repeat walk_at "g1")
section
variable {P : Program} {w : World} {K : PySem.W.Frag} {mg : Str → Option Value} {base : Heap}
/-! _law_next -/
/-- a deed that is told: d1 names the post -/
def StpD (n : Nat) (d1 : Int) (st st' : LSt) : Prop := (∃ (p : Nat) (ls : List (List Nat)) (z : List Nat), (p : Int) = d1 % ((n : Int) - 1) ∧ p + 1 < n ∧ st.lines = ls ++ [z] ∧ taken z p = none ∧ z[p]? = some 46 ∧ st' = st.set p) ∨ (∃ y, Row n y ∧ st' = st.add y ∧ st.rungs.length + (dashes y).length ≤ 60)
theorem StpD.stp {n : Nat} {d1 : Int} {st st' : LSt} (h : StpD n d1 st st') : Stp n st st' := by
  rcases h with ⟨p, ls, z, _, h⟩ | h
  · exact .inl ⟨p, ls, z, h⟩
  · exact .inr h
def sp_law_next (K : PySem.W.Frag) : Sp := fun vs H Q _ => ∃ (q : LQ) (st : LSt) (n i : Nat) (p pd : Addr) (ds : List Int) (d0 d1 : Int), vs = [.ref p, .ref pd, .int n] ∧ LK n i st ∧ i ≤ 800 ∧ 1 ≤ n ∧ n ≤ 40 ∧ st.rungs.length < 60 ∧ StO q H p st ∧
  H pd = some (.lst (ds.map V.int)) ∧ ds[0]? = some d0 ∧ ds[1]? = some d1 ∧ 0 ≤ d1 ∧ 4 ≤ ds.length ∧ ds.length ≤ 1000 ∧ (d0 = 1 → ds.length = 4 + (n - 1)) ∧
  ∀ st' p' pl' pe' H', StpD n d1 st st' → Same H H' → H p' = none → H pl' = none → H pe' = none → H' p' = some (.tup [.ref pl', .ref pe', .int (st'.rungs.length : Int)]) → H' pl' = some (.lst (txt st'.lines)) → H' pe' = some (.lst (nat (ordN st'.n st'.rungs))) → Q (.ref p') H'
theorem sc_law_next : FnScope ["before", "drawn", "size", "lines", "spot", "line", "ends", "single", "end"] ["before", "drawn", "size"] (defScope s_law_next) := ⟨rfl, rfl, rfl, by decide +kernel, rfl, by decide +kernel, by decide +kernel⟩
theorem cal_law_next (T : Tx K mg) : CalS P w K mg base CX0 3 "_law_next" (sp_law_next K) := by
  obtain ⟨fd, F⟩ := T.d_law_next
  refine ⟨_, fd, ["before", "drawn", "size"], F.ok sc_law_next (fun vs H Q E h => ?len) (fun cdv A outer s H vs Q E hr h => ⟨_, PSs.nox (pss_cons (ps_set (i := 3) sc_law_next.nd rfl (by first | exact Or.inl rfl | exact Or.inr rfl) (pe_callTy (call_list_ofK (K := K)) (by rfl) T.n_list (by decide +kernel) (pa_cons (pe_ix (ix_tupK (K := K)) (pv 0) pe_int (fun _ _ => rfl)) pa_nil)))
 (pss_cons (ps_set (i := 4) sc_law_next.nd rfl (by first | exact Or.inl rfl | exact Or.inr rfl) (pe_op op_mod (pe_ix (ix_listK (K := K)) (pv 1) pe_int (fun _ _ => rfl)) (pe_callB (call_max2 rfl) (by rfl) T.n_max (by decide +kernel) (pa_cons pe_int (pa_cons (pe_op op_sub (pv 2) pe_int) pa_nil)))))
 (pss_cons (ps_set (i := 5) sc_law_next.nd rfl (by first | exact Or.inl rfl | exact Or.inr rfl) (pe_cs (cal_law_text (K := K) T) hr (by omega) (by rfl) (fun _ => pa0) (pa_cons (pe_slice (sl_listK (K := K)) (pv 1) (po_some pe_int) po_none) pa_nil)))
 (C8.pss_cut (ps_if (PW.pt (pw_and (pt_cmpR op_eq (pe_ix (ix_listK (K := K)) (pv 1) pe_int (fun _ _ => rfl)) pe_int (nomark _)) (pw_and (pt_cmpR op_gt (pv 2) pe_int (nomark _)) (pw_and1 (pt_cmpR op_isN (pe_cs (cal_law_taken (K := K) T) hr (by omega) (by rfl) (fun _ => pa0) (pa_cons (pe_ix (ix_listK (K := K)) (pv 3) (pe_un un_neg pe_int) (fun _ _ => rfl)) (pa_cons (pv 4) pa_nil))) pe_non (nomark _)))))) (pss_cons (ps_asg (pe_cs (cal_law_set (K := K) T) hr (by omega) (by rfl) (fun _ => pa0) (pa_cons (pe_ix (ix_listK (K := K)) (pv 3) (pe_un un_neg pe_int) (fun _ _ => rfl)) (pa_cons (pv 4) pa_nil))) (pg_sub (pv 3) (pe_un un_neg pe_int) set_list))
 (pss_cons (ps_set (i := 7) sc_law_next.nd rfl (by first | exact Or.inl rfl | exact Or.inr rfl) (pe_op op_add_str (pe_op op_add_str (pe_op op_repS pe_str (pv 4)) pe_str) (pe_op op_repS pe_str (pe_op op_sub (pe_op op_sub (pv 2) pe_int) (pv 4)))))
 (pss_one (ps_ret (pe_tup (pa_cons (pv 3) (pa_cons (pe_lc (own := [("end", 8)]) rfl sc_law_next.nd (pi_listK (K := K) (pe_ix (ix_tupK (K := K)) (pv 0) pe_int (fun _ _ => rfl))) (blkOk_by (own := [("end", 8)]) (N := ["before", "drawn", "size", "lines", "spot", "line", "ends", "single", "end"]) (sc := defScope s_law_next) (by decide +kernel)) (fun _ _ _ _ _ => (pg_name (i := 8) sc_law_next.nd rfl (by first | exact Or.inl rfl | exact Or.inr rfl))) (fun _ _ _ _ _ => pts_nil) (fun _ _ _ _ _ => (pe_cs (cal_law_down (K := K) T) hr (by omega) (by rfl) (fun _ => pa0) (pa_cons (pv 7) (pa_cons (pv 8) pa_nil))))) (pa_cons (pe_op op_add (pe_ix (ix_tupK (K := K)) (pv 0) pe_int (fun _ _ => rfl)) pe_int) pa_nil)))))))) pss_nil)
 (C8.pss_cut (ps_if (PW.pt (pw_or (pt_cmpR op_ne (pe_ix (ix_listK (K := K)) (pv 1) pe_int (fun _ _ => rfl)) pe_int (nomark _)) (pw_or1 (pt_cmpR op_gt (pe_op op_add (pe_ix (ix_tupK (K := K)) (pv 0) pe_int (fun _ _ => rfl)) (pe_m1 PySem.F.slot_str_count PySem.F.type_str_count mt_count (pv 5) pe_str)) pe_int (nomark _))))) (pss_one (ps_set (i := 5) sc_law_next.nd rfl (by first | exact Or.inl rfl | exact Or.inr rfl) (pe_op op_repS pe_str (pe_op op_sub (pv 2) pe_int)))) pss_nil)
 (pss_cons (ps_setLc (i := 6) (own := [("end", 8)]) rfl sc_law_next.nd rfl rfl (sw_true rfl rfl rfl (by decide +kernel)) (pi_listK (K := K) (pe_ix (ix_tupK (K := K)) (pv 0) pe_int (fun _ _ => rfl))) (blkOk_by (own := [("end", 8)]) (N := ["before", "drawn", "size", "lines", "spot", "line", "ends", "single", "end"]) (sc := defScope s_law_next) (by decide +kernel)) (fun _ _ _ _ _ => (pg_name (i := 8) sc_law_next.nd rfl (by first | exact Or.inl rfl | exact Or.inr rfl))) (fun _ _ _ _ _ => pts_nil) (fun _ _ _ _ _ => (pe_cs (cal_law_down (K := K) T) hr (by omega) (by rfl) (fun _ => pa0) (pa_cons (pv 5) (pa_cons (pv 8) pa_nil)))))
 (pss_one (ps_ret (pe_tup (pa_cons (pe_op op_cat (pv 3) (pe_lst (pa_cons (pv 5) pa_nil))) (pa_cons (pv 6) (pa_cons (pe_op op_add (pe_ix (ix_tupK (K := K)) (pv 0) pe_int (fun _ _ => rfl)) (pe_m1 PySem.F.slot_str_count PySem.F.type_str_count mt_count (pv 5) pe_str)) pa_nil)))))))))))), ?body⟩), T.g_law_next, F.kp, F.bindsN fun _ _ _ _ _ _ us hl => match us, hl with | [_, _, _], _ => rfl⟩
  case len => obtain ⟨_, _, _, _, _, _, _, _, _, rfl, _⟩ := h; rfl
  case body =>
    obtain ⟨q, st, n, i, p, pd, ds, d0, d1, rfl, kk, hi, n1, hn, hb, ⟨pl, pe, h1, h2, h3, _⟩, hpd, e0, e1, hd1, l4, l5, hrow, k⟩ := h
    have kb1 := kk.b1
    walk_at "kk"
    walk_at "go"
    refine w_ixT (SqT.of h1) (atI_nat (j := 0) rfl) ?_
    walk_at "go"
    wrow_readAll L3 H1 N1
    have s1 := N1.sm
    have hL3 := N1.at_
    have nz : st.lines ≠ [] := kk.ok.ne
    obtain ⟨ls, z, hz⟩ : ∃ ls z, st.lines = ls ++ [z] := ⟨st.lines.dropLast, st.lines.getLast nz, (List.dropLast_concat_getLast nz).symm⟩
    have eL : atI (txt st.lines) (-1) = some (V.str (S z)) := by
      rw [hz]
      simp only [txt, List.map_append, List.map_cons, List.map_nil]
      exact atI_last _ _
    have hzl : z.length = n - 1 := by
      have := kk.ok.w z (by rw [hz]; simp)
      rw [kk.hn] at this
      exact this
    have hzs : Sg z := kk.sg z (by rw [hz]; simp)
    walk_at "go"
    refine w_ixL (SqL.of (s1 _ _ hpd)) (atI_int (i := 1) e1) ?_
    walk_at "go"
    have hmod : (0 : Int) < (if (n : Int) - 1 > 1 then (n : Int) - 1 else 1) := by split <;> omega
    obtain ⟨sp, hsp⟩ : ∃ sp : Nat, d1 % (if (n : Int) - 1 > 1 then (n : Int) - 1 else 1) = (sp : Int) := ⟨(d1 % (if (n : Int) - 1 > 1 then (n : Int) - 1 else 1)).toNat, (Int.toNat_of_nonneg (Int.emod_nonneg _ (by split <;> omega))).symm⟩
    rw [hsp]
    walk_at "go"
    refine w_slL (SqL.of (s1 _ _ hpd)) fun lm H2 n2 s2 g2 => ?_
    have g2' : H2 lm = some (.lst ((ds.drop 4).map V.int)) := g2.trans (by rw [← cutV_from (k := 4) (by omega)]; rfl)
    walk_at "go"
    refine ⟨lm, ds.drop 4, rfl, SqL.of g2', by rw [List.length_drop]; omega, fun y H3 hy s3 => ?_⟩
    have s13 : Same H H3 := s1.trans (s2.trans s3)
    have L3a := s3 _ _ (s2 _ _ hL3)
    have nL : H L3 = none := N1.no
    walk_at "go"
    refine w_cut (fun σ H' => Same H H' ∧ ∃ v6 v7 v8, σ = [some (.ref p), some (.ref pd), some (.int n), some (.ref L3), some (.int sp), some (.str (S y)), v6, v7, v8] ∧ H' L3 = some (.lst (txt st.lines))) ?_ ?_
    · have rest : ∀ H', Same H3 H' → Same H H' ∧ ∃ v6 v7 v8, [some (V.ref p), some (.ref pd), some (.int n), some (.ref L3), some (.int sp), some (.str (S y)), none, none, none] = [some (V.ref p), some (.ref pd), some (.int n), some (.ref L3), some (.int sp), some (.str (S y)), v6, v7, v8] ∧ H' L3 = some (.lst (txt st.lines)) :=
        fun H' s => ⟨s13.trans s, _, _, _, rfl, s _ _ L3a⟩
      walk_at "go"
      refine w_ixL (SqL.of (s13 _ _ hpd)) (atI_int (i := 0) e0) ?_
      walk_at "go"
      refine w_dec (fun g => ?_) (fun g => ?_)
      · walk_at "go"
        refine w_dec (fun g1 => ?_) (fun g1 => ?_)
        · have hsn : sp + 1 < n := by
            have h1 : d1 % (if (n : Int) - 1 > 1 then (n : Int) - 1 else 1) < (if (n : Int) - 1 > 1 then (n : Int) - 1 else 1) := Int.emod_lt_of_pos _ (by split <;> omega)
            rw [hsp] at h1
            split at h1 <;> omega
          have hsd : (sp : Int) = d1 % ((n : Int) - 1) := by
            rw [← hsp]
            split
            · rfl
            · rw [show (n : Int) - 1 = 1 by omega]
          walk_at "go"
          refine w_ixL (SqL.of L3a) eL ?_
          walk_at "go"
          refine ⟨z, sp, rfl, by omega, by omega, fun s' H4 ht s4 => ?_, fun H4 ht s4 => ?_⟩
          · walk_at "go"
            refine w_F rfl ?_
            walk_at "go"
            exact rest H4 s4
          · walk_at "go"
            refine w_T rfl ?_
            have L3b := s4 _ _ L3a
            walk_at "go"
            refine w_ixL (SqL.of L3b) eL ?_
            walk_at "go"
            refine ⟨z, sp, rfl, by omega, by omega, ?_⟩
            walk_at "go"
            refine w_setL L3b (ixN_last (by rw [List.length_map, hz]; simp)) fun H5 b5 h5 => ?_
            have e9 : (txt st.lines).set ((txt st.lines).length - 1) (V.str (S (z.set sp 45))) = txt (st.set sp).lines := by
              simp only [LSt.set]
              rw [hz, setLast_eq]
              simp [txt]
            rw [e9] at h5
            have s5 : Same H H5 := But.same (s13.trans s4) nL b5
            have ld : (Str.ofString "-").length = 1 := by rw [str_dash]; rfl
            have hs : sizeLine = 16777216 := by decide
            walk_at "go"
            refine w_repS (by rw [str_dot]; decide) (by omega) (by omega) ?_
            walk_at "go"
            refine w_cat (by have := @mul_dot_len (sp : Int) (by omega); omega) ?_
            walk_at "go"
            refine w_repS (by rw [str_dot]; decide) (by omega) (by omega) ?_
            refine w_cat (by have h1 := @mul_dot_len (sp : Int) (by omega); have h2 := @mul_dot_len ((n : Int) - 2 - (sp : Int)) (by omega); rw [app_len]; omega) ?_
            rw [bar_eq hsn]
            walk_at "go"
            refine w_ixT (SqT.of (s5 _ _ h1)) (atI_nat (j := 1) rfl) ?_
            walk_at "go"
            refine LcL.mapV (swV sp) (SqL.of (s5 _ _ h3)) (by rw [List.length_map, ordN_len, kk.hn]; omega) (fun i x H6 kq hx sI qq => ?_) (fun pF H7 n7 s7 g7 => ?_)
            · obtain ⟨w', hw, rfl⟩ := nat_at hx
              have hw1 := ordN_lt kk.ok.rg hw
              rw [kk.hn] at hw1
              walk_at "go"
              refine ⟨_, w', rfl, by rw [bar_len hsn]; omega, by rw [bar_len hsn]; omega, ?_⟩
              rw [down_single hsn]
              exact qq H6 (Same.refl _)
            · rw [map_swV, ← ordN_snoc] at g7
              walk_at "go"
              refine w_ixT (SqT.of (s7 _ _ (s5 _ _ h1))) (atI_nat (j := 2) rfl) ?_
              walk_at "go"
              wrow_read pt H8 N8
              refine k (st.set sp) pt L3 pF H8 (.inl ⟨sp, ls, z, hsd, hsn, hz, ht, taken_46 hzs (by omega) ht, rfl⟩) ((s5.trans s7).trans N8.sm) ((s5.trans s7).free N8.no) nL (s5.free n7) ?_ (N8.sm _ _ (s7 _ _ h5)) (N8.sm _ _ g7)
              rw [N8.at_]
              simp [LSt.set]
        · walk_at "go"
          refine w_F rfl ?_
          walk_at "go"
          exact rest H3 (Same.refl _)
      · walk_at "go"
        refine w_F rfl ?_
        walk_at "go"
        exact rest H3 (Same.refl _)
    · rintro _ H4 ⟨s4, v6, v7, v8, rfl, hl4⟩
      walk_at "go"
      refine w_cut (fun σ H' => H4 = H' ∧ ∃ x, σ = [some (.ref p), some (.ref pd), some (.int n), some (.ref L3), some (.int sp), some (.str (S x)), v6, v7, v8] ∧ Row n x ∧ st.rungs.length + (dashes x).length ≤ 60) ?_ ?_
      · have zero : H4 = H4 ∧ ∃ x, [some (V.ref p), some (.ref pd), some (.int n), some (.ref L3), some (.int sp), some (.str (S (row0 n))), v6, v7, v8] = [some (V.ref p), some (.ref pd), some (.int n), some (.ref L3), some (.int sp), some (.str (S x)), v6, v7, v8] ∧ Row n x ∧ st.rungs.length + (dashes x).length ≤ 60 :=
          ⟨rfl, _, rfl, row0_row, by rw [dashes_row0]; simp; omega⟩
        walk_at "go"
        refine w_ixL (SqL.of (s4 _ _ hpd)) (atI_int (i := 0) e0) ?_
        walk_at "go"
        refine w_ndec (fun g => ?_) (fun g => ?_)
        · walk_at "go"
          refine w_T rfl ?_
          walk_at "go"
          refine w_repS (by rw [str_dot]; decide) (by omega) (by omega) ?_
          rw [mul_dot, show ((n : Int) - 1).toNat = n - 1 by omega]
          walk_at "go"
          exact zero
        · have hd0 : d0 = 1 := V.int.inj g
          have hyn : Row n y := by
            rw [List.length_drop, hrow hd0, show 4 + (n - 1) - 4 + 1 = n by omega] at hy
            exact hy
          walk_at "go"
          refine w_ixT (SqT.of (s4 _ _ h1)) (atI_nat (j := 2) rfl) ?_
          walk_at "go"
          rw [count_dash]
          refine w_dec (fun g => ?_) (fun g => ?_)
          · walk_at "go"
            refine w_repS (by rw [str_dot]; decide) (by omega) (by omega) ?_
            rw [mul_dot, show ((n : Int) - 1).toNat = n - 1 by omega]
            walk_at "go"
            exact zero
          · walk_at "go"
            exact ⟨rfl, y, rfl, hyn, by omega⟩
      · rintro _ _ ⟨rfl, x, rfl, hx, hbx⟩
        walk_at "go"
        refine w_ixT (SqT.of (s4 _ _ h1)) (atI_nat (j := 1) rfl) ?_
        walk_at "go"
        refine LcL.mapV (downV x) (SqL.of (s4 _ _ h3)) (by rw [List.length_map, ordN_len, kk.hn]; omega) (fun i u H6 kq hu sI qq => ?_) (fun pF H7 n7 s7 g7 => ?_)
        · obtain ⟨w', hw, rfl⟩ := nat_at hu
          have hw1 := ordN_lt kk.ok.rg hw
          rw [kk.hn] at hw1
          walk_at "go"
          refine ⟨x, w', rfl, by have := hx.1; omega, by have := hx.1; omega, ?_⟩
          exact qq H6 (Same.refl _)
        · rw [map_downV, ← ordN_add hx.2.1] at g7
          walk_at "go"
          wrow_read lx H8 N8
          have sl := kk.ok.sl
          refine w_catL (N8.sm _ _ (s7 _ _ hl4)) N8.at_ (by rw [List.length_map]; simp; omega) fun ly H9 n9 s9 g9 => ?_
          have s49 : Same H H9 := s4.trans (s7.trans (N8.sm.trans s9))
          walk_at "go"
          refine w_ixT (SqT.of (s49 _ _ h1)) (atI_nat (j := 2) rfl) ?_
          walk_at "go"
          rw [count_dash]
          walk_at "go"
          wrow_read pt H10 N10
          refine k (st.add x) pt ly pF H10 (.inr ⟨x, hx, rfl, hbx⟩) (s49.trans N10.sm) (s49.free N10.no) ((s4.trans (s7.trans N8.sm)).free n9) (s4.free n7) ?_ ?_ (N10.sm _ _ (s9 _ _ (N8.sm _ _ g7)))
          · rw [N10.at_]
            simp [LSt.add]
          · rw [N10.sm _ _ g9]
            simp [LSt.add, txt]

end
end Rg

set_option Elab.async false
set_option linter.all false
set_option maxRecDepth 100000
set_option maxHeartbeats 4000000
namespace Rg
open PySem L2
local macro_rules | `(tactic| wrow_read $p $h $n) => `(tactic| (refine ⟨sizes ?c, fun $p hp => ?_⟩; (case c => (first | exact Nat.le_of_ble_eq_true rfl | omega | (simp; omega))); generalize hg : upd _ $p _ = $h; have $n := New.of hp hg; clear hg hp))
local macro_rules | `(tactic| wrow_readAll $p $h $n) => `(tactic| (refine fun $p hp => ?_; generalize hg : upd _ $p _ = $h; have $n := New.of hp hg; clear hg hp))
local macro_rules | `(tactic| walk_at "kk") => `(tactic| dsimp only [cxK, noxK, blkK, trK, suK, L2.start, List.map_cons, List.map_nil, List.length_cons, List.length_nil, List.replicate, List.cons_append, List.nil_append, Nat.reduceAdd, Nat.reduceSub, List.append_nil])
local macro_rules | `(tactic| walk_at "ff") => `(tactic| first | assumption | (refine SqL.of ?_; walk_at "ff") | (refine SqT.of ?_; walk_at "ff") | (refine New.at_ (by assumption)) | (refine Same.at (by assumption) ?_; walk_at "ff") | (refine Same.at (New.sm (by assumption)) ?_; walk_at "ff") | (refine Same.seq (by assumption) ?_; walk_at "ff") | (refine Same.seqT (by assumption) ?_; walk_at "ff"))
local macro_rules | `(tactic| walk_at "sd") => `(tactic| first | decide | omega | assumption | exact Or.inl ⟨by decide, by decide⟩ | exact Or.inr ⟨by decide, by decide⟩ | exact ⟨by decide, by decide⟩ | exact ⟨by decide, by decide, by decide⟩ | exact Or.inl ⟨by omega, by omega⟩ | exact Or.inr ⟨by omega, by omega⟩ | exact ⟨by omega, by omega⟩ | exact ⟨by omega, by omega, by omega, by omega⟩)
local macro_rules | `(tactic| walk_at "g1") => `(tactic| first | ((with_reducible refine w_r1 ?c ?_); case c => ((try simp only [List.length_map]); walk_at "sd")) | ((with_reducible refine w_r2 ?c ?_); case c => ((try simp only [List.length_map]); walk_at "sd")) | (with_reducible first | refine w_seq ?_ | refine w_asg ?_ | refine w_sfld ?_ | refine w_make ?_ | refine w_methK ?_ | refine w_forS ?_ | refine w_m1 ?_ | refine w_isS ?_ | refine w_cnt ?_ | refine w_strE ?_ | refine w_makeK ?_ | refine w_inst ?_ | refine w_instK ?_ | refine w_prop ?_ | refine w_xf ?_ | refine w_rfl ?_ | refine w_ret ?_ | refine w_drop ?_ | refine w_next ?_ | refine w_if ?_ | refine w_var rfl ?_ | refine w_c ?_ | refine w_op ?_ | refine w_I0 ?_ | refine w_test ?_ | refine w_bl ?_ | refine w_cons ?_ | refine w_nil ?_ | refine w_cb ?_ | refine w_callS ?_ | refine w_un ?_ | refine w_U ?_ | refine w_eq rfl ?_ | refine w_ne rfl ?_ | refine w_not ?_ | refine w_and ?_ | refine w_or ?_ | refine w_B ?_ | refine w_sl ?_ | refine w_noPart ?_ | refine w_part ?_ | refine w_int ?_ | refine w_lst ?_ | refine w_tup ?_ | refine w_asgG ?_ | refine w_ifE ?_ | refine w_andV ?_ | refine w_orV ?_ | refine w_notV ?_ | refine w_meth ?_ | refine w_fld ?_ | refine w_brk ?_ | refine w_cont ?_ | refine w_retN ?_ | refine w_int1 ?_ | refine w_2i ?_ | refine w_1i ?_ | refine w_bm ?_ | refine w_bm0 ?_ | refine w_gsub ?_ | refine w_gcons ?_ | refine w_gnil ?_ | refine w_gname ?_ | refine w_forR1 ?_ | refine w_forR2 ?_ | refine w_forL ?_ | refine w_forT ?_ | refine w_listRg1 ?_ | refine w_lcR1 ?_ | refine w_lcR2 ?_ | refine w_lcL ?_ | refine w_yes ?_ | refine w_chain ?_ | refine w_mkoU ?_ | refine w_mko ?_ | refine w_sign ?_ | refine w_dash ?_) | ((with_reducible refine w_I ?c ?_); case c => walk_at "sd") | ((with_reducible refine w_lenL (xs := ?x) ?c ?_); case c => walk_at "ff") | ((with_reducible refine w_ixL (xs := ?x) (v := ?v) ?c ?e ?_); (case c => walk_at "ff"); (case e => with_reducible rfl)) | ((with_reducible refine w_rL (xs := ?x) ?c ?_); case c => walk_at "ff"))
local macro_rules | `(tactic| walk_at "go") => `(tactic| repeat walk_at "g1")
section
variable {P : Program} {w : World} {K : PySem.W.Frag} {mg : Str → Option Value} {base : Heap}
/-! the history beside the ladder -/
def HSt (q : LQ) (ph : Addr) (H : Hp) (p : Addr) (st : LSt) : Prop := ∃ pl pe, H p = some (.tup [.ref pl, .ref pe, .int (st.rungs.length : Int)]) ∧ H pl = some (.lst (txt st.lines)) ∧ H pe = some (.lst (nat (ordN st.n st.rungs))) ∧ Off q p ∧ Off q pl ∧ Off q pe ∧ p ≠ ph ∧ pl ≠ ph ∧ pe ≠ ph
theorem HSt.sto {q : LQ} {ph p : Addr} {H : Hp} {st : LSt} (h : HSt q ph H p st) : StO q H p st := by
  obtain ⟨pl, pe, h1, h2, h3, h4, h5, h6, _⟩ := h
  exact ⟨pl, pe, h1, h2, h3, h4, h5, h6⟩
/-- all but the ladder at q and the list at ph -/
def Fr2 (q : LQ) (ph : Addr) (H H' : Hp) : Prop := ∀ b o, Off q b → b ≠ ph → H b = some o → H' b = some o
/-- the ladder's addresses may have changed for new ones -/
structure QR (q q' : LQ) (H : Hp) : Prop where
  t : q'.t = q.t
  off : ∀ b o, Off q b → H b = some o → Off q' b
theorem Fr2.refl (q : LQ) (ph : Addr) (H : Hp) : Fr2 q ph H H := fun _ _ _ _ e => e
theorem Fr2.of {q : LQ} {ph : Addr} {H H' : Hp} (s : Same H H') : Fr2 q ph H H' := fun b o _ _ e => s b o e
theorem Fr2.ofF {q : LQ} {ph : Addr} {H H' : Hp} (s : Frm q H H') : Fr2 q ph H H' := fun b o n _ e => s.at_ n e
theorem Fr2.ofB {q : LQ} {ph : Addr} {H H' : Hp} (s : But ph H H') : Fr2 q ph H H' := fun b o _ n e => s b o n e
theorem QR.refl (q : LQ) (H : Hp) : QR q q H := ⟨rfl, fun _ _ h _ => h⟩
theorem Fr2.trans {q q' : LQ} {ph : Addr} {H H1 H2 : Hp} (a : Fr2 q ph H H1) (r : QR q q' H) (b : Fr2 q' ph H1 H2) : Fr2 q ph H H2 := fun c o h1 h2 e => b c o (r.off c o h1 e) h2 (a c o h1 h2 e)
theorem QR.trans {q q1 q2 : LQ} {ph : Addr} {H H1 : Hp} (r : QR q q1 H) (a : Fr2 q ph H H1) (s : QR q1 q2 H1) (hp : Off q2 ph) : QR q q2 H := ⟨s.t.trans r.t, fun b o h e => by
  by_cases hb : b = ph
  · rw [hb]; exact hp
  · exact s.off b o (r.off b o h e) (a b o h hb e)⟩
theorem HSt.fr {q q' : LQ} {ph p : Addr} {H H' : Hp} {st : LSt} (h : HSt q ph H p st) (f : Fr2 q ph H H') (r : QR q q' H) : HSt q' ph H' p st := by
  obtain ⟨pl, pe, h1, h2, h3, h4, h5, h6, h7, h8, h9⟩ := h
  exact ⟨pl, pe, f _ _ h4 h7 h1, f _ _ h5 h8 h2, f _ _ h6 h9 h3, r.off _ _ h4 h1, r.off _ _ h5 h2, r.off _ _ h6 h3, h7, h8, h9⟩
theorem Fr2.same {q : LQ} {ph : Addr} {H0 H H' : Hp} (f : Fr2 q ph H H') (s : Same H0 H) (n : Non4 H0 q) (hn : H0 ph = none) : Same H0 H' := fun b o e =>
  f b o ⟨fun z => (by rw [z, n.1] at e; cases e), fun z => (by rw [z, n.2.1] at e; cases e), fun z => (by rw [z, n.2.2.1] at e; cases e), fun z => (by rw [z, n.2.2.2] at e; cases e)⟩ (fun z => (by rw [z, hn] at e; cases e)) (s b o e)
structure Hs (K : PySem.W.Frag) (H0 : Hp) (n : Nat) (q : LQ) (ph : Addr) (ps : List Addr) (sts : List LSt) (H : Hp) : Prop where
  sm : Same H0 H
  lad : ∃ st, sts.getLast? = some st ∧ LadAt K (He.ga K "Ladder") none H q st
  hph : H ph = some (.lst (ps.map V.ref))
  len : ps.length = sts.length
  hst : ∀ (i : Nat) p st, ps[i]? = some p → sts[i]? = some st → HSt q ph H p st
  chn : ∀ (i : Nat) st st', sts[i]? = some st → sts[i + 1]? = some st' → Stp n st st'
  lk : ∀ (i : Nat) st, sts[i]? = some st → LK n i st
  oph : Off q ph
  zero : sts[0]? = some ⟨n, [row0 n], [], []⟩
  f1 : Non4 H0 q
  fh : H0 ph = none
theorem Hs.pos {H0 H : Hp} {n : Nat} {q : LQ} {ph : Addr} {ps : List Addr} {sts : List LSt} (j : Hs K H0 n q ph ps sts H) : 0 < sts.length := (List.getElem?_eq_some_iff.mp j.zero).1
theorem Hs.same {H0 H H' : Hp} {n : Nat} {q : LQ} {ph : Addr} {ps : List Addr} {sts : List LSt} (j : Hs K H0 n q ph ps sts H) (s : Same H H') : Hs K H0 n q ph ps sts H' :=
  { j with
    sm := j.sm.trans s
    lad := by obtain ⟨st, e, h⟩ := j.lad; exact ⟨st, e, h.same s⟩
    hph := s _ _ j.hph
    hst := fun i p st e1 e2 => (j.hst i p st e1 e2).fr (Fr2.of s) (QR.refl _ _) }
/-- the last state -/
theorem Hs.last {H0 H : Hp} {n : Nat} {q : LQ} {ph : Addr} {ps : List Addr} {sts : List LSt} (j : Hs K H0 n q ph ps sts H) : ∃ p st, ps[ps.length - 1]? = some p ∧ sts[sts.length - 1]? = some st ∧ HSt q ph H p st ∧ LK n (sts.length - 1) st ∧ LadAt K (He.ga K "Ladder") none H q st := by
  obtain ⟨st, e, h⟩ := j.lad
  have := j.pos
  rw [List.getLast?_eq_getElem?] at e
  have hp : ps.length - 1 < ps.length := by rw [j.len]; omega
  refine ⟨ps[ps.length - 1], st, List.getElem?_eq_getElem hp, e, ?_, j.lk _ _ e, h⟩
  exact j.hst (sts.length - 1) _ _ (by rw [← j.len]; exact List.getElem?_eq_getElem hp) e
/-- .. one deed less -/
theorem Hs.back {H0 H H' : Hp} {n : Nat} {q q' : LQ} {ph : Addr} {ps : List Addr} {sts : List LSt} {st0 : LSt} (j : Hs K H0 n q ph ps sts H) (h2 : 2 ≤ sts.length) (f : Fr2 q ph H H') (r : QR q q' H) (hp : H' ph = some (.lst (ps.map V.ref).dropLast))
    (e0 : sts[sts.length - 2]? = some st0) (l : LadAt K (He.ga K "Ladder") none H' q' st0) (f1 : Non4 H0 q') : Hs K H0 n q' ph (ps.take (sts.length - 1)) (sts.take (sts.length - 1)) H' := by
  have lt : ∀ {α : Type} {xs : List α} {i m : Nat} {x : α}, (xs.take m)[i]? = some x → xs[i]? = some x ∧ i < m := fun {α xs i m x} e => by
    rw [List.getElem?_take] at e
    split at e
    · exact ⟨e, by assumption⟩
    · cases e
  exact {
    sm := f.same j.sm j.f1 j.fh
    lad := ⟨st0, by rw [List.getLast?_eq_getElem?, List.length_take, List.getElem?_take, if_pos (by omega), show min (sts.length - 1) sts.length - 1 = sts.length - 2 by omega]; exact e0, l⟩
    hph := by rw [hp, List.dropLast_eq_take, List.length_map, List.map_take, j.len]
    len := by rw [List.length_take, List.length_take, j.len]
    hst := fun i p st e1 e2 => (j.hst i p st (lt e1).1 (lt e2).1).fr f r
    chn := fun i st st' e1 e2 => j.chn i st st' (lt e1).1 (lt e2).1
    lk := fun i st e => j.lk i st (lt e).1
    oph := r.off _ _ j.oph j.hph
    zero := by rw [List.getElem?_take, if_pos (by omega)]; exact j.zero
    f1 := f1
    fh := j.fh }
/-- .. one more -/
theorem Hs.push {H0 H H' : Hp} {n : Nat} {q : LQ} {ph p' : Addr} {ps : List Addr} {sts : List LSt} {st st' : LSt} (j : Hs K H0 n q ph ps sts H) (f : Fr2 q ph H H') (hp : H' ph = some (.lst (ps.map V.ref ++ [V.ref p'])))
    (e0 : sts[sts.length - 1]? = some st) (l : LadAt K (He.ga K "Ladder") none H' q st') (hh : HSt q ph H' p' st') (hs : Stp n st st') (hk : LK n sts.length st') : Hs K H0 n q ph (ps ++ [p']) (sts ++ [st']) H' := by
  have ap : ∀ {α : Type} {xs : List α} {y : α} {i : Nat} {x : α}, (xs ++ [y])[i]? = some x → (i < xs.length ∧ xs[i]? = some x) ∨ (i = xs.length ∧ x = y) := fun {α xs y i x} e => by
    by_cases h : i < xs.length
    · rw [List.getElem?_append_left h] at e
      exact .inl ⟨h, e⟩
    · have hl := (List.getElem?_eq_some_iff.mp e).1
      rw [List.length_append, List.length_singleton] at hl
      have ei : i = xs.length := by omega
      subst ei
      rw [List.getElem?_append_right (Nat.le_refl _), Nat.sub_self] at e
      exact .inr ⟨rfl, (Option.some.inj e).symm⟩
  exact {
    sm := f.same j.sm j.f1 j.fh
    lad := ⟨st', by simp, l⟩
    hph := by rw [hp, List.map_append]; rfl
    len := by rw [List.length_append, List.length_append, j.len]; rfl
    hst := fun i p u e1 e2 => by
      rcases ap e1 with ⟨a1, a2⟩ | ⟨a1, a2⟩
      · rcases ap e2 with ⟨c1, c2⟩ | ⟨c1, c2⟩
        · exact (j.hst i p u a2 c2).fr f (QR.refl _ _)
        · rw [j.len] at a1; omega
      · rcases ap e2 with ⟨c1, c2⟩ | ⟨c1, c2⟩
        · rw [j.len] at a1; omega
        · rw [a2, c2]; exact hh
    chn := fun i u u' e1 e2 => by
      rcases ap e2 with ⟨c1, c2⟩ | ⟨c1, c2⟩
      · rcases ap e1 with ⟨a1, a2⟩ | ⟨a1, a2⟩
        · exact j.chn i u u' a2 c2
        · omega
      · rcases ap e1 with ⟨a1, a2⟩ | ⟨a1, a2⟩
        · rw [show sts.length - 1 = i by omega, a2] at e0
          rw [c2, Option.some.inj e0]
          exact hs
        · omega
    lk := fun i u e => by
      rcases ap e with ⟨a1, a2⟩ | ⟨a1, a2⟩
      · exact j.lk i u a2
      · rw [a1, a2]; exact hk
    oph := j.oph
    zero := by rw [List.getElem?_append_left j.pos]; exact j.zero
    f1 := j.f1
    fh := j.fh }
/-! _law_back -/
def sp_law_back (K : PySem.W.Frag) : Sp := fun vs H Q _ => ∃ (H0 : Hp) (n : Nat) (q : LQ) (ph : Addr) (ps : List Addr) (sts : List LSt) (k : Int), vs = [.ref q.t, .ref ph, .int k] ∧ 0 ≤ k ∧ k ≤ 1000 ∧ sts.length ≤ 1000 ∧ Hs K H0 n q ph ps sts H ∧
  ∀ H' q' c, c = min k.toNat (sts.length - 1) → QR q q' H → Fr2 q ph H H' → Hs K H0 n q' ph (ps.take (sts.length - c)) (sts.take (sts.length - c)) H' → Q (.bl true) H'
theorem sc_law_back : FnScope ["thing", "history", "many", "k"] ["thing", "history", "many"] (defScope s_law_back) := ⟨rfl, rfl, rfl, by decide +kernel, rfl, by decide +kernel, by decide +kernel⟩
theorem cal_law_back (T : Tx K mg) : CalS P w K mg base CX0 6 "_law_back" (sp_law_back K) := by
  obtain ⟨fd, F⟩ := T.d_law_back
  refine ⟨_, fd, ["thing", "history", "many"], F.ok sc_law_back (fun vs H Q E h => ?len) (fun cdv A outer s H vs Q E hr h => ⟨_, PSs.nox (pss_cons (ps_for PassesOwn.never rfl (pi_range1 (by rfl) T.n_range (pa_cons (pe_callB (call_min2 rfl) (by rfl) T.n_min (by decide +kernel) (pa_cons (pv 2) (pa_cons (pe_op op_sub (pe_callB (call_len_seqK (K := K)) (by rfl) T.n_len (by decide +kernel) (pa_cons (pv 1) pa_nil)) pe_int) pa_nil))) pa_nil)) (pg_name (i := 3) sc_law_back.nd rfl (by first | exact Or.inl rfl | exact Or.inr rfl))
 (pss_cons (ps_expr (pe_bm0K (K := K) PySem.F.plainAttrs_list PySem.F.slot_list_pop PySem.F.type_list_pop mt_pop (pv 1)))
 (pss_one (ps_if (pt_cmpR op_notN (pe_ms0 (met_Ladder_undo (K := K) T) hr (by omega) (fun _ => paL) (pv 0)) pe_non (nomark _)) (pss_one (ps_ret pe_bl)) pss_nil))))
 (pss_one (ps_ret pe_bl))), ?body⟩), T.g_law_back, F.kp, F.bindsN fun _ _ _ _ _ _ us hl => match us, hl with | [_, _, _], _ => rfl⟩
  case len => obtain ⟨_, _, _, _, _, _, _, rfl, _⟩ := h; rfl
  case body =>
    obtain ⟨H0, n, q, ph, ps, sts, k, rfl, hk0, hk1, hsl, j, kk⟩ := h
    have hpos := j.pos
    have hph := j.hph
    walk_at "kk"
    walk_at "go"
    rw [List.length_map, j.len]
    obtain ⟨c, hc⟩ : ∃ c, c = (if ((sts.length : Nat) : Int) - 1 < k then ((sts.length : Nat) : Int) - 1 else k).toNat := ⟨_, rfl⟩
    rw [← hc]
    have hc2 : c = min k.toNat (sts.length - 1) := by
      rw [hc]
      split <;> omega
    refine ForR.run (fun i σ H2 => (∃ v, σ = [some (.ref q.t), some (.ref ph), some (.int k), v]) ∧ ∃ q', QR q q' H ∧ Fr2 q ph H H2 ∧ Hs K H0 n q' ph (ps.take (sts.length - i)) (sts.take (sts.length - i)) H2)
      ⟨⟨_, rfl⟩, q, QR.refl _ _, Fr2.refl _ _ _, by rw [Nat.sub_zero, List.take_of_length_le (by rw [j.len]; exact Nat.le_refl _), List.take_length]; exact j⟩ ?_ ?_
    · rintro i _ H2 hi ⟨⟨v, rfl⟩, q', hr, hf, ji⟩
      have hlen : (sts.take (sts.length - i)).length = sts.length - i := by rw [List.length_take]; omega
      obtain ⟨p, st, ep, es, hh, lk, lad⟩ := ji.last
      rw [hlen] at es lk
      obtain ⟨st0, e0⟩ : ∃ st0, (sts.take (sts.length - i))[sts.length - i - 2]? = some st0 := ⟨_, List.getElem?_eq_getElem (by rw [hlen]; omega)⟩
      have stp := ji.chn _ _ _ e0 (by rw [show sts.length - i - 2 + 1 = sts.length - i - 1 by omega]; exact es)
      have hlp : ((ps.take (sts.length - i)).map V.ref)[((ps.take (sts.length - i)).map V.ref).length - 1]? = some (V.ref p) := by
        rw [List.length_map, List.getElem?_map, ep]; rfl
      have lk0 := ji.lk _ _ e0
      walk_at "go"
      refine w_tyL ji.hph ?_
      refine w_pop ji.hph hlp fun H3 b3 h3 => ?_
      have l3 := lad.but b3 ji.oph
      have et := hr.t
      have ob3 := l3.ob
      rw [et] at ob3
      walk_at "go"
      refine f_meth ob3 (no_meth (by decide +kernel)) ?_
      walk_at "go"
      have tk : ∀ {α : Type} {xs : List α}, (xs.take (sts.length - i)).take ((sts.take (sts.length - i)).length - 1) = xs.take (sts.length - (i + 1)) := fun {α xs} => by
        rw [List.take_take, hlen]
        congr 1
        omega
      have e0' : (sts.take (sts.length - i))[(sts.take (sts.length - i)).length - 2]? = some st0 := by rw [hlen]; exact e0
      rcases stp with ⟨pp, ls, z, hp1, hz, ht, h46, rfl⟩ | ⟨y, hy, rfl, hr60⟩
      · refine ⟨none, q', st0.set pp, by rw [et], l3, lk.ok, .inr (.inl ⟨st0, pp, ls, z, rfl, hz, ?_, h46, fun H4 l4 f4 => ?_⟩)⟩
        · have h1 := lk0.ok.w z (by rw [hz]; simp)
          have h2 := lk0.ok.n1
          show z.length + 1 = st0.n
          omega
        · walk_at "go"
          refine w_F rfl ?_
          walk_at "go"
          have fA : Fr2 q' ph H2 H4 := (Fr2.ofB b3).trans (QR.refl _ _) (Fr2.ofF f4)
          refine ⟨⟨_, rfl⟩, q', hr, hf.trans hr fA, ?_⟩
          have := ji.back (by rw [hlen]; omega) fA (QR.refl _ _) (f4.at_ ji.oph h3) e0' l4 ji.f1
          rw [tk, tk] at this
          exact this
      · refine ⟨none, q', st0.add y, by rw [et], l3, lk.ok, .inr (.inr ⟨st0, y, rfl, fun H4 r' n4 nl nd ho l4 f4 => ?_⟩)⟩
        walk_at "go"
        refine w_F rfl ?_
        walk_at "go"
        have fA : Fr2 q' ph H2 H4 := (Fr2.ofB b3).trans (QR.refl _ _) (Fr2.ofF f4)
        have n2 : H2 r' = none := by
          cases e : H2 r' with
          | none => rfl
          | some o =>
            by_cases hb : r' = ph
            · rw [hb, h3] at n4; cases n4
            · rw [b3 _ _ hb e] at n4; cases n4
        have rA : QR q' { q' with r := r' } H2 := ⟨rfl, fun b o h e => ⟨h.1, h.2.1, fun z => (by rw [z, n2] at e; cases e), h.2.2.2⟩⟩
        have oA := rA.off _ _ ji.oph ji.hph
        refine ⟨⟨_, rfl⟩, _, hr.trans hf rA oA, hf.trans hr fA, ?_⟩
        have := ji.back (by rw [hlen]; omega) fA rA (f4.at_ ji.oph h3) e0' l4 ⟨ji.f1.1, ji.f1.2.1, ji.sm.free n2, ji.f1.2.2.2⟩
        rw [tk, tk] at this
        exact this
    · rintro _ H2 ⟨⟨v, rfl⟩, q', hr, hf, ji⟩
      walk_at "go"
      exact kk H2 q' c hc2 hr hf ji

end
end Rg

set_option Elab.async false
set_option linter.all false
set_option maxRecDepth 100000
set_option maxHeartbeats 4000000
namespace Rg
open PySem L2
local macro_rules | `(tactic| wrow_read $p $h $n) => `(tactic| (refine ⟨sizes ?c, fun $p hp => ?_⟩; (case c => (first | exact Nat.le_of_ble_eq_true rfl | omega | (simp; omega))); generalize hg : upd _ $p _ = $h; have $n := New.of hp hg; clear hg hp))
local macro_rules | `(tactic| wrow_readAll $p $h $n) => `(tactic| (refine fun $p hp => ?_; generalize hg : upd _ $p _ = $h; have $n := New.of hp hg; clear hg hp))
local macro_rules | `(tactic| walk_at "kk") => `(tactic| dsimp only [cxK, noxK, blkK, trK, suK, L2.start, List.map_cons, List.map_nil, List.length_cons, List.length_nil, List.replicate, List.cons_append, List.nil_append, Nat.reduceAdd, Nat.reduceSub, List.append_nil])
local macro_rules | `(tactic| walk_at "ff") => `(tactic| first | assumption | (refine SqL.of ?_; walk_at "ff") | (refine SqT.of ?_; walk_at "ff") | (refine New.at_ (by assumption)) | (refine Same.at (by assumption) ?_; walk_at "ff") | (refine Same.at (New.sm (by assumption)) ?_; walk_at "ff") | (refine Same.seq (by assumption) ?_; walk_at "ff") | (refine Same.seqT (by assumption) ?_; walk_at "ff"))
local macro_rules | `(tactic| walk_at "sd") => `(tactic| first | decide | omega | assumption | exact Or.inl ⟨by decide, by decide⟩ | exact Or.inr ⟨by decide, by decide⟩ | exact ⟨by decide, by decide⟩ | exact ⟨by decide, by decide, by decide⟩ | exact Or.inl ⟨by omega, by omega⟩ | exact Or.inr ⟨by omega, by omega⟩ | exact ⟨by omega, by omega⟩ | exact ⟨by omega, by omega, by omega, by omega⟩)
local macro_rules | `(tactic| walk_at "g1") => `(tactic| first | ((with_reducible refine w_r1 ?c ?_); case c => ((try simp only [List.length_map]); walk_at "sd")) | ((with_reducible refine w_r2 ?c ?_); case c => ((try simp only [List.length_map]); walk_at "sd")) | (with_reducible first | refine w_seq ?_ | refine w_asg ?_ | refine w_sfld ?_ | refine w_make ?_ | refine w_methK ?_ | refine w_forS ?_ | refine w_m1 ?_ | refine w_isS ?_ | refine w_cnt ?_ | refine w_strE ?_ | refine w_makeK ?_ | refine w_inst ?_ | refine w_instK ?_ | refine w_prop ?_ | refine w_xf ?_ | refine w_rfl ?_ | refine w_ret ?_ | refine w_drop ?_ | refine w_next ?_ | refine w_if ?_ | refine w_var rfl ?_ | refine w_c ?_ | refine w_op ?_ | refine w_I0 ?_ | refine w_test ?_ | refine w_bl ?_ | refine w_cons ?_ | refine w_nil ?_ | refine w_cb ?_ | refine w_callS ?_ | refine w_un ?_ | refine w_U ?_ | refine w_eq rfl ?_ | refine w_ne rfl ?_ | refine w_not ?_ | refine w_and ?_ | refine w_or ?_ | refine w_B ?_ | refine w_sl ?_ | refine w_noPart ?_ | refine w_part ?_ | refine w_int ?_ | refine w_lst ?_ | refine w_tup ?_ | refine w_asgG ?_ | refine w_ifE ?_ | refine w_andV ?_ | refine w_orV ?_ | refine w_notV ?_ | refine w_meth ?_ | refine w_fld ?_ | refine w_brk ?_ | refine w_cont ?_ | refine w_retN ?_ | refine w_int1 ?_ | refine w_2i ?_ | refine w_1i ?_ | refine w_bm ?_ | refine w_bm0 ?_ | refine w_gsub ?_ | refine w_gcons ?_ | refine w_gnil ?_ | refine w_gname ?_ | refine w_forR1 ?_ | refine w_forR2 ?_ | refine w_forL ?_ | refine w_forT ?_ | refine w_listRg1 ?_ | refine w_lcR1 ?_ | refine w_lcR2 ?_ | refine w_lcL ?_ | refine w_yes ?_ | refine w_chain ?_ | refine w_mkoU ?_ | refine w_mko ?_ | refine w_sign ?_ | refine w_dash ?_) | ((with_reducible refine w_I ?c ?_); case c => walk_at "sd") | ((with_reducible refine w_lenL (xs := ?x) ?c ?_); case c => walk_at "ff") | ((with_reducible refine w_ixL (xs := ?x) (v := ?v) ?c ?e ?_); (case c => walk_at "ff"); (case e => with_reducible rfl)) | ((with_reducible refine w_rL (xs := ?x) ?c ?_); case c => walk_at "ff"))
local macro_rules | `(tactic| walk_at "go") => `(tactic| repeat walk_at "g1")
section
variable {P : Program} {w : World} {K : PySem.W.Frag} {mg : Str → Option Value} {base : Heap}
/-! the law -/
def spLaw (K : PySem.W.Frag) : Sp := fun vs H Q _ => ∃ (a : Addr) (ns : List Int), vs = [.ref a] ∧ SqL K H a (ns.map V.int) ∧ ns.length ≤ 63 ∧ ∀ H', Q (.bl true) H'
theorem sc_law : FnScope ["script", "size", "last", "thing", "history", "at", "drawn", "k", "after"] ["script"] (defScope s_law) := ⟨rfl, rfl, rfl, by decide +kernel, rfl, by decide +kernel, by decide +kernel⟩
theorem fok_law (T : Tx K mg) {fd : FuncData} (F : FunD K "law" "law" (defArgs s_law) (defBody s_law) (defScope s_law) [] [] (He.fAd K ("law", none)) fd) : FnOk P w K mg base CX0 9 (He.fAd K ("law", none)) fd ["script"] (spLaw K) := by
  refine F.ok sc_law (fun vs H Q E h => ?len) (fun cdv A outer s H vs Q E hr h => ⟨_, PSs.nox (pss_cons (ps_set (i := 1) sc_law.nd rfl (by first | exact Or.inl rfl | exact Or.inr rfl) (pe_cs (cal_law_posts (K := K) T) hr (by omega) (by rfl) (fun _ => pa0) (pa_cons (pv 0) (pa_cons pe_int pa_nil))))
 (pss_cons (ps_set (i := 2) sc_law.nd rfl (by first | exact Or.inl rfl | exact Or.inr rfl) (pe_cs (cal_law_draws (K := K) T) hr (by omega) (by rfl) (fun _ => pa0) (pa_cons (pv 0) (pa_cons pe_int (pa_cons (pe_lst (pa_cons pe_int (pa_cons pe_int (pa_cons pe_int (pa_cons pe_int (pa_cons pe_int (pa_cons pe_int (pa_cons pe_int pa_nil)))))))) pa_nil)))))
 (pss_cons (ps_set (i := 3) sc_law.nd rfl (by first | exact Or.inl rfl | exact Or.inr rfl) (pe_mks (mak_Ladder (K := K) T) hr (by omega) (by rfl) (fun _ => paL) (pa_cons (pv 1) pa_nil)))
 (pss_cons (ps_set (i := 4) sc_law.nd rfl (by first | exact Or.inl rfl | exact Or.inr rfl) (pe_lst (pa_cons (pe_tup (pa_cons (pe_lst (pa_cons (pe_op op_repS pe_str (pe_op op_sub (pv 1) pe_int)) pa_nil)) (pa_cons (pe_listRg rfl (by rfl) T.n_list (prg_1 (by rfl) T.n_range (pv 1))) (pa_cons pe_int pa_nil)))) pa_nil)))
 (pss_cons (ps_for PassesOwn.never rfl (pi_range2 (by rfl) T.n_range (pa_cons pe_int (pa_cons (pe_callB (call_min2 rfl) (by rfl) T.n_min (by decide +kernel) (pa_cons (pe_callB (call_len_seqK (K := K)) (by rfl) T.n_len (by decide +kernel) (pa_cons (pv 0) pa_nil)) (pa_cons pe_int pa_nil))) pa_nil))) (pg_name (i := 5) sc_law.nd rfl (by first | exact Or.inl rfl | exact Or.inr rfl))
 (pss_cons (ps_set (i := 6) sc_law.nd rfl (by first | exact Or.inl rfl | exact Or.inr rfl) (pe_cs (cal_law_draws (K := K) T) hr (by omega) (by rfl) (fun _ => pa0) (pa_cons (pv 0) (pa_cons (pv 5) (pa_cons (pe_op op_cat (pe_lst (pa_cons pe_int (pa_cons pe_int (pa_cons pe_int (pa_cons pe_int pa_nil))))) (pe_op op_rep (pe_lst (pa_cons pe_int pa_nil)) (pe_op op_sub (pv 1) pe_int))) pa_nil)))))
 (C8.pss_cut (ps_if (PW.pt (pw_and (pt_cmpR op_gt (pe_ix (ix_listK (K := K)) (pv 6) pe_int (fun _ _ => rfl)) pe_int (nomark _)) (pw_and1 (pt_cmpR op_gt (pe_callB (call_len_seqK (K := K)) (by rfl) T.n_len (by decide +kernel) (pa_cons (pv 4) pa_nil)) pe_int (nomark _))))) (pss_one (ps_if (pt_not (pt_val (pe_cs (cal_law_back (K := K) T) hr (by omega) (by rfl) (fun _ => pa0) (pa_cons (pv 3) (pa_cons (pv 4) (pa_cons pe_int pa_nil)))))) (pss_one (ps_ret pe_bl)) pss_nil)) (pss_one (ps_if (pt_cmpR op_lt (pe_ix (ix_tupK (K := K)) (pe_ix (ix_listK (K := K)) (pv 4) (pe_un un_neg pe_int) (fun _ _ => rfl)) pe_int (fun _ _ => rfl)) pe_int (nomark _)) (pss_cons (ps_set (i := 8) sc_law.nd rfl (by first | exact Or.inl rfl | exact Or.inr rfl) (pe_cs (cal_law_next (K := K) T) hr (by omega) (by rfl) (fun _ => pa0) (pa_cons (pe_ix (ix_listK (K := K)) (pv 4) (pe_un un_neg pe_int) (fun _ _ => rfl)) (pa_cons (pv 6) (pa_cons (pv 1) pa_nil)))))
 (pss_cons (ps_if (pt_not (pt_val (pe_cs (cal_law_done (K := K) T) hr (by omega) (by rfl) (fun _ => pa0) (pa_cons (pv 3) (pa_cons (pe_ix (ix_listK (K := K)) (pv 4) (pe_un un_neg pe_int) (fun _ _ => rfl)) (pa_cons (pv 8) (pa_cons (pv 6) (pa_cons (pv 1) pa_nil)))))))) (pss_one (ps_ret pe_bl)) pss_nil)
 (pss_one (ps_expr (pe_bmK (K := K) PySem.F.plainAttrs_list PySem.F.slot_list_append PySem.F.type_list_append mt_append (pv 4) (pa_cons (pv 8) pa_nil)))))) pss_nil)))
 (pss_one (ps_if (pt_not (pt_val (pe_cs (cal_law_looked (K := K) T) hr (by omega) (by rfl) (fun _ => pa0) (pa_cons (pv 3) (pa_cons (pe_ix (ix_listK (K := K)) (pv 4) (pe_un un_neg pe_int) (fun _ _ => rfl)) (pa_cons (pe_ix (ix_listK (K := K)) (pv 6) pe_int (fun _ _ => rfl)) pa_nil)))))) (pss_one (ps_ret pe_bl)) pss_nil)))))
 (pss_cons (ps_set (i := 6) sc_law.nd rfl (by first | exact Or.inl rfl | exact Or.inr rfl) (pe_lst (pa_cons pe_int (pa_cons (pe_ix (ix_listK (K := K)) (pv 2) pe_int (fun _ _ => rfl)) (pa_cons pe_int (pa_cons pe_int pa_nil))))))
 (pss_cons (ps_if (pt_not (pt_val (pe_cs (cal_law_back (K := K) T) hr (by omega) (by rfl) (fun _ => pa0) (pa_cons (pv 3) (pa_cons (pv 4) (pa_cons (pe_ix (ix_listK (K := K)) (pv 2) pe_int (fun _ _ => rfl)) pa_nil)))))) (pss_one (ps_ret pe_bl)) pss_nil)
 (C8.pss_cut (ps_if (pt_cmpR op_lt (pe_ix (ix_tupK (K := K)) (pe_ix (ix_listK (K := K)) (pv 4) (pe_un un_neg pe_int) (fun _ _ => rfl)) pe_int (fun _ _ => rfl)) pe_int (nomark _)) (pss_cons (ps_set (i := 8) sc_law.nd rfl (by first | exact Or.inl rfl | exact Or.inr rfl) (pe_cs (cal_law_next (K := K) T) hr (by omega) (by rfl) (fun _ => pa0) (pa_cons (pe_ix (ix_listK (K := K)) (pv 4) (pe_un un_neg pe_int) (fun _ _ => rfl)) (pa_cons (pv 6) (pa_cons (pv 1) pa_nil)))))
 (pss_cons (ps_if (pt_not (pt_val (pe_cs (cal_law_done (K := K) T) hr (by omega) (by rfl) (fun _ => pa0) (pa_cons (pv 3) (pa_cons (pe_ix (ix_listK (K := K)) (pv 4) (pe_un un_neg pe_int) (fun _ _ => rfl)) (pa_cons (pv 8) (pa_cons (pv 6) (pa_cons (pv 1) pa_nil)))))))) (pss_one (ps_ret pe_bl)) pss_nil)
 (pss_one (ps_expr (pe_bmK (K := K) PySem.F.plainAttrs_list PySem.F.slot_list_append PySem.F.type_list_append mt_append (pv 4) (pa_cons (pv 8) pa_nil)))))) pss_nil)
 (pss_cons (ps_if (pt_not (pt_val (pe_cs (cal_law_looked (K := K) T) hr (by omega) (by rfl) (fun _ => pa0) (pa_cons (pv 3) (pa_cons (pe_ix (ix_listK (K := K)) (pv 4) (pe_un un_neg pe_int) (fun _ _ => rfl)) (pa_cons (pe_op op_add pe_int (pe_op op_mod (pe_ix (ix_listK (K := K)) (pv 2) pe_int (fun _ _ => rfl)) pe_int)) pa_nil)))))) (pss_one (ps_ret pe_bl)) pss_nil)
 (pss_cons (ps_for PassesOwn.never rfl (pi_range1 (by rfl) T.n_range (pa_cons (pe_op op_sub (pe_callB (call_len_seqK (K := K)) (by rfl) T.n_len (by decide +kernel) (pa_cons (pv 4) pa_nil)) pe_int) pa_nil)) (pg_name (i := 7) sc_law.nd rfl (by first | exact Or.inl rfl | exact Or.inr rfl))
 (pss_one (ps_if (PW.pt (pw_or (pt_not (pt_val (pe_cs (cal_law_back (K := K) T) hr (by omega) (by rfl) (fun _ => pa0) (pa_cons (pv 3) (pa_cons (pv 4) (pa_cons pe_int pa_nil)))))) (pw_or1 (pt_not (pt_val (pe_cs (cal_law_looked (K := K) T) hr (by omega) (by rfl) (fun _ => pa0) (pa_cons (pv 3) (pa_cons (pe_ix (ix_listK (K := K)) (pv 4) (pe_un un_neg pe_int) (fun _ _ => rfl)) (pa_cons (pe_op op_mod (pe_op op_add (pe_ix (ix_listK (K := K)) (pv 2) pe_int (fun _ _ => rfl)) (pv 7)) pe_int) pa_nil))))))))) (pss_one (ps_ret pe_bl)) pss_nil)))
 (pss_cons (ps_if (PW.pt (pw_or (pt_not (pt_val (pe_cs (cal_law_looked (K := K) T) hr (by omega) (by rfl) (fun _ => pa0) (pa_cons (pv 3) (pa_cons (pe_ix (ix_listK (K := K)) (pv 4) pe_int (fun _ _ => rfl)) (pa_cons pe_int pa_nil)))))) (pw_or (pt_not (pt_val (pe_cs (cal_law_empty (K := K) T) hr (by omega) (by rfl) (fun _ => pa0) (pa_cons (pv 3) pa_nil)))) (pw_or1 (pt_not (pt_val (pe_cs (cal_law_same (K := K) T 5) hr (by omega) (by rfl) (fun _ => pa0) (pa_cons (pe_ms0 (met_Ladder_next_row (K := K) T) hr (by omega) (fun _ => pa0) (pv 3)) (pa_cons pe_int pa_nil))))))))) (pss_one (ps_ret pe_bl)) pss_nil)
 (pss_one (ps_ret (pe_and (pe_cmpR op_isN (pe_ms0 (met_Ladder_undo (K := K) T) hr (by omega) (fun _ => paL) (pv 3)) pe_non (nomark _)) (pe_and (pe_cs (cal_law_empty (K := K) T) hr (by omega) (by rfl) (fun _ => pa0) (pa_cons (pv 3) pa_nil)) (pe_one (pe_cs (cal_law_looked (K := K) T) hr (by omega) (by rfl) (fun _ => pa0) (pa_cons (pv 3) (pa_cons (pe_ix (ix_listK (K := K)) (pv 4) pe_int (fun _ _ => rfl)) (pa_cons pe_int pa_nil)))))))))))))))))))), ?body⟩)
  case len => obtain ⟨_, _, rfl, _⟩ := h; rfl
  case body =>
    obtain ⟨a, ns, rfl, hS, hn, k⟩ := h
    walk_at "kk"
    walk_at "go"
    refine ⟨a, ns, 0, rfl, hS, by omega, fun n Hp n1 n2 sp => ?_⟩
    walk_at "go"
    wrow_read lq Hq Nq
    refine ⟨a, lq, ns, [8, 40, 9, 4, 39, 5, 2], 0, rfl, Nq.sm.seq (sp.seq hS), SqL.of Nq.at_, by decide, by decide, by omega, fun H0 pla las hlas npla s0 hpla => ?_⟩
    have hS0 : SqL K H0 a (ns.map V.int) := s0.seq (Nq.sm.seq (sp.seq hS))
    obtain ⟨x3, ex3, lx3, ux3⟩ := drawn_at hlas (i := 3) rfl
    obtain ⟨x4, ex4, lx4, ux4⟩ := drawn_at hlas (i := 4) rfl
    obtain ⟨x5, ex5, lx5, ux5⟩ := drawn_at hlas (i := 5) rfl
    walk_at "go"
    refine fun x dx hx hdx hne => ?_
    generalize hg : upd (upd _ dx _) x _ = H2
    have N2 := NewI.of hx hdx hne hg
    clear hg hx hdx hne
    refine ⟨x, dx, n, rfl, N2.at_, fun z => absurd z (by omega), fun _ => ⟨by omega, fun H3 l r d nl nr nd f3 L3 => ⟨rfl, ?_⟩⟩⟩
    rw [Int.toNat_natCast] at L3
    obtain ⟨q, hq⟩ : ∃ q : LQ, q = ⟨x, dx, l, r, d⟩ := ⟨_, rfl⟩
    have ex : x = q.t := by rw [hq]
    rw [← hq] at L3
    have s3 : Same H0 H3 := fun b o e => f3 b o (fun z => by have := N2.no; rw [← z, e] at this; cases this) (N2.sm _ _ e)
    have f1 : Non4 H0 q := by rw [hq]; exact ⟨N2.no, N2.sm.free nl, N2.sm.free nr, N2.sm.free nd⟩
    rw [ex]
    clear hq ex
    walk_at "go"
    refine w_repS (by rw [str_dot]; decide) (by omega) (by omega) ?_
    rw [mul_dot, show ((n : Int) - 1).toNat = n - 1 by omega]
    walk_at "go"
    wrow_read pl0 H4 N4
    walk_at "go"
    refine ⟨RgOk.of_le (by omega) (by omega) (by omega) (by omega), ?_⟩
    wrow_readAll pe0 H5 N5
    have h5 := N5.at_
    rw [rgV_nat] at h5
    walk_at "go"
    wrow_read pt0 H6 N6
    walk_at "go"
    wrow_read ph H7 N7
    walk_at "go"
    refine w_lenL (N7.sm.seq (N6.sm.seq (N5.sm.seq (N4.sm.seq (s3.seq hS0))))) ?_
    walk_at "go"
    have L4 := L3.same N4.sm
    have L5 := L4.same N5.sm
    have L6 := L5.same N6.sm
    have L7 := L6.same N7.sm
    have k0 : LK n 0 ⟨n, [row0 n], [], []⟩ := ⟨⟨n1, (by show n ≤ 1000; omega), by simp, by intro l hl; rw [List.mem_singleton.mp hl]; simp [row0], by simp, by simp, by simp, by simp⟩, rfl, by intro l hl; rw [List.mem_singleton.mp hl]; exact row0_row.2.2, by simp, by simp, by simp⟩
    have J0 : Hs K H0 n q ph [pt0] [⟨n, [row0 n], [], []⟩] H7 := {
      sm := s3.trans (N4.sm.trans (N5.sm.trans (N6.sm.trans N7.sm)))
      lad := ⟨_, rfl, L7⟩
      hph := N7.at_
      len := rfl
      hst := fun i p st e1 e2 => by
        match i, e1, e2 with
        | 0, e1, e2 =>
          cases e1
          cases e2
          refine ⟨pl0, pe0, N7.sm _ _ N6.at_, N7.sm _ _ (N6.sm _ _ (N5.sm _ _ N4.at_)), N7.sm _ _ (N6.sm _ _ (h5.trans (by show _ = some (HO.lst (nat ((List.range n).map fun s => s))); rw [List.map_id']))), Off.of L5 N6.no, Off.of L3 N4.no, Off.of L4 N5.no, ?_, ?_, ?_⟩
          · exact ne_of_none N6.at_ N7.no
          · exact ne_of_none (N6.sm _ _ (N5.sm _ _ N4.at_)) N7.no
          · exact ne_of_none (N6.sm _ _ N5.at_) N7.no
        | i + 1, e1, e2 => simp at e1
      chn := fun i st st' e1 e2 => by simp at e2
      lk := fun i st e => by
        match i, e with
        | 0, e => cases e; exact k0
        | i + 1, e => simp at e
      oph := Off.of L6 N7.no
      zero := rfl
      f1 := f1
      fh := s3.free (N4.sm.free (N5.sm.free (N6.sm.free N7.no))) }
    generalize hcount : ((if ((List.map V.int ns).length : Int) > 59 then (59 : Int) else ((List.map V.int ns).length : Int)) - 1).toNat = cnt
    have hc57 : cnt ≤ 58 := by rw [← hcount, List.length_map]; split <;> omega
    obtain ⟨t0, ht0⟩ : ∃ t0, t0 = q.t := ⟨_, rfl⟩
    rw [← ht0]
    refine ForR.run (fun i σ Hc => ∃ (q' : LQ) (ps : List Addr) (sts : List LSt) (v5 v6 v7 v8 : Option V), q'.t = t0 ∧ σ = [some (.ref a), some (.int n), some (.ref pla), some (.ref t0), some (.ref ph), v5, v6, v7, v8] ∧
      Hs K H0 n q' ph ps sts Hc ∧ sts.length ≤ i + 1)
      ⟨q, _, _, _, _, _, _, ht0.symm, rfl, J0, by simp⟩ ?_ ?_
    · rintro i _ Hc hi ⟨q', ps, sts, v5, v6, v7, v8, rfl, rfl, j, b1⟩
      walk_at "go"
      wrow_read la HA NA
      walk_at "go"
      wrow_read lb HB NB
      walk_at "go"
      have s3A : (([V.int 2] : List V)).length * ((n : Int) - 1).toNat ≤ 100000 := by
        show 1 * ((n : Int) - 1).toNat ≤ 100000
        omega
      refine w_rep NB.at_ (by omega) (by omega) s3A fun lc HC nC sC hC => ?_
      rw [show ((n : Int) - 1).toNat = n - 1 by omega, rep_int] at hC
      refine w_catL (sC _ _ (NB.sm _ _ NA.at_)) hC (by simp; omega) fun ld HD nD sD hD => ?_
      have hD' : HD ld = some (.lst (([5, 39, 2, 5] ++ List.replicate (n - 1) 2 : List Int).map V.int)) := hD.trans (by rw [List.map_append]; rfl)
      have sAD : Same Hc HD := NA.sm.trans (NB.sm.trans (sC.trans sD))
      have jD := j.same sAD
      walk_at "go"
      rw [show (1 : Int) + (i : Int) = ((1 + i : Nat) : Int) by omega]
      refine ⟨a, ld, ns, [5, 39, 2, 5] ++ List.replicate (n - 1) 2, 1 + i, rfl, jD.sm.seq hS0, SqL.of hD', by simp; omega, fun l hl => ?_, by omega, fun HE pd ds hd npd sE hpd => ?_⟩
      · rcases List.mem_append.mp hl with q | q
        · simp at q
          rcases q with rfl | rfl | rfl | rfl <;> decide
        · rw [(List.mem_replicate.mp q).2]
          decide
      have hds : ds.length = 4 + (n - 1) := by rw [hd.len]; simp; omega
      have hrow' : ds.length = 4 + (n - 1) := hds
      have jE := jD.same sE
      obtain ⟨d0, e0, l0, u0⟩ := drawn_at hd (i := 0) rfl
      obtain ⟨d1, e1, l1, u1⟩ := drawn_at hd (i := 1) rfl
      obtain ⟨d2, e2, l2, u2⟩ := drawn_at hd (i := 2) rfl
      obtain ⟨d3, e3, l3, u3⟩ := drawn_at hd (i := 3) rfl
      have hrow : d0 = 1 → ds.length = 4 + (n - 1) := fun _ => hds
      have dph : pd ≠ ph := fun e => by rw [e, jD.hph] at npd; cases npd
      have dO : Off q' pd := by
        obtain ⟨_, _, hl⟩ := jD.lad
        exact Off.of hl npd
      walk_at "go"
      refine w_cut (fun σ Hd => ∃ (q2 : LQ) (ps : List Addr) (sts : List LSt) (v7 v8 : Option V), q2.t = q'.t ∧ σ = [some (.ref a), some (.int n), some (.ref pla), some (.ref q'.t), some (.ref ph), some (.int ((1 + i : Nat) : Int)), some (.ref pd), v7, v8] ∧
        Hs K H0 n q2 ph ps sts Hd ∧ sts.length ≤ i + 2 ∧ Hd pd = some (.lst (ds.map V.int))) ?_ ?_
      · walk_at "go"
        refine w_ixL (SqL.of hpd) (atI_int (i := 0) e0) ?_
        walk_at "go"
        refine w_dec (fun g => ?_) (fun g => ?_)
        · walk_at "go"
          refine w_lenL (SqL.of jE.hph) ?_
          walk_at "go"
          refine w_dec (fun g1 => ?_) (fun g1 => ?_)
          · walk_at "go"
            refine ⟨H0, n, q', ph, ps, sts, 1, rfl, by decide, by decide, by omega, jE, fun HF q2 c hc hr hf jF => ?_⟩
            walk_at "go"
            refine w_F rfl ?_
            walk_at "go"
            exact ⟨q2, _, _, _, _, hr.t, rfl, jF, by rw [List.length_take]; omega, hf _ _ dO dph hpd⟩
          · walk_at "go"
            obtain ⟨p, st, ep, es, hh, lk, lad⟩ := jE.last
            have hph := jE.hph
            have hpos := jE.pos
            have lb1 := lk.b1
            have lb2 := lk.b2
            have hhs := hh
            obtain ⟨pl1, pe1, g1, g2, g3, _⟩ := hhs
            have eH : atI (ps.map V.ref) (-1) = some (V.ref p) := atI_lastD (by rw [List.getLast?_eq_getElem?, List.length_map, List.getElem?_map, ep]; rfl)
            refine w_ixL (SqL.of hph) eH ?_
            walk_at "go"
            refine w_ixT (SqT.of g1) (atI_nat (j := 2) rfl) ?_
            walk_at "go"
            refine w_dec (fun g60 => ?_) (fun g60 => ?_)
            · walk_at "go"
              refine w_ixL (SqL.of hph) eH ?_
              walk_at "go"
              refine ⟨q', st, n, sts.length - 1, p, pd, ds, d0, d1, rfl, lk, by omega, n1, n2, by omega, hh.sto, hpd, e0, e1, l1, by omega, by omega, hrow, fun st' p' pl' pe' HA hst sA m1 m2 m3 t1 t2 t3 => ?_⟩
              walk_at "go"
              refine w_ixL (SqL.of (sA _ _ hph)) eH ?_
              walk_at "go"
              have oph := jE.oph
              have o1 := Off.of lad m1
              have o2 := Off.of lad m2
              have o3 := Off.of lad m3
              refine ⟨q', st, st', n, sts.length - 1, p, p', pd, ds, d1, d2, rfl, lad.same sA, lk, by omega, n2, hh.sto.same sA, ⟨pl', pe', t1, t2, t3, o1, o2, o3⟩, sA _ _ hpd, e1, e2, hst, fun HB lB fB => ?_⟩
              walk_at "go"
              refine w_F rfl ?_
              have hphB := fB.at_ oph (sA _ _ hph)
              walk_at "go"
              refine w_tyL hphB ?_
              walk_at "go"
              refine w_app hphB (by rw [List.length_map, jE.len]; omega) fun HC bC hC => ?_
              have fA : Fr2 q' ph HE HA := Fr2.of sA
              have fC : Fr2 q' ph HA HC := (Fr2.ofF fB).trans (QR.refl _ _) (Fr2.ofB bC)
              have fAC : Fr2 q' ph HE HC := fA.trans (QR.refl _ _) fC
              have ne1 : p' ≠ ph := fun z => by rw [z, hph] at m1; cases m1
              have ne2 : pl' ≠ ph := fun z => by rw [z, hph] at m2; cases m2
              have ne3 : pe' ≠ ph := fun z => by rw [z, hph] at m3; cases m3
              have hA : HSt q' ph HA p' st' := ⟨pl', pe', t1, t2, t3, o1, o2, o3, ne1, ne2, ne3⟩
              have lk' := lk.step (by omega) n2 hst.stp (by omega)
              rw [show sts.length - 1 + 1 = sts.length by omega] at lk'
              have jC := jE.push fAC hC es (lB.but bC oph) (hA.fr fC (QR.refl _ _)) hst.stp lk'
              exact ⟨q', _, _, _, _, rfl, rfl, jC, by rw [List.length_append, List.length_singleton]; omega, fAC _ _ dO dph hpd⟩
            · walk_at "go"
              exact ⟨q', _, _, _, _, rfl, rfl, jE, by omega, hpd⟩
        · walk_at "go"
          refine w_F rfl ?_
          walk_at "go"
          obtain ⟨p, st, ep, es, hh, lk, lad⟩ := jE.last
          have hph := jE.hph
          have hpos := jE.pos
          have lb1 := lk.b1
          have lb2 := lk.b2
          have hhs := hh
          obtain ⟨pl1, pe1, g1, g2, g3, _⟩ := hhs
          have eH : atI (ps.map V.ref) (-1) = some (V.ref p) := atI_lastD (by rw [List.getLast?_eq_getElem?, List.length_map, List.getElem?_map, ep]; rfl)
          refine w_ixL (SqL.of hph) eH ?_
          walk_at "go"
          refine w_ixT (SqT.of g1) (atI_nat (j := 2) rfl) ?_
          walk_at "go"
          refine w_dec (fun g60 => ?_) (fun g60 => ?_)
          · walk_at "go"
            refine w_ixL (SqL.of hph) eH ?_
            walk_at "go"
            refine ⟨q', st, n, sts.length - 1, p, pd, ds, d0, d1, rfl, lk, by omega, n1, n2, by omega, hh.sto, hpd, e0, e1, l1, by omega, by omega, hrow, fun st' p' pl' pe' HA hst sA m1 m2 m3 t1 t2 t3 => ?_⟩
            walk_at "go"
            refine w_ixL (SqL.of (sA _ _ hph)) eH ?_
            walk_at "go"
            have oph := jE.oph
            have o1 := Off.of lad m1
            have o2 := Off.of lad m2
            have o3 := Off.of lad m3
            refine ⟨q', st, st', n, sts.length - 1, p, p', pd, ds, d1, d2, rfl, lad.same sA, lk, by omega, n2, hh.sto.same sA, ⟨pl', pe', t1, t2, t3, o1, o2, o3⟩, sA _ _ hpd, e1, e2, hst, fun HB lB fB => ?_⟩
            walk_at "go"
            refine w_F rfl ?_
            have hphB := fB.at_ oph (sA _ _ hph)
            walk_at "go"
            refine w_tyL hphB ?_
            walk_at "go"
            refine w_app hphB (by rw [List.length_map, jE.len]; omega) fun HC bC hC => ?_
            have fA : Fr2 q' ph HE HA := Fr2.of sA
            have fC : Fr2 q' ph HA HC := (Fr2.ofF fB).trans (QR.refl _ _) (Fr2.ofB bC)
            have fAC : Fr2 q' ph HE HC := fA.trans (QR.refl _ _) fC
            have ne1 : p' ≠ ph := fun z => by rw [z, hph] at m1; cases m1
            have ne2 : pl' ≠ ph := fun z => by rw [z, hph] at m2; cases m2
            have ne3 : pe' ≠ ph := fun z => by rw [z, hph] at m3; cases m3
            have hA : HSt q' ph HA p' st' := ⟨pl', pe', t1, t2, t3, o1, o2, o3, ne1, ne2, ne3⟩
            have lk' := lk.step (by omega) n2 hst.stp (by omega)
            rw [show sts.length - 1 + 1 = sts.length by omega] at lk'
            have jC := jE.push fAC hC es (lB.but bC oph) (hA.fr fC (QR.refl _ _)) hst.stp lk'
            exact ⟨q', _, _, _, _, rfl, rfl, jC, by rw [List.length_append, List.length_singleton]; omega, fAC _ _ dO dph hpd⟩
          · walk_at "go"
            exact ⟨q', _, _, _, _, rfl, rfl, jE, by omega, hpd⟩
      · rintro _ Hd ⟨q2, ps, sts, v7, v8, e2, rfl, jd, c1, hpd⟩
        obtain ⟨p, st, ep, es, hh, lk, lad⟩ := jd.last
        have eH : atI (ps.map V.ref) (-1) = some (V.ref p) := atI_lastD (by rw [List.getLast?_eq_getElem?, List.length_map, List.getElem?_map, ep]; rfl)
        walk_at "go"
        refine w_ixL (SqL.of jd.hph) eH ?_
        walk_at "go"
        refine w_ixL (SqL.of hpd) (atI_int (i := 3) e3) ?_
        walk_at "go"
        refine ⟨q2, st, p, d3, by rw [e2], lad, lk.ok, hh.sto, fun HG sG => ?_⟩
        walk_at "go"
        refine w_F rfl ?_
        walk_at "go"
        exact ⟨q2, _, _, _, _, _, _, e2, rfl, jd.same sG, by omega⟩
    · rintro _ Hc ⟨q', ps, sts, v5, v6, v7, v8, rfl, rfl, j, b1⟩
      walk_at "go"
      refine w_ixL (SqL.of (j.sm _ _ hpla)) (atI_int (i := 4) ex4) ?_
      walk_at "go"
      wrow_read pd HA NA
      have jA := j.same NA.sm
      have dph0 : pd ≠ ph := fun e => by have := NA.no; rw [e, j.hph] at this; cases this
      have dO0 : Off q' pd := by
        obtain ⟨_, _, hl⟩ := j.lad
        exact Off.of hl NA.no
      walk_at "go"
      refine w_ixL (SqL.of (jA.sm _ _ hpla)) (atI_int (i := 3) ex3) ?_
      walk_at "go"
      refine ⟨H0, n, q', ph, ps, sts, x3, rfl, lx3, by omega, by omega, jA, fun HE q2 c hc hr hf jE => ?_⟩
      have hpd : HE pd = some (.lst (([0, x4, 0, 0] : List Int).map V.int)) := hf _ _ dO0 dph0 NA.at_
      have dO : Off q2 pd := hr.off _ _ dO0 NA.at_
      have e2t := hr.t
      obtain ⟨ps2, hps2⟩ : ∃ ps2, ps2 = ps.take (sts.length - c) := ⟨_, rfl⟩
      obtain ⟨sts2, hsts2⟩ : ∃ sts2, sts2 = sts.take (sts.length - c) := ⟨_, rfl⟩
      rw [← hps2, ← hsts2] at jE
      have b2 : sts2.length ≤ 59 := by rw [hsts2, List.length_take]; omega
      clear hf hr
      rw [← e2t]
      walk_at "go"
      refine w_F rfl ?_
      walk_at "go"
      refine w_cut (fun σ Hd => ∃ (q3 : LQ) (ps : List Addr) (sts : List LSt) (v5 v6 v7 v8 : Option V), q3.t = q2.t ∧ σ = [some (.ref a), some (.int n), some (.ref pla), some (.ref q2.t), some (.ref ph), v5, v6, v7, v8] ∧
        Hs K H0 n q3 ph ps sts Hd ∧ sts.length ≤ 60) ?_ ?_
      · have e0 : ([0, x4, 0, 0] : List Int)[0]? = some 0 := rfl
        have e1 : ([0, x4, 0, 0] : List Int)[1]? = some x4 := rfl
        have e2 : ([0, x4, 0, 0] : List Int)[2]? = some 0 := rfl
        have hrow : (0 : Int) = 1 → ([0, x4, 0, 0] : List Int).length = 4 + (n - 1) := fun z => absurd z (by decide)
        have hds : ([0, x4, 0, 0] : List Int).length = 4 := rfl
        walk_at "go"
        obtain ⟨p, st, ep, es, hh, lk, lad⟩ := jE.last
        have hph := jE.hph
        have hpos := jE.pos
        have lb1 := lk.b1
        have lb2 := lk.b2
        have hhs := hh
        obtain ⟨pl1, pe1, g1, g2, g3, _⟩ := hhs
        have eH : atI (ps2.map V.ref) (-1) = some (V.ref p) := atI_lastD (by rw [List.getLast?_eq_getElem?, List.length_map, List.getElem?_map, ep]; rfl)
        refine w_ixL (SqL.of hph) eH ?_
        walk_at "go"
        refine w_ixT (SqT.of g1) (atI_nat (j := 2) rfl) ?_
        walk_at "go"
        refine w_dec (fun g60 => ?_) (fun g60 => ?_)
        · walk_at "go"
          refine w_ixL (SqL.of hph) eH ?_
          walk_at "go"
          refine ⟨q2, st, n, sts2.length - 1, p, pd, [0, x4, 0, 0], 0, x4, rfl, lk, by omega, n1, n2, by omega, hh.sto, hpd, e0, e1, lx4, by rw [hds]; omega, by rw [hds]; omega, hrow, fun st' p' pl' pe' HA hst sA m1 m2 m3 t1 t2 t3 => ?_⟩
          walk_at "go"
          refine w_ixL (SqL.of (sA _ _ hph)) eH ?_
          walk_at "go"
          have oph := jE.oph
          have o1 := Off.of lad m1
          have o2 := Off.of lad m2
          have o3 := Off.of lad m3
          refine ⟨q2, st, st', n, sts2.length - 1, p, p', pd, [0, x4, 0, 0], x4, 0, rfl, lad.same sA, lk, by omega, n2, hh.sto.same sA, ⟨pl', pe', t1, t2, t3, o1, o2, o3⟩, sA _ _ hpd, e1, e2, hst, fun HB lB fB => ?_⟩
          walk_at "go"
          refine w_F rfl ?_
          have hphB := fB.at_ oph (sA _ _ hph)
          walk_at "go"
          refine w_tyL hphB ?_
          walk_at "go"
          refine w_app hphB (by rw [List.length_map, jE.len]; omega) fun HC bC hC => ?_
          have fA : Fr2 q2 ph HE HA := Fr2.of sA
          have fC : Fr2 q2 ph HA HC := (Fr2.ofF fB).trans (QR.refl _ _) (Fr2.ofB bC)
          have fAC : Fr2 q2 ph HE HC := fA.trans (QR.refl _ _) fC
          have ne1 : p' ≠ ph := fun z => by rw [z, hph] at m1; cases m1
          have ne2 : pl' ≠ ph := fun z => by rw [z, hph] at m2; cases m2
          have ne3 : pe' ≠ ph := fun z => by rw [z, hph] at m3; cases m3
          have hA : HSt q2 ph HA p' st' := ⟨pl', pe', t1, t2, t3, o1, o2, o3, ne1, ne2, ne3⟩
          have lk' := lk.step (by omega) n2 hst.stp (by omega)
          rw [show sts2.length - 1 + 1 = sts2.length by omega] at lk'
          have jC := jE.push fAC hC es (lB.but bC oph) (hA.fr fC (QR.refl _ _)) hst.stp lk'
          exact ⟨q2, _, _, _, _, _, _, rfl, rfl, jC, by rw [List.length_append, List.length_singleton]; omega⟩
        · walk_at "go"
          exact ⟨q2, _, _, _, _, _, _, rfl, rfl, jE, by omega⟩
      · rintro _ Hd ⟨q3, ps, sts, v5, v6, v7, v8, e3t, rfl, jd, c1⟩
        obtain ⟨p, st, ep, es, hh, lk, lad⟩ := jd.last
        have eH : atI (ps.map V.ref) (-1) = some (V.ref p) := atI_lastD (by rw [List.getLast?_eq_getElem?, List.length_map, List.getElem?_map, ep]; rfl)
        walk_at "go"
        refine w_ixL (SqL.of jd.hph) eH ?_
        walk_at "go"
        refine w_ixL (SqL.of (jd.sm _ _ hpla)) (atI_int (i := 5) ex5) ?_
        walk_at "go"
        refine ⟨q3, st, p, _, by rw [e3t], lad, lk.ok, hh.sto, fun HG sG => ?_⟩
        have jG := jd.same sG
        walk_at "go"
        refine w_F rfl ?_
        walk_at "go"
        refine w_lenL (SqL.of jG.hph) ?_
        walk_at "go"
        rw [List.length_map, jG.len]
        have hposG := jG.pos
        obtain ⟨M, hM⟩ : ∃ M, M = (((sts.length : Nat) : Int) - 1).toNat := ⟨_, rfl⟩
        rw [← hM]
        have hM2 : M = sts.length - 1 := by omega
        refine ⟨by omega, by omega, ?_⟩
        refine ForR.run (fun i σ He => ∃ (q4 : LQ) (ps4 : List Addr) (sts4 : List LSt) (w7 : Option V), q4.t = q2.t ∧ σ = [some (.ref a), some (.int n), some (.ref pla), some (.ref q2.t), some (.ref ph), v5, v6, w7, v8] ∧
          Hs K H0 n q4 ph ps4 sts4 He ∧ sts4.length = sts.length - i) ⟨q3, ps, sts, _, e3t, rfl, jG, by omega⟩ ?_ ?_
        · rintro i _ He hi ⟨q4, ps4, sts4, w7, e4t, rfl, je, c4⟩
          walk_at "go"
          refine ⟨H0, n, q4, ph, ps4, sts4, 1, by rw [e4t], by decide, by decide, by omega, je, fun HF q5 c hc hr hf jF => ?_⟩
          obtain ⟨p5, st5, ep5, es5, hh5, lk5, lad5⟩ := jF.last
          have e5t : q5.t = q2.t := hr.t.trans e4t
          have eH5 : atI ((ps4.take (sts4.length - c)).map V.ref) (-1) = some (V.ref p5) := atI_lastD (by rw [List.getLast?_eq_getElem?, List.length_map, List.getElem?_map, ep5]; rfl)
          walk_at "go"
          refine w_F rfl ?_
          walk_at "go"
          refine w_ixL (SqL.of jF.hph) eH5 ?_
          walk_at "go"
          refine w_ixL (SqL.of (jF.sm _ _ hpla)) (atI_int (i := 5) ex5) ?_
          walk_at "go"
          refine ⟨q5, st5, p5, _, by rw [e5t], lad5, lk5.ok, hh5.sto, fun HG2 sG2 => ?_⟩
          walk_at "go"
          refine w_F rfl ?_
          walk_at "go"
          exact ⟨q5, _, _, _, e5t, rfl, jF.same sG2, by rw [List.length_take]; omega⟩
        · rintro _ He ⟨q4, ps4, sts4, w7, e4t, rfl, je, c4⟩
          have one : sts4.length = 1 := by omega
          obtain ⟨st4, lg, lad4⟩ := je.lad
          have est : st4 = ⟨n, [row0 n], [], []⟩ := by
            rw [List.getLast?_eq_getElem?, one] at lg
            have := je.zero
            rw [show (1 : Nat) - 1 = 0 from rfl] at lg
            rw [lg] at this
            exact Option.some.inj this
          subst est
          have lk4 := je.lk 0 _ je.zero
          obtain ⟨p4, ep4⟩ : ∃ p4, ps4[0]? = some p4 := ⟨_, List.getElem?_eq_getElem (by rw [je.len]; omega)⟩
          have hh4 := je.hst 0 _ _ ep4 je.zero
          have eH4 : atI (ps4.map V.ref) ((0 : Nat) : Int) = some (V.ref p4) := atI_nat (j := 0) (by rw [List.getElem?_map, ep4]; rfl)
          walk_at "go"
          refine w_ixL (SqL.of je.hph) eH4 ?_
          walk_at "go"
          refine ⟨q4, _, p4, 1, by rw [e4t], lad4, lk4.ok, hh4.sto, fun HF sF => ?_⟩
          walk_at "go"
          refine w_F rfl ?_
          walk_at "go"
          refine ⟨q4, _, by rw [e4t], lad4.same sF, lk4.ok, rfl, fun HG2 sG2 => ?_⟩
          walk_at "go"
          refine w_F rfl ?_
          walk_at "go"
          have l6 := (lad4.same sF).same sG2
          have ob6 := l6.ob
          rw [e4t] at ob6
          refine f_meth ob6 (no_meth (by decide +kernel)) ?_
          walk_at "go"
          refine ⟨none, q4, _, by rw [e4t], l6, lk4.ok, fun HI lI fI => ?_⟩
          walk_at "go"
          refine ⟨_, _, rfl, Eqd.int rfl, fun HJ sJ => ?_⟩
          walk_at "go"
          refine w_F rfl ?_
          walk_at "go"
          have l7 := lI.same sJ
          have ob7 := l7.ob
          rw [e4t] at ob7
          have ok7 : LOk (LSt.add ⟨n, [row0 n], [], []⟩ (row0 n)) := add_ok lk4.ok (by simp [row0]) (by simp) (by simp [row0]; omega) (by simp)
          refine f_meth ob7 (no_meth (by decide +kernel)) ?_
          walk_at "go"
          refine ⟨none, q4, _, by rw [e4t], l7, ok7, .inr (.inr ⟨⟨n, [row0 n], [], []⟩, row0 n, rfl, fun HK r' nr nl nd ho lK fK => ?_⟩)⟩
          have fJ : Fr2 q4 ph He HJ := ((Fr2.of (sF.trans sG2)).trans (QR.refl _ _) (Fr2.ofF fI)).trans (QR.refl _ _) (Fr2.of sJ)
          have rK : QR q4 { q4 with r := r' } HJ := ⟨rfl, fun b o h e => ⟨h.1, h.2.1, fun z => (by rw [z, nr] at e; cases e), h.2.2.2⟩⟩
          have hK := (hh4.fr fJ (QR.refl _ _)).fr (Fr2.ofF fK) rK
          have hphK := fK.at_ je.oph (sJ _ _ (fI.at_ je.oph (sG2 _ _ (sF _ _ je.hph))))
          walk_at "go"
          refine w_T rfl ?_
          walk_at "go"
          refine ⟨{ q4 with r := r' }, _, by rw [← e4t], lK, lk4.ok, rfl, fun HL sL => ?_⟩
          walk_at "go"
          refine w_T rfl ?_
          walk_at "go"
          refine w_ixL (SqL.of (sL _ _ hphK)) eH4 ?_
          walk_at "go"
          refine ⟨{ q4 with r := r' }, _, p4, 1, by rw [← e4t], lK.same sL, lk4.ok, (hK.sto).same sL, fun HM sM => ?_⟩
          exact k _

end
end Rg

set_option Elab.async false
set_option linter.all false
set_option maxRecDepth 100000
set_option maxHeartbeats 4000000
namespace Rg
open PySem L2
local macro_rules | `(tactic| wrow_read $p $h $n) => `(tactic| (refine ⟨sizes ?c, fun $p hp => ?_⟩; (case c => (first | exact Nat.le_of_ble_eq_true rfl | omega | (simp; omega))); generalize hg : upd _ $p _ = $h; have $n := New.of hp hg; clear hg hp))
local macro_rules | `(tactic| wrow_readAll $p $h $n) => `(tactic| (refine fun $p hp => ?_; generalize hg : upd _ $p _ = $h; have $n := New.of hp hg; clear hg hp))
local macro_rules | `(tactic| walk_at "kk") => `(tactic| dsimp only [cxK, noxK, blkK, trK, suK, L2.start, List.map_cons, List.map_nil, List.length_cons, List.length_nil, List.replicate, List.cons_append, List.nil_append, Nat.reduceAdd, Nat.reduceSub, List.append_nil])
local macro_rules | `(tactic| walk_at "ff") => `(tactic| first | assumption | (refine SqL.of ?_; walk_at "ff") | (refine SqT.of ?_; walk_at "ff") | (refine New.at_ (by assumption)) | (refine Same.at (by assumption) ?_; walk_at "ff") | (refine Same.at (New.sm (by assumption)) ?_; walk_at "ff") | (refine Same.seq (by assumption) ?_; walk_at "ff") | (refine Same.seqT (by assumption) ?_; walk_at "ff"))
local macro_rules | `(tactic| walk_at "sd") => `(tactic| first | decide | omega | assumption | exact Or.inl ⟨by decide, by decide⟩ | exact Or.inr ⟨by decide, by decide⟩ | exact ⟨by decide, by decide⟩ | exact ⟨by decide, by decide, by decide⟩ | exact Or.inl ⟨by omega, by omega⟩ | exact Or.inr ⟨by omega, by omega⟩ | exact ⟨by omega, by omega⟩ | exact ⟨by omega, by omega, by omega, by omega⟩)
local macro_rules | `(tactic| walk_at "g1") => `(tactic| first | ((with_reducible refine w_r1 ?c ?_); case c => ((try simp only [List.length_map]); walk_at "sd")) | ((with_reducible refine w_r2 ?c ?_); case c => ((try simp only [List.length_map]); walk_at "sd")) | (with_reducible first | refine w_seq ?_ | refine w_asg ?_ | refine w_sfld ?_ | refine w_make ?_ | refine w_methK ?_ | refine w_forS ?_ | refine w_m1 ?_ | refine w_isS ?_ | refine w_cnt ?_ | refine w_strE ?_ | refine w_makeK ?_ | refine w_inst ?_ | refine w_instK ?_ | refine w_prop ?_ | refine w_xf ?_ | refine w_rfl ?_ | refine w_ret ?_ | refine w_drop ?_ | refine w_next ?_ | refine w_if ?_ | refine w_var rfl ?_ | refine w_c ?_ | refine w_op ?_ | refine w_I0 ?_ | refine w_test ?_ | refine w_bl ?_ | refine w_cons ?_ | refine w_nil ?_ | refine w_cb ?_ | refine w_callS ?_ | refine w_un ?_ | refine w_U ?_ | refine w_eq rfl ?_ | refine w_ne rfl ?_ | refine w_not ?_ | refine w_and ?_ | refine w_or ?_ | refine w_B ?_ | refine w_sl ?_ | refine w_noPart ?_ | refine w_part ?_ | refine w_int ?_ | refine w_lst ?_ | refine w_tup ?_ | refine w_asgG ?_ | refine w_ifE ?_ | refine w_andV ?_ | refine w_orV ?_ | refine w_notV ?_ | refine w_meth ?_ | refine w_fld ?_ | refine w_brk ?_ | refine w_cont ?_ | refine w_retN ?_ | refine w_int1 ?_ | refine w_2i ?_ | refine w_1i ?_ | refine w_bm ?_ | refine w_bm0 ?_ | refine w_gsub ?_ | refine w_gcons ?_ | refine w_gnil ?_ | refine w_gname ?_ | refine w_forR1 ?_ | refine w_forR2 ?_ | refine w_forL ?_ | refine w_forT ?_ | refine w_listRg1 ?_ | refine w_lcR1 ?_ | refine w_lcR2 ?_ | refine w_lcL ?_ | refine w_yes ?_ | refine w_chain ?_ | refine w_mkoU ?_ | refine w_mko ?_ | refine w_sign ?_ | refine w_dash ?_) | ((with_reducible refine w_I ?c ?_); case c => walk_at "sd") | ((with_reducible refine w_lenL (xs := ?x) ?c ?_); case c => walk_at "ff") | ((with_reducible refine w_ixL (xs := ?x) (v := ?v) ?c ?e ?_); (case c => walk_at "ff"); (case e => with_reducible rfl)) | ((with_reducible refine w_rL (xs := ?x) ?c ?_); case c => walk_at "ff"))
local macro_rules | `(tactic| walk_at "go") => `(tactic| repeat walk_at "g1")
section
variable {P : Program} {w : World} {K : PySem.W.Frag} {mg : Str → Option Value} {base : Heap}
def dA_law_cell : DefA := ⟨fun K => (He.fAd K ("_law_cell", none)), "_law_cell", "_law_cell", defArgs s_law_cell, defBody s_law_cell, defScope s_law_cell⟩
def dA_law_draws : DefA := ⟨fun K => (He.fAd K ("_law_draws", none)), "_law_draws", "_law_draws", defArgs s_law_draws, defBody s_law_draws, defScope s_law_draws⟩
def dA_law_same : DefA := ⟨fun K => (He.fAd K ("_law_same", none)), "_law_same", "_law_same", defArgs s_law_same, defBody s_law_same, defScope s_law_same⟩
def dA_RungError___init : DefA := ⟨fun K => (He.fAd K ("RungError", some "__init__")), "__init__", "RungError.__init__", defArgs s_RungError___init, defBody s_RungError___init, defScope s_RungError___init⟩
def dA_Ladder_check_post : DefA := ⟨fun K => (He.fAd K ("Ladder", some "check_post")), "check_post", "Ladder.check_post", defArgs s_Ladder_check_post, defBody s_Ladder_check_post, defScope s_Ladder_check_post⟩
def dA_Ladder_set_rung : DefA := ⟨fun K => (He.fAd K ("Ladder", some "set_rung")), "set_rung", "Ladder.set_rung", defArgs s_Ladder_set_rung, defBody s_Ladder_set_rung, defScope s_Ladder_set_rung⟩
def dA_Ladder_order : DefA := ⟨fun K => (He.fAd K ("Ladder", some "order")), "order", "Ladder.order", defArgs s_Ladder_order, defBody s_Ladder_order, defScope s_Ladder_order⟩
def dA_Ladder_begin_row : DefA := ⟨fun K => (He.fAd K ("Ladder", some "begin_row")), "begin_row", "Ladder.begin_row", defArgs s_Ladder_begin_row, defBody s_Ladder_begin_row, defScope s_Ladder_begin_row⟩
def dA_Ladder___call : DefA := ⟨fun K => (He.fAd K ("Ladder", some "__call__")), "__call__", "Ladder.__call__", defArgs s_Ladder___call, defBody s_Ladder___call, defScope s_Ladder___call⟩
def dA_Ladder_next_row : DefA := ⟨fun K => (He.fAd K ("Ladder", some "next_row")), "next_row", "Ladder.next_row", defArgs s_Ladder_next_row, defBody s_Ladder_next_row, defScope s_Ladder_next_row⟩
def dA_Ladder_rows : DefA := ⟨fun K => (PropG K (He.ga K "Ladder") "rows"), "rows", "Ladder.rows", defArgs s_Ladder_rows, defBody s_Ladder_rows, defScope s_Ladder_rows⟩
def dA_Ladder___len : DefA := ⟨fun K => (He.fAd K ("Ladder", some "__len__")), "__len__", "Ladder.__len__", defArgs s_Ladder___len, defBody s_Ladder___len, defScope s_Ladder___len⟩
def dA_Ladder___init : DefA := ⟨fun K => (He.fAd K ("Ladder", some "__init__")), "__init__", "Ladder.__init__", defArgs s_Ladder___init, defBody s_Ladder___init, defScope s_Ladder___init⟩
def dA_Ladder_check_text : DefA := ⟨fun K => (He.fAd K ("Ladder", some "check_text")), "check_text", "Ladder.check_text", defArgs s_Ladder_check_text, defBody s_Ladder_check_text, defScope s_Ladder_check_text⟩
def dA_Ladder_add_row : DefA := ⟨fun K => (He.fAd K ("Ladder", some "add_row")), "add_row", "Ladder.add_row", defArgs s_Ladder_add_row, defBody s_Ladder_add_row, defScope s_Ladder_add_row⟩
def dA_law_text : DefA := ⟨fun K => (He.fAd K ("_law_text", none)), "_law_text", "_law_text", defArgs s_law_text, defBody s_law_text, defScope s_law_text⟩
def dA_Ladder_undo : DefA := ⟨fun K => (He.fAd K ("Ladder", some "undo")), "undo", "Ladder.undo", defArgs s_Ladder_undo, defBody s_Ladder_undo, defScope s_Ladder_undo⟩
def dA_law_down : DefA := ⟨fun K => (He.fAd K ("_law_down", none)), "_law_down", "_law_down", defArgs s_law_down, defBody s_law_down, defScope s_law_down⟩
def dA_law_taken : DefA := ⟨fun K => (He.fAd K ("_law_taken", none)), "_law_taken", "_law_taken", defArgs s_law_taken, defBody s_law_taken, defScope s_law_taken⟩
def dA_law_set : DefA := ⟨fun K => (He.fAd K ("_law_set", none)), "_law_set", "_law_set", defArgs s_law_set, defBody s_law_set, defScope s_law_set⟩
def dA_law_posts : DefA := ⟨fun K => (He.fAd K ("_law_posts", none)), "_law_posts", "_law_posts", defArgs s_law_posts, defBody s_law_posts, defScope s_law_posts⟩
def dA_law_state : DefA := ⟨fun K => (He.fAd K ("_law_state", none)), "_law_state", "_law_state", defArgs s_law_state, defBody s_law_state, defScope s_law_state⟩
def dA_law_looked : DefA := ⟨fun K => (He.fAd K ("_law_looked", none)), "_law_looked", "_law_looked", defArgs s_law_looked, defBody s_law_looked, defScope s_law_looked⟩
def dA_law_empty : DefA := ⟨fun K => (He.fAd K ("_law_empty", none)), "_law_empty", "_law_empty", defArgs s_law_empty, defBody s_law_empty, defScope s_law_empty⟩
def dA_law_done : DefA := ⟨fun K => (He.fAd K ("_law_done", none)), "_law_done", "_law_done", defArgs s_law_done, defBody s_law_done, defScope s_law_done⟩
def dA_law_next : DefA := ⟨fun K => (He.fAd K ("_law_next", none)), "_law_next", "_law_next", defArgs s_law_next, defBody s_law_next, defScope s_law_next⟩
def dA_law_back : DefA := ⟨fun K => (He.fAd K ("_law_back", none)), "_law_back", "_law_back", defArgs s_law_back, defBody s_law_back, defScope s_law_back⟩
def dA_law : DefA := ⟨fun K => (He.fAd K ("law", none)), "law", "law", defArgs s_law, defBody s_law, defScope s_law⟩
def fa : List He.Fa := [.glo "_law_cell", .free "len", .glo "_law_draws", .free "range", .free "int", .glo "_law_same", .free "isinstance", .free "bool", .free "str", .free "list", .free "tuple", .free "all", .cls "Ladder", .noat "Ladder" "posts", .noat "Ladder" "lines", .noat "Ladder" "rungs", .noat "Ladder" "deeds", .meth "Ladder" "check_post", .meth "Ladder" "set_rung", .meth "Ladder" "begin_row", .meth "Ladder" "order", .meth "Ladder" "check_text", .glo "InvalidPost", .glo "Taken", .glo "InvalidSize", .free "max", .int "SINGLE_RUNG" (-1), .meth "Ladder" "next_row", .mkr "Ladder", .glo "Ladder", .glo "InvalidRow", .meth "Ladder" "add_row", .glo "_law_text", .glo "NothingToUndo", .meth "Ladder" "undo", .glo "_law_down", .glo "_law_taken", .glo "_law_set", .glo "_law_posts", .glo "_law_state", .glo "_law_looked", .glo "_law_empty", .noat "NothingToUndo" "value", .exm "NothingToUndo" "NothingToUndo" true, .glo "_law_done", .glo "_law_next", .glo "_law_back", .free "min", .glo "law"]
def fx : List Fx := [.oex "InvalidPost", .xi "InvalidPost" "RungError", .oex "Taken", .xi "Taken" "RungError", .oex "InvalidSize", .xi "InvalidSize" "RungError", .callo "Ladder", .prop "Ladder" "rows", .spec "Ladder" "__len__", .oex "InvalidRow", .xi "InvalidRow" "RungError", .oex "NothingToUndo", .xi "NothingToUndo" "RungError", .xf "NothingToUndo"]
def fn : List DefA := [dA_law_cell, dA_law_draws, dA_law_same, dA_RungError___init, dA_Ladder_check_post, dA_Ladder_set_rung, dA_Ladder_order, dA_Ladder_begin_row, dA_Ladder___call, dA_Ladder_next_row, dA_Ladder_rows, dA_Ladder___len, dA_Ladder___init, dA_Ladder_check_text, dA_Ladder_add_row, dA_law_text, dA_Ladder_undo, dA_law_down, dA_law_taken, dA_law_set, dA_law_posts, dA_law_state, dA_law_looked, dA_law_empty, dA_law_done, dA_law_next, dA_law_back, dA_law]
theorem tx_of {h : Heap} (X : K.In h) (G : h.Ns mainGlobals mg) (c : SaysR fa fx fn K) : Tx K mg where
  d_law_cell := c.def_ 0 (d := dA_law_cell) rfl
  g_law_cell := He.glo_ok X G (c.fact 0 (f := .glo "_law_cell") rfl)
  n_len := He.free_ok X G (c.fact 1 (f := .free "len") rfl)
  d_law_draws := c.def_ 1 (d := dA_law_draws) rfl
  g_law_draws := He.glo_ok X G (c.fact 2 (f := .glo "_law_draws") rfl)
  n_range := He.free_ok X G (c.fact 3 (f := .free "range") rfl)
  n_int := He.free_ok X G (c.fact 4 (f := .free "int") rfl)
  d_law_same := c.def_ 2 (d := dA_law_same) rfl
  g_law_same := He.glo_ok X G (c.fact 5 (f := .glo "_law_same") rfl)
  n_isinstance := He.free_ok X G (c.fact 6 (f := .free "isinstance") rfl)
  n_bool := He.free_ok X G (c.fact 7 (f := .free "bool") rfl)
  n_str := He.free_ok X G (c.fact 8 (f := .free "str") rfl)
  n_list := He.free_ok X G (c.fact 9 (f := .free "list") rfl)
  n_tuple := He.free_ok X G (c.fact 10 (f := .free "tuple") rfl)
  n_all := He.free_ok X G (c.fact 11 (f := .free "all") rfl)
  cls_Ladder := He.cls_ok (c.fact 12 (f := .cls "Ladder") rfl)
  na_Ladder_posts := He.noat_ok (c.fact 13 (f := .noat "Ladder" "posts") rfl)
  na_Ladder_lines := He.noat_ok (c.fact 14 (f := .noat "Ladder" "lines") rfl)
  na_Ladder_rungs := He.noat_ok (c.fact 15 (f := .noat "Ladder" "rungs") rfl)
  na_Ladder_deeds := He.noat_ok (c.fact 16 (f := .noat "Ladder" "deeds") rfl)
  me_Ladder_check_post := He.meth_ok (c.fact 17 (f := .meth "Ladder" "check_post") rfl)
  me_Ladder_set_rung := He.meth_ok (c.fact 18 (f := .meth "Ladder" "set_rung") rfl)
  me_Ladder_begin_row := He.meth_ok (c.fact 19 (f := .meth "Ladder" "begin_row") rfl)
  me_Ladder_order := He.meth_ok (c.fact 20 (f := .meth "Ladder" "order") rfl)
  me_Ladder_check_text := He.meth_ok (c.fact 21 (f := .meth "Ladder" "check_text") rfl)
  d_RungError___init := c.def_ 3 (d := dA_RungError___init) rfl
  ox_InvalidPost := oex_ok (c.more 0 (f := .oex "InvalidPost") rfl)
  xi_InvalidPost := xi_ok (c.more 1 (f := .xi "InvalidPost" "RungError") rfl)
  e_InvalidPost := He.glo_ok X G (c.fact 22 (f := .glo "InvalidPost") rfl)
  ox_Taken := oex_ok (c.more 2 (f := .oex "Taken") rfl)
  xi_Taken := xi_ok (c.more 3 (f := .xi "Taken" "RungError") rfl)
  e_Taken := He.glo_ok X G (c.fact 23 (f := .glo "Taken") rfl)
  ox_InvalidSize := oex_ok (c.more 4 (f := .oex "InvalidSize") rfl)
  xi_InvalidSize := xi_ok (c.more 5 (f := .xi "InvalidSize" "RungError") rfl)
  e_InvalidSize := He.glo_ok X G (c.fact 24 (f := .glo "InvalidSize") rfl)
  d_Ladder_check_post := c.def_ 4 (d := dA_Ladder_check_post) rfl
  n_max := He.free_ok X G (c.fact 25 (f := .free "max") rfl)
  d_Ladder_set_rung := c.def_ 5 (d := dA_Ladder_set_rung) rfl
  c_SINGLE_RUNG := (He.int_ok X G (c.fact 26 (f := .int "SINGLE_RUNG" (-1)) rfl)).elim fun t e => ⟨_, e, ⟨t, rfl⟩⟩
  d_Ladder_order := c.def_ 6 (d := dA_Ladder_order) rfl
  d_Ladder_begin_row := c.def_ 7 (d := dA_Ladder_begin_row) rfl
  d_Ladder___call := c.def_ 8 (d := dA_Ladder___call) rfl
  co_Ladder := callo_ok (c.more 6 (f := .callo "Ladder") rfl)
  d_Ladder_next_row := c.def_ 9 (d := dA_Ladder_next_row) rfl
  me_Ladder_next_row := He.meth_ok (c.fact 27 (f := .meth "Ladder" "next_row") rfl)
  d_Ladder_rows := c.def_ 10 (d := dA_Ladder_rows) rfl
  pr_Ladder_rows := prop_ok (c.more 7 (f := .prop "Ladder" "rows") rfl)
  d_Ladder___len := c.def_ 11 (d := dA_Ladder___len) rfl
  sp_Ladder___len__ := spec_ok (c.more 8 (f := .spec "Ladder" "__len__") rfl)
  d_Ladder___init := c.def_ 12 (d := dA_Ladder___init) rfl
  mk_Ladder := He.mkr_ok (c.fact 28 (f := .mkr "Ladder") rfl)
  gC_Ladder := He.glo_ok X G (c.fact 29 (f := .glo "Ladder") rfl)
  ox_InvalidRow := oex_ok (c.more 9 (f := .oex "InvalidRow") rfl)
  xi_InvalidRow := xi_ok (c.more 10 (f := .xi "InvalidRow" "RungError") rfl)
  e_InvalidRow := He.glo_ok X G (c.fact 30 (f := .glo "InvalidRow") rfl)
  d_Ladder_check_text := c.def_ 13 (d := dA_Ladder_check_text) rfl
  d_Ladder_add_row := c.def_ 14 (d := dA_Ladder_add_row) rfl
  me_Ladder_add_row := He.meth_ok (c.fact 31 (f := .meth "Ladder" "add_row") rfl)
  d_law_text := c.def_ 15 (d := dA_law_text) rfl
  g_law_text := He.glo_ok X G (c.fact 32 (f := .glo "_law_text") rfl)
  ox_NothingToUndo := oex_ok (c.more 11 (f := .oex "NothingToUndo") rfl)
  xi_NothingToUndo := xi_ok (c.more 12 (f := .xi "NothingToUndo" "RungError") rfl)
  e_NothingToUndo := He.glo_ok X G (c.fact 33 (f := .glo "NothingToUndo") rfl)
  d_Ladder_undo := c.def_ 16 (d := dA_Ladder_undo) rfl
  me_Ladder_undo := He.meth_ok (c.fact 34 (f := .meth "Ladder" "undo") rfl)
  d_law_down := c.def_ 17 (d := dA_law_down) rfl
  g_law_down := He.glo_ok X G (c.fact 35 (f := .glo "_law_down") rfl)
  d_law_taken := c.def_ 18 (d := dA_law_taken) rfl
  g_law_taken := He.glo_ok X G (c.fact 36 (f := .glo "_law_taken") rfl)
  d_law_set := c.def_ 19 (d := dA_law_set) rfl
  g_law_set := He.glo_ok X G (c.fact 37 (f := .glo "_law_set") rfl)
  d_law_posts := c.def_ 20 (d := dA_law_posts) rfl
  g_law_posts := He.glo_ok X G (c.fact 38 (f := .glo "_law_posts") rfl)
  d_law_state := c.def_ 21 (d := dA_law_state) rfl
  g_law_state := He.glo_ok X G (c.fact 39 (f := .glo "_law_state") rfl)
  d_law_looked := c.def_ 22 (d := dA_law_looked) rfl
  g_law_looked := He.glo_ok X G (c.fact 40 (f := .glo "_law_looked") rfl)
  d_law_empty := c.def_ 23 (d := dA_law_empty) rfl
  g_law_empty := He.glo_ok X G (c.fact 41 (f := .glo "_law_empty") rfl)
  xf_NothingToUndo := xf_ok (c.more 13 (f := .xf "NothingToUndo") rfl)
  xn_NothingToUndo := He.noat_ok (c.fact 42 (f := .noat "NothingToUndo" "value") rfl)
  exm_NothingToUndo_NothingToUndo := He.exm_ok (c.fact 43 (f := .exm "NothingToUndo" "NothingToUndo" true) rfl)
  d_law_done := c.def_ 24 (d := dA_law_done) rfl
  g_law_done := He.glo_ok X G (c.fact 44 (f := .glo "_law_done") rfl)
  d_law_next := c.def_ 25 (d := dA_law_next) rfl
  g_law_next := He.glo_ok X G (c.fact 45 (f := .glo "_law_next") rfl)
  d_law_back := c.def_ 26 (d := dA_law_back) rfl
  g_law_back := He.glo_ok X G (c.fact 46 (f := .glo "_law_back") rfl)
  n_min := He.free_ok X G (c.fact 47 (f := .free "min") rfl)
  d_law := c.def_ 27 (d := dA_law) rfl
  g_law := He.glo_ok X G (c.fact 48 (f := .glo "law") rfl)
abbrev R : PySem.W.OpenRow := PySem.W.OpenLaw.row PySem.Challenge.rw_rungrepeats_k72_whole_deeds_taken_back
abbrev hk : PySem.W.Hook := hookR 6 fa fx fn
def ob (s : PySem.W.SharedT) : AlR := obsRG 6 fa fx fn (HandSHeadRun.getT s)
theorem ob_eq (s : PySem.W.SharedT) : ob s = hk.obs s.abs := obsRG_eq (HandSHeadRun.getT_eq s)
theorem headRun (w : World) : HandSHeadRun.RunEq R (PySem.W.view R.prog [25]) hk ob 4000 ["_law_cell", "_law_draws", "_law_same", "_law_down", "_law_taken", "_law_set", "_law_text", "_law_posts", "_law_state", "_law_looked", "_law_empty", "_law_next", "_law_done", "_law_back", "RungError", "InvalidRow", "InvalidSize", "InvalidPost", "Taken", "NothingToUndo", "Ladder", "SINGLE_RUNG"] w := by
  intro os
  kernel_rfl
end
end Rg
open PySem PySem.W PySem.Calls PyProof.Rows
theorem PySem.Challenge.cw_rungrepeats_k72_whole_deeds_taken_back_holds : PySem.Challenge.rw_rungrepeats_k72_whole_deeds_taken_back.Holds := by
  w_on; o_law
  refine HandSHeadRun.head_any (r := OpenLaw.row PySem.Challenge.rw_rungrepeats_k72_whole_deeds_taken_back) (q := view (OpenLaw.row PySem.Challenge.rw_rungrepeats_k72_whole_deeds_taken_back).prog [25]) (H := Rg.hk) (ob := Rg.ob) (M := 4000) (loose := ["_law_cell", "_law_draws", "_law_same", "_law_down", "_law_taken", "_law_set", "_law_text", "_law_posts", "_law_state", "_law_looked", "_law_empty", "_law_next", "_law_done", "_law_back", "RungError", "InvalidRow", "InvalidSize", "InvalidPost", "Taken", "NothingToUndo", "Ladder", "SINGLE_RUNG"]) (d := HandSHeadRun.topDef (OpenLaw.row PySem.Challenge.rw_rungrepeats_k72_whole_deeds_taken_back).prog 25) (kwd := []) Rg.ob_eq
    (by kernel_rfl) (fun s => by kernel_rfl) Rg.headRun (by kernel_rfl) (by kernel_rfl) (by kernel_rfl) (by rfl) (by first | assumption | decide +kernel) (by decide +kernel) ⟨rfl, rfl, rfl, rfl, rfl, by decide +kernel⟩ ?hw ?hc
  case hw => w_witness2
  case hc =>
    refine L2.walk_ofE (l := PySem.Challenge.rw_rungrepeats_k72_whole_deeds_taken_back) (n := 63) (k := 9) (x := "script") (CX := L2.CX0) rfl (by decide) (by kernel_rfl) ⟨rfl, by decide, by decide⟩ ?F (fun _ _ _ _ z => z)
    intro w mg f h Y G hmg0
    obtain ⟨K, KX, c⟩ := Y
    have hmg : mg ("law" : PySem.Str) = some (.ref f) := by
      have e : (HandSHeadRun.topDef (OpenLaw.row PySem.Challenge.rw_rungrepeats_k72_whole_deeds_taken_back).prog 25).name = ("law" : PySem.Str) := by kernel_rfl
      rw [← e]
      exact hmg0
    have T := Rg.tx_of KX G c
    obtain ⟨fd, F⟩ := T.d_law
    have e := hmg.symm.trans T.g_law
    cases e
    have b := L2.FunD.bindsA (ps := ["script"]) F fun _ _ _ _ _ _ us hl => match us, hl with | [_], _ => rfl
    exact ⟨K, fd, Rg.spLaw K, KX, fun s v => b s [v] rfl, fun H a ns hl _ hS => ⟨a, ns, rfl, hS, hl, fun _ => rfl⟩, fun base _ _ => Rg.fok_law T F⟩
namespace Rg
section
end
end Rg

