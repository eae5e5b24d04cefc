import PyProof.Rows.All
import Wide.All
import OpenK.AllK
import Wide.FinOn
import PySem.Challenge.RW_allwordlengths_k64_whole_deeds_at_once
import HandS.ForMost
import HandS.ForExc
import HandS.TryMany
import HandS.CallSlots
import KE.KOpsOwn
import OpenK.KMeth
import OpenK.KOps
import HandS.ExcInit
import HandS.ExcField
import KE.KExcSuper
import HandS.Finally
import HandS.OwnEq
import HandS.IterVal
import HandS.RevTup
import HandS.ClsMeth
import HandS.IsInst
import HandS.FStr
import HandS.Flow
import HandS.Style
import PyProof.DictUpdate
import PyProof.DictDisplay
import PyProof.Rows.TupDisplay
import PyProof.InstNe
import KE.KRevSl
import HandS.OwnIter
import HandS.Lambda
import HandS.Text
import PyProof.EqLayable
import HandS.DictComp
import HandS.Wide
import HandS.AnyAll
import HandS.Iter
import HandS.StrMore
import HandS.Walk
import HandS.ExcBuiltin
import HandS.HeadHook1
import HandS.HeadHook2
import HandS.HeadHook3
import HandS.HeadHook4
import HandS.HeadNt
import KE.KStateDown
import HandS.Head0
import HandS.Head1
import HandS.Head2
import HandS.HeadEnd
import HandS.HeadWalk
import HandS.EndTab
/-! ## KRules1 -/
set_option Elab.async false
set_option linter.all false
set_option maxRecDepth 100000
set_option maxHeartbeats 2000000
namespace K64
open PySem PySem.Spec PyProof.Rows L2
abbrev St := L2.St
/-! ### a def of the module by its name; a method by its class -/
structure FnG (P : Program) (w : World) (K : PySem.W.Frag) (mg : Str → Option Value) (base : Heap) (CX : CXT) (k : Nat) (x : Str) (ps : List Str) (sp : Sp) : Prop where
  ex : ∃ f fd, mg x = some (.ref f) ∧ PySem.W.keepIn K (.ref f) = true ∧ Binds K fd ps [] ∧ FnOk P w K mg base CX k f fd ps sp
structure MtG (P : Program) (w : World) (K : PySem.W.Frag) (mg : Str → Option Value) (base : Heap) (CX : CXT) (k : Nat) (C : Addr) (m : Str) (ps : List Str) (sp : Sp) : Prop where
  ex : ∃ f fd, Meth K C m f ∧ Binds K fd ps [] ∧ FnOk P w K mg base CX k f fd ps sp
/-- a class by its name, with its own __init__ -/
structure MkG (P : Program) (w : World) (K : PySem.W.Frag) (mg : Str → Option Value) (base : Heap) (CX : CXT) (k : Nat) (C : Addr) (x : Str) (ps : List Str) (sp : Sp) : Prop where
  ex : ∃ f fd, mg x = some (.ref C) ∧ Mk K C f ∧ Binds K fd ps [] ∧ FnOk P w K mg base CX k f fd ps sp
theorem passAt0 {X : Cx} (σ : St) : PassesAt CX0 X σ E0 := fun _ _ _ _ _ _ z => z.elim
section
variable {X : Cx} {j k : Nat} {C : Addr} {ps : List Str} {sp : Sp} {W : WX} {x m : Str} {p pos apos : Pos} {e o : Expr} {es : List Expr} {ta te : TE} {t : TA}
/-- f(..), f lets nothing out -/
theorem pe_fn0 (F : FnG X.prog X.w X.K X.mg X.base CX0 k x ps sp) (hr : Room j X.A) (ha : PA X (e :: es) t) (hk : k ≤ j := by decide) (hg : Gl X x := by rfl) (hdb : (x == ("__debug__" : Str)) = false := by decide)
    (he : starEach (e :: es) X.env = (false, eval e X.env) :: starEach es X.env := by rfl) (hpl : (backTo pos (starEach es X.env)).any (·.1) = false := by rfl) : PE X (.Call (.Name x p) (e :: es) [] pos) (tCallS sp (fun _ => E0) t) := by
  obtain ⟨f, fd, hm, hkp, hb, G⟩ := F.ex
  exact pe_callS (E := fun _ => E0) G (hr.mono hk) hg hm hkp hb (fun σ => passAt0 σ) ha hdb he hpl
/-- f(..), f may raise -/
theorem pe_fnX (F : FnG X.prog X.w X.K X.mg X.base (L2.CX X.prog X.w) k x ps sp) (tk : Takes X W) (hr : Room j X.A) (ha : PA X (e :: es) t) (hk : k ≤ j := by decide) (hg : Gl X x := by rfl) (hdb : (x == ("__debug__" : Str)) = false := by decide)
    (he : starEach (e :: es) X.env = (false, eval e X.env) :: starEach es X.env := by rfl) (hpl : (backTo pos (starEach es X.env)).any (·.1) = false := by rfl) : PE X (.Call (.Name x p) (e :: es) [] pos) (tCallS sp (WE W) t) := by
  obtain ⟨f, fd, hm, hkp, hb, G⟩ := F.ex
  exact pe_callS (E := WE W) G (hr.mono hk) hg hm hkp hb (fun σ => passAt tk σ) ha hdb he hpl
/-- f() -/
theorem pe_fn00 (F : FnG X.prog X.w X.K X.mg X.base CX0 k x [] sp) (hr : Room j X.A) (hk : k ≤ j := by decide) (hg : Gl X x := by rfl) (hdb : (x == ("__debug__" : Str)) = false := by decide) : PE X (.Call (.Name x p) [] [] pos) (tCall sp [] E0 tNil) := by
  obtain ⟨f, fd, hm, hkp, hb, G⟩ := F.ex
  exact pe_call0 G (hr.mono hk) hg hm hkp hb .nil pass0 (hdb := hdb)
/-- o.m(e, ..) -/
def tMethS (C : Addr) (m : Str) (sp : Sp) (E : St → XK) (ta : TE) (t : TA) : TE := fun σ H Q => ta σ H fun x H1 => ∃ a dx fs, x = .ref a ∧ H1 a = some (.ins C dx fs) ∧ fs.lookup m = none ∧ t σ H1 fun vs H2 => sp (x :: vs) H2 Q (E σ)
theorem pe_methE {CX : CXT} {E : St → XK} {pl : Sem Bool} (he : PE X o ta) (c : Cls X.K C) (F : MtG X.prog X.w X.K X.mg X.base CX k C m ps sp) (hr : Room k X.A) (hx : ∀ σ, PassesAt CX X σ (E σ)) (ha : PA X (e :: es) t)
    (hst : starEach (e :: es) X.env = (false, eval e X.env) :: starEach es X.env := by rfl) (hpl : (backTo pos (starEach es X.env)).any (·.1) = false := by rfl)
    (ht : eval (.Call (.Attribute o m apos) (e :: es) [] pos) X.env = (do
      let ov ← eval o X.env
      standAt apos.atName
      let (f, first) ← holding [ov] (getMethod ov m pl)
      callWith pos f first (backTo pos (starEach (e :: es) X.env)) (backToKw pos (keywordEach [] X.env))) := by rfl) :
    PE X (.Call (.Attribute o m apos) (e :: es) [] pos) (tMethS C m sp E ta t) := by
  obtain ⟨f, fd, hm, hb, G⟩ := F.ex
  refine ⟨fun pins s σ H Q I h => ?_⟩
  refine PySem.W.methodCall_KW (pl := pl) (thn (he.run pins s σ H _ I h) fun u s1 ⟨x, H1, I1, rx, a, dx, fs, ex, ea, l, q⟩ => ?_) ht
  subst ex
  obtain rfl : u = Value.ref a := rx
  refine getmeth_ok I1 ea c hm l ?_
  refine PySem.W.callWith_K (first := [.ref a]) (h₀ := X.base) I.ok.mod.kin hm.kp (thn (ha.run pos pins s1 σ H1 _ I1 q) fun us s2 ⟨vs, H2, I2, r, q2⟩ => ⟨I2.kIn, ?_⟩) hst hpl
  exact run_fnS (us := .ref a :: us) (vs := .ref a :: vs) G hr hb (hx σ) I2 (.cons rfl r) q2
theorem pe_meth0E {CX : CXT} {E : St → XK} {pl : Sem Bool} (he : PE X o ta) (c : Cls X.K C) (F : MtG X.prog X.w X.K X.mg X.base CX k C m ps sp) (hr : Room k X.A) (hx : ∀ σ, PassesAt CX X σ (E σ))
    (ht : eval (.Call (.Attribute o m apos) [] [] pos) X.env = (do
      let ov ← eval o X.env
      standAt apos.atName
      let (f, first) ← holding [ov] (getMethod ov m pl)
      callWith pos f first (backTo pos (starEach [] X.env)) (backToKw pos (keywordEach [] X.env))) := by rfl) :
    PE X (.Call (.Attribute o m apos) [] [] pos) (tMethS C m sp E ta tNil) := by
  obtain ⟨f, fd, hm, hb, G⟩ := F.ex
  refine ⟨fun pins s σ H Q I h => ?_⟩
  refine PySem.W.methodCall_KW (pl := pl) (thn (he.run pins s σ H _ I h) fun u s1 ⟨x, H1, I1, rx, a, dx, fs, ex, ea, l, q⟩ => ?_) ht
  subst ex
  obtain rfl : u = Value.ref a := rx
  refine getmeth_ok I1 ea c hm l ?_
  exact PySem.W.callWith_K0 (first := [.ref a]) I1.kIn hm.kp (run_fnS (us := [.ref a]) (vs := [.ref a]) G hr hb (hx σ) I1 (.cons rfl .nil) q)
/-- a def called a level further in -/
theorem run_fnI {CX : CXT} {f : Addr} {fd : FuncData} {E : XK} {pins : List (Addr × Obj)} {σ : St} {H : Hp} {s : Shared} {Q : VK} {us : List Value} {vs : List V} (F : FnOk X.prog X.w X.K X.mg X.base CX k f fd ps sp) (hr : Room (k + 1) X.A) (hb : Binds X.K fd ps []) (hx : PassesAt CX X σ E)
    (I : Inv X pins σ H s) (r : Vals vs us) (h : sp vs H Q E) : wpAny (model X.prog X.w) X.A.in1 (call (.ref f) us) (EP X pins σ Q) X.xe s := by
  have hl : us.length = ps.length := by rw [← r.length]; exact F.len _ _ _ _ h
  have b := hb s us I.kIn (by rw [List.append_nil]; exact hl)
  rw [List.append_nil] at b
  refine wpAny_call (codeAny_mono (F.run X.A.in1 X.stack s H ⟨us, []⟩ us vs Q E hr.in1 I.env0.in1 b r h) fun r s' hq => ?_)
  cases r with
  | error e => exact hx pins H s e s' I hq
  | ok fl =>
    cases fl with
    | ret u => exact I.after hq
    | next => exact False.elim hq
    | brk => exact False.elim hq
    | cont => exact False.elim hq
/-- the instance at a, as the library's rules for own classes want it -/
theorem inst_of {pins : List (Addr × Obj)} {σ : St} {H : Hp} {s : Shared} {a dx : Addr} {fs : List (Str × V)} (I : Inv X pins σ H s) (ea : H a = some (.ins C dx fs)) : ∃ od, PySem.W.InstAt s.heap a (PySem.W.instObj C dx) C (some od) := by
  obtain ⟨mA, O, _⟩ := ins_get I.hok ea
  obtain ⟨od, J, _⟩ := O.look
  exact ⟨od, J⟩
/-- o[i], o of an own class -/
def tOwnGet (C : Addr) (sp : Sp) (E : St → XK) (to ti : TE) : TE := fun σ H Q => to σ H fun x H1 => ti σ H1 fun y H2 => ∃ a dx fs, x = .ref a ∧ H2 a = some (.ins C dx fs) ∧ sp [x, y] H2 Q (E σ)
theorem pe_ownGet {CX : CXT} {E : St → XK} {i : Expr} {ti : TE} (F : MtG X.prog X.w X.K X.mg X.base CX k C "__getitem__" ps sp) (hfi : ∀ f, Meth X.K C "__getitem__" f → PySem.W.fnIn X.K f = true) (hr : Room (k + 1) X.A) (hx : ∀ σ, PassesAt CX X σ (E σ)) (ho : PE X o ta) (hi : PE X i ti)
    (hsl : ∀ a v, subscripted i true (.ref a) v = runValue (.builtin "lifetime.subscript" ⟨[.ref a, v], []⟩) := by intro _ _; with_unfolding_all rfl) :
    PE X (.Subscript o i pos) (tOwnGet C sp E ta ti) := by
  obtain ⟨f, fd, hm, hb, G⟩ := F.ex
  refine ⟨fun pins s σ H Q I h => ?_⟩
  refine Subscript_ (binT ho hi I h fun v u s2 x y H2 I2 rx ry q => ?_)
  obtain ⟨a, dx, fs, ex, ea, q⟩ := q
  subst ex
  obtain rfl : v = Value.ref a := rx
  obtain ⟨od, J⟩ := inst_of I2 ea
  obtain ⟨m, fr⟩ := I2.fr
  exact PySem.W.sub_K fr I2.ok.mod.kin J hm.at_ (hfi f hm) hm.fn (run_fnI (us := [.ref a, u]) (vs := [.ref a, y]) G hr hb (hx σ) I2 (.cons rfl (.cons ry .nil)) q) (hsl a u)
/-- ~o -/
def tOwn1 (C : Addr) (sp : Sp) (E : St → XK) (to : TE) : TE := fun σ H Q => to σ H fun x H1 => ∃ a dx fs, x = .ref a ∧ H1 a = some (.ins C dx fs) ∧ sp [x] H1 Q (E σ)
theorem pe_ownInv {CX : CXT} {E : St → XK} (F : MtG X.prog X.w X.K X.mg X.base CX k C "__invert__" ps sp) (hr : Room k X.A) (hx : ∀ σ, PassesAt CX X σ (E σ)) (ho : PE X o ta) : PE X (.UnaryOp .Invert o pos) (tOwn1 C sp E ta) := by
  obtain ⟨f, fd, hm, hb, G⟩ := F.ex
  refine ⟨fun pins s σ H Q I h => ?_⟩
  refine UnaryOp_ (thn (ho.run pins s σ H _ I h) fun v s1 ⟨x, H1, I1, rx, a, dx, fs, ex, ea, q⟩ => ?_)
  subst ex
  obtain rfl : v = Value.ref a := rx
  obtain ⟨od, J⟩ := inst_of I1 ea
  obtain ⟨m, fr⟩ := I1.fr
  exact PySem.W.ksp_inv fr I1.ok.mod.kin J hm.at_ hm.fn (run_fnS (us := [.ref a]) (vs := [.ref a]) G hr hb (hx σ) I1 (.cons rfl .nil) q)
/-- len(o) -/
def tOwnLen (C : Addr) (sp : Sp) (t : TA) : TE := fun σ H Q => t σ H fun vs H1 => ∃ a dx fs, vs = [.ref a] ∧ H1 a = some (.ins C dx fs) ∧ sp [.ref a] H1 (fun v H2 => ∃ n : Int, v = .int n ∧ 0 ≤ n ∧ n < 2 ^ 63 ∧ Q (.int n) H2) E0
theorem pe_ownLen {p pos : Pos} (F : MtG X.prog X.w X.K X.mg X.base CX0 k C "__len__" ps sp) (hr : Room (k + 1) X.A) (ha : PA X (o :: []) t) (hm : X.mg "len" = none) (hg : Gl X "len" := by rfl)
    (he : starEach (o :: []) X.env = (false, eval o X.env) :: starEach [] X.env := by rfl) (hpl : (backTo pos (starEach [] X.env)).any (·.1) = false := by rfl) :
    PE X (.Call (.Name "len" p) [o] [] pos) (tOwnLen C sp t) := by
  obtain ⟨f, fd, hme, hb, G⟩ := F.ex
  refine ⟨fun pins s σ H Q I h => ?_⟩
  refine wpAny_Call_Name_kw (ld_blt I hg hm PySem.boot_len ?_ (by decide) (by decide))
  refine PyProof.Rows.callWith_builtin1 (thn (ha.run pos pins s σ H _ I h) fun us s1 hh => ?_) he hpl
  obtain ⟨vs, H1, I1, r1, a, dx, fs, ev, ea, q⟩ := hh
  subst ev
  obtain ⟨u, eu, ru⟩ := vals1 r1
  subst eu
  obtain rfl : u = Value.ref a := ru
  obtain ⟨od, J⟩ := inst_of I1 ea
  obtain ⟨m, fr⟩ := I1.fr
  refine PySem.W.len_K fr I1.ok.mod.kin J hme.at_ hme.fn (thn (run_fnI (E := E0) (us := [.ref a]) (vs := [.ref a]) G hr hb (passAt0 σ) I1 (.cons rfl .nil) q) fun r s2 hr2 => ?_)
  obtain ⟨v, H2, I2, rv, n, ev, h0, h1, q2⟩ := hr2
  subst ev
  obtain ⟨t, rfl⟩ := rv
  exact ⟨⟨h0, h1⟩, .int n, H2, I2.tok _, ⟨_, rfl⟩, q2⟩
/-- x in o, x not in o -/
theorem op_ownIn (F : MtG X.prog X.w X.K X.mg X.base CX0 k C "__contains__" ps sp) (hr : Room k X.A) : OpR X (compareOp .In) (fun x y H Q => ∃ a dx fs, y = .ref a ∧ H a = some (.ins C dx fs) ∧ sp [y, x] H (fun v H2 => ∃ b, v = .bl b ∧ Q (.bl b) H2) E0) := by
  obtain ⟨f, fd, hme, hb, G⟩ := F.ex
  intro pins s σ H x y v u Q I rx ry h
  obtain ⟨a, dx, fs, ey, ea, q⟩ := h
  subst ey
  obtain rfl : u = Value.ref a := ry
  obtain ⟨od, J⟩ := inst_of I ea
  obtain ⟨m, fr⟩ := I.fr
  refine PySem.W.in_K fr I.ok.mod.kin J hme.at_ hme.fn (thn (run_fnS (E := fun _ => E0) (us := [.ref a, v]) (vs := [.ref a, x]) G hr hb (passAt0 σ) I (.cons rfl (.cons rx .nil)) q) fun r s2 hr2 => ?_)
  obtain ⟨z, H2, I2, rv, b, ev, q2⟩ := hr2
  subst ev
  obtain rfl : r = Value.bool b := rv
  exact wpAny_truthy_bool ⟨.bl b, H2, I2, rfl, q2⟩
theorem op_ownNotIn (F : MtG X.prog X.w X.K X.mg X.base CX0 k C "__contains__" ps sp) (hr : Room k X.A) : OpR X (compareOp .NotIn) (fun x y H Q => ∃ a dx fs, y = .ref a ∧ H a = some (.ins C dx fs) ∧ sp [y, x] H (fun v H2 => ∃ b, v = .bl b ∧ Q (.bl (!b)) H2) E0) := by
  obtain ⟨f, fd, hme, hb, G⟩ := F.ex
  intro pins s σ H x y v u Q I rx ry h
  obtain ⟨a, dx, fs, ey, ea, q⟩ := h
  subst ey
  obtain rfl : u = Value.ref a := ry
  obtain ⟨od, J⟩ := inst_of I ea
  obtain ⟨m, fr⟩ := I.fr
  refine PySem.W.notIn_K fr I.ok.mod.kin J hme.at_ hme.fn (thn (run_fnS (E := fun _ => E0) (us := [.ref a, v]) (vs := [.ref a, x]) G hr hb (passAt0 σ) I (.cons rfl (.cons rx .nil)) q) fun r s2 hr2 => ?_)
  obtain ⟨z, H2, I2, rv, b, ev, q2⟩ := hr2
  subst ev
  obtain rfl : r = Value.bool b := rv
  exact wpAny_truthy_bool ⟨.bl (!b), H2, I2, rfl, q2⟩
/-- o[i] = v, o of an own class; what it raises is wished for at the slots as they stand -/
def gOwnSet (C : Addr) (sp : Sp) (E : St → XK) (to ti : TE) : TG := fun v σ H Q => to σ H fun x H1 => ti σ H1 fun y H2 => ∃ a dx fs, x = .ref a ∧ H2 a = some (.ins C dx fs) ∧ sp [x, y, v] H2 (fun _ H3 => Q σ H3) (E σ)
theorem pg_ownSet {CX : CXT} {E : St → XK} {i : Expr} {ti : TE} (F : MtG X.prog X.w X.K X.mg X.base CX k C "__setitem__" ps sp) (hq : PySem.W.noSeq X.K C = true) (hr : Room k X.A) (hx : ∀ σ, PassesAt CX X σ (E σ)) (ho : PE X o ta) (hi : PE X i ti)
    (ha : ∀ v, assign (.Subscript o i pos) X.env v = (do
      let ov ← holding [v] (eval o X.env)
      let iv ← holding [v, ov] (eval i X.env)
      standAt pos
      holding [v, ov, iv] (setItem ov iv v)
      release [v, ov, iv] []) := by intro _; rfl) : PG X (.Subscript o i pos) (gOwnSet C sp E ta ti) := by
  obtain ⟨f, fd, hm, hb, G⟩ := F.ex
  refine ⟨fun pins s σ H v u Q I r h => ?_⟩
  rw [ha]
  refine wpAny_bind (wpAny_holding (thn (ho.run pins s σ H _ I h) fun ov s1 ⟨x, H1, I1, r1, q1⟩ => ?_))
  refine wpAny_bind (wpAny_holding (thn (hi.run pins s1 σ H1 _ I1 q1) fun iv s2 ⟨y, H2, I2, r2, q2⟩ => ?_))
  obtain ⟨a, dx, fs, ex, ea, q⟩ := q2
  subst ex
  obtain rfl : ov = Value.ref a := r1
  obtain ⟨od, J⟩ := inst_of I2 ea
  obtain ⟨m, fr⟩ := I2.fr
  refine wpAny_bind (wpAny_standAt (wpAny_bind (wpAny_holding ?_)))
  refine PySem.W.ksp_setItem fr I2.ok.mod.kin J hq hm.at_ hm.fn (thn (run_fnS (us := [.ref a, iv, u]) (vs := [.ref a, y, v]) G hr hb (hx σ) I2 (.cons rfl (.cons r2 (.cons r .nil))) q) fun _ s3 hh => ?_)
  obtain ⟨z, H3, I3, _, q3⟩ := hh
  exact wpAny_release ⟨σ, H3, I3, q3⟩
end
end K64
/-! ## KExc -/
set_option Elab.async false
set_option linter.all false
set_option maxRecDepth 100000
set_option maxHeartbeats 4000000
namespace K64
open PySem PySem.Spec PySem.W PySem.Calls PyProof.Rows PySem.HandSPX
/-! ### an own exception class whose __init__ says super().__init__('m') and, it may be, stores its one argument -/
/-- the positions of such an __init__ -/
structure XPos where
  (a1 a2 p0 p1 p2 p3 p4 p5 q1 q2 q3 q4 : Pos)
def xSup (m : Str) (p : XPos) : Stmt := .Expr (.Call (.Attribute (.Call (.Name "super" p.p0) [] [] p.p1) "__init__" p.p2) [.Constant (.str m) 0 p.p3] [] p.p4) p.p5
def xSto (f : Str) (p : XPos) : Stmt := .Assign [.Attribute (.Name "self" p.q1) f p.q2] (.Name f p.q3) p.q4
def xArgs (f : Str) (p : XPos) : Arguments := { posonlyargs := [], args := [{ arg := "self", annotation := none, pos := p.a1 }, { arg := f, annotation := none, pos := p.a2 }], vararg := none, kwonlyargs := [], kw_defaults := [], kwarg := none, defaults := [] }
def xArgs0 (p : XPos) : Arguments := { posonlyargs := [], args := [{ arg := "self", annotation := none, pos := p.a1 }], vararg := none, kwonlyargs := [], kw_defaults := [], kwarg := none, defaults := [] }
def xScope (f : Str) : Scope := { kind := .function, names := [("self", .local), (f, .local), ("__class__", .free), ("super", .globalImplicit)], isGenerator := false, isCoroutine := false, more := [] }
def xScope0 : Scope := { kind := .function, names := [("self", .local), ("__class__", .free), ("super", .globalImplicit)], isGenerator := false, isCoroutine := false, more := [] }
/-- what the written part says of such a class, at C, and of its __init__ -/
structure XCls (prog : Program) (K : Frag) (mg : Str → Option Value) (x : Str) (C fI : Addr) (qual : Str) (params : Arguments) (body : List Stmt) (scope : Scope) : Prop where
  gC : mg x = some (.ref C)
  cls : ∃ nm q N bs bm sn sub ab col dd k0 k1 k2 k3 k5, K.lookup C = some (excClassObj nm q C N bs bm true sn sub ab col dd k0 k1 k2 k3 k5 "ValueError.__new__") ∧ refsVE bm = true
  sa : findIn K (.ref C) "__setattr__" = some (some (.builtin "object.__setattr__"))
  iC : findIn K (.ref C) "__init__" = some (some (.ref fI))
  tI : typeIn K (.ref fI) = some (.type "function")
  kC : keepIn K (.ref C) = true
  exC : subIn K (.ref C) (.type "BaseException") = some true
  tyC : typeIn K (.ref C) = some (.type "type")
  veC : subIn K (.ref C) (.type "ValueError") = some true
  self : mroIn K C (.ref C) = some true
  sup : ks_superIn K C C "__init__" = some (some (.builtin "ValueError.__init__"))
  stat : nsIn K cStatics "thirdparty.any" = some none
  gS : nsIn K mainGlobals "super" = some none
  top : (prog.main.scope.names.lookup ("super" : Str)).isSome = false
  fn : ∃ (oc doc pm kV ct : Value) (od an : Option Addr) (osl : Array (Option Value)) (cda cc : Addr), K.lookup fI = some ⟨oc, od, .func (fnX "__init__" qual params body scope [("__class__", cc)] .none kV doc pm an (.ref cda) ct), osl⟩ ∧ codeIn K (.ref cda) qual = true ∧
    (∃ ccl cdd vs ccs file tf, K.lookup cda = some ⟨ccl, cdd, .fields vs, ccs⟩ ∧ vs[2]? = some (.str file tf) ∧ ((prog.main.file : Str) == file) = true) ∧ ∃ cl cld csl, K.lookup cc = some ⟨cl, cld, .cell (some (.ref C)), csl⟩
theorem XCls.oex {prog : Program} {K : Frag} {mg : Str → Option Value} {x : Str} {C fI : Addr} {qual : Str} {params : Arguments} {body : List Stmt} {scope : Scope} (T : XCls prog K mg x C fI qual params body scope) : L2.OexC K C := ⟨T.cls, T.sa, T.exC, T.tyC, T.kC⟩
section
variable {prog : Program} {w : World} {A : Around} {E : Value → Shared → Prop} {K : Frag} {mg : Str → Option Value} {x : Str} {C fI : Addr} {qual : Str} {params : Arguments} {body : List Stmt} {scope : Scope}
/-- super().__init__('m'), the object at e -/
theorem x_super {pl : Sem Bool} {mb : Str → Option Value} {env : Env} {m : Str} {p : XPos} {e t0 cda cc : Addr} {s : Shared} {mL : Str → Option Value} {Q : Flow → Shared → Prop} (T : XCls prog K mg x C fI qual params body scope)
    (X : K.In s.heap) (hG : s.heap.Ns mainGlobals mg) (hB : s.heap.Ns builtinsNs mb) (hmb : mb "super" = some (.type "super")) (hmS : mg "super" = none)
    (henv : env.globals = mainGlobals ∧ env.builtins = builtinsNs ∧ env.func = some fI ∧ env.code = .ref cda ∧ env.scope.kind = .function ∧ env.cells.lookup ("__class__" : Str) = some cc)
    (hk1 : env.kindOf "super" = some .globalImplicit) (hk2 : env.kindOf "__class__" = some .free) (hk3 : env.kindOf "self" = some .local) (hint : interactive env = false)
    (hn : s.heap.Ns env.locals mL) (hv : mL "self" = some (.ref e)) (he : s.heap.get? e = some (excO C t0))
    {oc doc pm kV ct : Value} {od an : Option Addr} {osl : Array (Option Value)} (lk : K.lookup fI = some ⟨oc, od, .func (fnX "__init__" qual params body scope [("__class__", cc)] .none kV doc pm an (.ref cda) ct), osl⟩)
    (hpar : ∃ ar, (params.posonlyargs ++ params.args).head? = some ar ∧ ar.arg = "self")
    {ccl : Value} {cdd : Option Addr} {vs : Array Value} {ccs : Array (Option Value)} {file : Str} {tf : Tok} (lc : K.lookup cda = some ⟨ccl, cdd, .fields vs, ccs⟩) (hvs : vs[2]? = some (.str file tf)) (hfile : ((prog.main.file : Str) == file) = true)
    {cl : Value} {cld : Option Addr} {csl : Array (Option Value)} (lcell : K.lookup cc = some ⟨cl, cld, .cell (some (.ref C)), csl⟩)
    (hq : ∀ h' tk t1, (∀ b o, b ≠ e → s.heap.get? b = some o → h'.get? b = some o) → h'.get? e = some (excO C t1) → Q .next { s with heap := h', toks := tk })
    (hsw : swapsWith (.Call (.Attribute (.Call (.Name "super" p.p0) [] [] p.p1) "__init__" p.p2) [.Constant (.str m) 0 p.p3] [] p.p4) none p.p5.line env = pure false)
    (hev : eval (.Call (.Attribute (.Call (.Name "super" p.p0) [] [] p.p1) "__init__" p.p2) [.Constant (.str m) 0 p.p3] [] p.p4) env = (do
      let ov ← attributeBase (.Call (.Name "super" p.p0) [] [] p.p1) "__init__" env (eval (.Call (.Name "super" p.p0) [] [] p.p1) env)
      standAt p.p2.atName
      let (f, first) ← holding [ov] (getMethod ov "__init__" pl)
      callWith p.p4 f first (backTo p.p4 (starEach [.Constant (.str m) 0 p.p3] env)) [])) :
    _root_.PySem.wpAt (model prog w) A (.func body env) (exec (xSup m p) env) Q E s := by
  obtain ⟨nm, q, N, bs, bm, sn, sub, ab, col, dd, k0, k1, k2, k3, k5, hC, hbm⟩ := T.cls
  have hcl : clsIn K C = some { name := nm, bases := bs, mro := .ref C :: bm, ns := N, qualname := q, hasDict := true, slotNames := sn, subclasses := sub, abstract := ab, collection := col, hasDel := false } := by unfold clsIn; rw [hC] <;> rfl
  obtain ⟨e1, e2, e3, e4, e5, e6⟩ := henv
  obtain ⟨ar, hp, har⟩ := hpar
  refine ks_wpAt_Expr_any ?_ hint hsw
  refine ks_wpAt_MethodCall (pl := pl) ?_ hev
  obtain ⟨hh, g, d, t, os⟩ := s
  have IA : InstAt hh e (excO C t0) C none := ⟨he, rfl, rfl, trivial⟩
  refine ks_wpAt_super_base (of := ⟨oc, od, _, osl⟩) (fd := fnX "__init__" qual params body scope [("__class__", cc)] .none kV doc pm an (.ref cda) ct) (ar := ar) (cc := cda) (f := fI) hk1 hk2 (by decide) e3 (X _ _ lk) rfl hp e4 (X _ _ lc) rfl hvs hfile T.top ?_
  refine ks_loadName_global e5 hk1 (loadGlobal_builtin (env := env) (by rw [e1]; exact hG) hmS (by rw [e2]; exact hB) hmb ⟨rfl, ?_⟩)
  refine wpAny_loadName_free e5 hk2 e6 ⟨_, X _ _ lcell, rfl⟩ ?_
  rw [har]
  refine wpAny_loadName_local e5 hk3 hn hv ?_
  refine ks_wpAny_isType_cls (X _ _ hC) rfl ⟨rfl, ?_⟩
  refine ks_wpAny_call_super (X _ _ hC) rfl he rfl (fun c z => by cases z) (looks_mroIn X T.self) (fun h1 z1 k1 => ?_)
  have X1 : K.In h1 := X.keeps k1
  have I1 : InstAt h1 e (excO C t0) C none := ⟨k1 _ _ he, rfl, rfl, trivial⟩
  have hI : Looks (model prog w) h1 (isInstance (.ref e) (.type "ValueError")) true := I1.type.andThen (looks_subIn X1 T.veC)
  have hm1 : alongIn K "__init__" (((Value.ref C :: bm).dropWhile (· != .ref C)).drop 1) = some (some (.builtin "ValueError.__init__")) := by
    have z := T.sup
    unfold ks_superIn at z
    rw [hcl] at z
    exact z
  refine kxs_getMethod kxs_ValueError z1 (looks_opaque X1 T.stat) (l₀ := .ref C :: bm) ?_ rfl X1 hm1 hI (ks_ne X1 I1 hcl) (by decide) ?_
  · exact fun A Q E s k q => wpAny_bind ((looks_clsIn X1 hcl) A _ E s k (wpAny_pure q))
  have k2 : ∀ b o, hh.get? b = some o → (h1.push (kxs_mw "ValueError.__init__" e)).get? b = some o := fun b o z => Heap.get?_push_of_some _ (k1 b o z)
  have hu : (h1.push (kxs_mw "ValueError.__init__" e)).get? h1.objs.size = some (kxs_mw "ValueError.__init__" e) := Heap.get?_push_size _ rfl
  generalize h1.push (kxs_mw "ValueError.__init__" e) = h2 at k2 hu
  refine kxs_callWith (i := "ValueError.__init__") (x := e) rfl ?_
  refine evalArgs_plain (Calls.spliced_cons (Calls.Constant_str (k := 0) (pos := p.p3) ?_))
  refine Calls.spliced_nil ⟨hu, ?_⟩
  have he2 : h2.get? e = some (excO C t0) := k2 _ _ he
  have hC2 := k2 _ _ (X _ _ hC)
  refine wpAny_call (codeAny_of_tree ?_)
  show wpAny _ A.in1 (callAny (.ref h1.objs.size) ⟨_, []⟩) _ _ _
  simp only [callAny]
  refine wpAny_bind (wpAny_load hu ?_)
  simp only [kxs_mw, show (Value.type "method-wrapper" == Value.type "method" || Value.type "method-wrapper" == Value.type "builtin_function_or_method" || Value.type "method-wrapper" == Value.type "method-wrapper") = true by decide, if_true]
  refine KFB.if_so (by decide) ?_
  refine wpAny_bind (check_bound_init PySem.F.excBase_ValueError.toExcCallFacts hC2 he2 rfl ?_)
  refine wpAny_bind (wpAny_pure (wpAny_pure ?_))
  refine ⟨plainId_quiet PySem.F.excBase_ValueError.init.plain _, codeAny_builtin PySem.F.excBase_ValueError.initEntry ?_⟩
  refine exc_init_tree (cls := .ref C) (t0 := t0) (dv := none) (c2 := .none) (c3 := .none) (b4 := .bool false) he2 (by show 1 ≤ sizeLine; rw [sizeLine_eq]; omega) fun h' k e' t' => ?_
  exact hq h' _ _ (fun b o hb z => k b o hb (k2 b o z)) e'
/-- what __init__ leaves of a fresh exception at e; with a field f -/
structure XEnd (h h' : Heap) (e C dx t1 : Addr) (f : Str) (v : Value) : Prop where
  keep : ∀ b o, b ≠ e → h.get? b = some o → h'.get? b = some o
  obj : h'.get? e = some { cls := .ref C, dict := some dx, data := .fields #[.ref t1, .none, .none, .none, .bool false, .none] }
  dbig : h.objs.size ≤ dx
  dne : dx ≠ e
  ns : h'.Ns1 dx (fun y => if y = f then some v else none)
theorem nsC {L : Addr} {h h' : Heap} {e : Addr} {oe : Obj} {fv : Array Value} {m : Str → Option Value} (hn : h.Ns L m) (he : h.get? e = some oe) (hd : oe.data = .fields fv) (k : ∀ b o, b ≠ e → h.get? b = some o → h'.get? b = some o) : h'.Ns L m := by
  obtain ⟨o, es, ep, ho, hdd, r⟩ := hn
  refine ⟨o, es, ep, k _ _ (fun z => ?_) ho, hdd, r⟩
  rw [z, he] at ho
  cases ho
  rw [hd] at hdd
  cases hdd
abbrev xCall (m : Str) (p : XPos) : Expr := .Call (.Attribute (.Call (.Name "super" p.p0) [] [] p.p1) "__init__" p.p2) [.Constant (.str m) 0 p.p3] [] p.p4
abbrev xFd (qual f m : Str) (p : XPos) (cc cda : Addr) (kV doc pm ct : Value) (an : Option Addr) : FuncData := fnX "__init__" qual (xArgs f p) [xSup m p, xSto f p] (xScope f) [("__class__", cc)] .none kV doc pm an (.ref cda) ct
/-- what is to be reckoned of the text (rfl where all is written) -/
structure XForm (qual f m : Str) (p : XPos) : Prop where
  loc : (xScope f).names.lookup f = some .local
  cls : (xScope f).names.lookup ("__class__" : Str) = some .free
  sup : (xScope f).names.lookup ("super" : Str) = some .globalImplicit
  nself : (f == ("self" : Str)) = false
  ndb : (f == ("__debug__" : Str)) = false
  bd : ∀ (cc cda : Addr) (kV doc pm ct u1 u2 : Value) (an : Option Addr), bindArgs (xFd qual f m p cc cda kV doc pm ct an) ⟨[u1, u2], []⟩ = pure [(("self" : Str), u1), (f, u2)]
  ev : ∀ (cc cda fI L : Addr) (kV doc pm ct : Value) (an : Option Addr), ∃ pl : Sem Bool, eval (xCall m p) (callEnv (xFd qual f m p cc cda kV doc pm ct an) L fI) = (do
      let ov ← attributeBase (.Call (.Name "super" p.p0) [] [] p.p1) "__init__" (callEnv (xFd qual f m p cc cda kV doc pm ct an) L fI) (eval (.Call (.Name "super" p.p0) [] [] p.p1) (callEnv (xFd qual f m p cc cda kV doc pm ct an) L fI))
      standAt p.p2.atName
      let (g, first) ← holding [ov] (getMethod ov "__init__" pl)
      callWith p.p4 g first (backTo p.p4 (starEach [.Constant (.str m) 0 p.p3] (callEnv (xFd qual f m p cc cda kV doc pm ct an) L fI))) [])
  sw : ∀ (cc cda fI L : Addr) (kV doc pm ct : Value) (an : Option Addr), swapsWith (xCall m p) none p.p5.line (callEnv (xFd qual f m p cc cda kV doc pm ct an) L fI) = pure false
  sw2 : ∀ (cc cda fI L : Addr) (kV doc pm ct : Value) (an : Option Addr), swapsWith (.Name f p.q3) (some (.Attribute (.Name "self" p.q1) f p.q2)) p.q4.line (callEnv (xFd qual f m p cc cda kV doc pm ct an) L fI) = pure false
theorem x_init1 {f m : Str} {p : XPos} {R : Result → Shared → Prop} {s : Shared} {mb : Str → Option Value} {e t0 : Addr} {v : Value} (T : XCls prog K mg x C fI qual (xArgs f p) [xSup m p, xSto f p] (xScope f))
    (Z : XForm qual f m p) (noF : findIn K (.ref C) f = some none)
    (X : K.In s.heap) (hG : s.heap.Ns mainGlobals mg) (hB : s.heap.Ns builtinsNs mb) (hmb : mb "super" = some (.type "super")) (hlim : s.heap.NoLimit) (he : s.heap.get? e = some (excO C t0)) (hnx : K.lookup e = none) (hroom : A.depth < recursionLimit)
    (hq : ∀ h' tk dx t1, XEnd s.heap h' e C dx t1 f v → R (.ok (.ret .none)) { s with heap := h', toks := tk }) :
    codeAny (model prog w) A (.call (.ref fI) ⟨[.ref e, v], []⟩) R s := by
  obtain ⟨oc, doc, pm, kV, ct, od, an, osl, cda, cc, lk, hcd, ⟨ccl, cdd, vs, ccs, file, tf, lc, hvs, hfile⟩, cl, cld, csl, lcell⟩ := T.fn
  obtain ⟨nm, q, N, bs, bm, sn, sub, ab, col, dd, k0, k1, k2, k3, k5, hC, hbm⟩ := T.cls
  have hcl : clsIn K C = some { name := nm, bases := bs, mro := .ref C :: bm, ns := N, qualname := q, hasDict := true, slotNames := sn, subclasses := sub, abstract := ab, collection := col, hasDel := false } := by unfold clsIn; rw [hC] <;> rfl
  refine ks_codeAny_call_defAt (fd := xFd qual f m p cc cda kV doc pm ct an) (body := [xSup m p, xSto f p]) (binds := [(("self" : Str), .ref e), (f, v)]) hroom (X _ _ lk) rfl hlim (codeRec_of X hcd) rfl (BindsTo.of_eq (Z.bd _ _ _ _ _ _ _ _ _)) ?_ ?_ (fun h1 hns kk => ?_) rfl rfl rfl
  · intro y hy
    simp only [fnX, xScope, List.mem_cons, List.not_mem_nil, or_false] at hy
    rcases hy with rfl | rfl | rfl | rfl <;> simp
  · intro y hy
    simp only [List.mem_cons, List.not_mem_nil, or_false] at hy
    rcases hy with rfl | rfl
    · simp [fnX, xScope, List.lookup]
    · exact Z.loc
  have X1 : K.In h1 := X.keeps kk
  have he1 := kk _ _ he
  have gns : h1.Ns mainGlobals mg := hG.at fun o z => kk _ _ z
  have lself : ([(("self" : Str), Value.ref e), (f, v)].reverse).lookup ("self" : Str) = some (.ref e) := by
    have z : (("self" : Str) == f) = false := by
      have y := Z.nself
      rw [beq_eq_false_iff_ne] at y ⊢
      exact Ne.symm y
    simp [List.lookup, z]
  have lf : ([(("self" : Str), Value.ref e), (f, v)].reverse).lookup f = some v := by simp [List.lookup]
  have kl : ∀ L, (callEnv (xFd qual f m p cc cda kV doc pm ct an) L fI).kindOf f = some .local := fun L => Z.loc
  have ks : ∀ L, (callEnv (xFd qual f m p cc cda kV doc pm ct an) L fI).kindOf "self" = some .local := fun L => by
    show (xScope f).names.lookup ("self" : Str) = some .local
    simp [xScope, List.lookup]
  have kc : ∀ L, (callEnv (xFd qual f m p cc cda kV doc pm ct an) L fI).kindOf "__class__" = some .free := fun L => by
    exact Z.cls
  have kp : ∀ L, (callEnv (xFd qual f m p cc cda kV doc pm ct an) L fI).kindOf "super" = some .globalImplicit := fun L => by
    exact Z.sup
  obtain ⟨pl, hev⟩ := Z.ev cc cda fI s.heap.objs.size kV doc pm ct an
  refine ks_wpAt_execs_cons ?_
  refine x_super (pl := pl) (e := e) (t0 := t0) (cc := cc) (cda := cda) (mb := mb) T X1 gns (hB.at fun o z => kk _ _ z) hmb (mg_none_of X1 gns T.gS) ⟨rfl, rfl, rfl, rfl, rfl, by simp [callEnv, newEnv, fnX, List.lookup]⟩ (kp _) (kc _) (ks _) rfl hns lself he1 lk ⟨_, rfl, rfl⟩ lc hvs hfile lcell (fun h2 tk t1 k2 he2 => ?_) (Z.sw _ _ _ _ _ _ _ _ _) hev
  -- self.f = f
  show _root_.PySem.wpAt _ _ _ _ _ _ _
  refine ks_wpAt_execs_cons (wpAt_of_wpAny ?_)
  have X2 : K.In h2 := by
    intro b o z
    exact k2 b o (fun y => by rw [y, hnx] at z; cases z) (X1 _ _ z)
  have hn2 := nsC hns he1 rfl k2
  refine plainObj_wpAny_Assign_Attribute ?_ (Z.sw2 _ _ _ _ _ _ _ _ _)
  refine wpAny_Name (wpAny_loadName_local rfl (kl _) hn2 lf ?_) Z.ndb
  refine wpAny_Name (wpAny_loadName_local rfl (ks _) hn2 lself ?_) (by decide)
  refine set_plain X2 (ox := excO C t1) (od := none) ⟨he2, rfl, rfl, trivial⟩ T.sa ?_
  refine exc_osa X2 he2 hcl (show refsVE (.ref C :: bm) = true from hbm) rfl noF (fun h3 tk3 dx k3 dn dne hx3 hn3 => ?_)
  refine wpAt_of_wpAny (wpAny_execs_nil (hq h3 tk3 dx t1 ⟨fun b o hb z => k3 b o hb (k2 b o hb (kk b o z)), hx3, Nat.le_trans (Nat.le_of_lt hn2.lt) dn, dne, hn3⟩))
abbrev xFd0 (qual m : Str) (p : XPos) (cc cda : Addr) (kV doc pm ct : Value) (an : Option Addr) : FuncData := fnX "__init__" qual (xArgs0 p) [xSup m p] xScope0 [("__class__", cc)] .none kV doc pm an (.ref cda) ct
structure XForm0 (qual m : Str) (p : XPos) : Prop where
  bd : ∀ (cc cda : Addr) (kV doc pm ct u1 : Value) (an : Option Addr), bindArgs (xFd0 qual m p cc cda kV doc pm ct an) ⟨[u1], []⟩ = pure [(("self" : Str), u1)]
  ev : ∀ (cc cda fI L : Addr) (kV doc pm ct : Value) (an : Option Addr), ∃ pl : Sem Bool, eval (xCall m p) (callEnv (xFd0 qual m p cc cda kV doc pm ct an) L fI) = (do
      let ov ← attributeBase (.Call (.Name "super" p.p0) [] [] p.p1) "__init__" (callEnv (xFd0 qual m p cc cda kV doc pm ct an) L fI) (eval (.Call (.Name "super" p.p0) [] [] p.p1) (callEnv (xFd0 qual m p cc cda kV doc pm ct an) L fI))
      standAt p.p2.atName
      let (g, first) ← holding [ov] (getMethod ov "__init__" pl)
      callWith p.p4 g first (backTo p.p4 (starEach [.Constant (.str m) 0 p.p3] (callEnv (xFd0 qual m p cc cda kV doc pm ct an) L fI))) [])
  sw : ∀ (cc cda fI L : Addr) (kV doc pm ct : Value) (an : Option Addr), swapsWith (xCall m p) none p.p5.line (callEnv (xFd0 qual m p cc cda kV doc pm ct an) L fI) = pure false
theorem x_init0 {m : Str} {p : XPos} {R : Result → Shared → Prop} {s : Shared} {mb : Str → Option Value} {e t0 : Addr} (T : XCls prog K mg x C fI qual (xArgs0 p) [xSup m p] xScope0)
    (Z : XForm0 qual m p)
    (X : K.In s.heap) (hG : s.heap.Ns mainGlobals mg) (hB : s.heap.Ns builtinsNs mb) (hmb : mb "super" = some (.type "super")) (hlim : s.heap.NoLimit) (he : s.heap.get? e = some (excO C t0)) (hroom : A.depth < recursionLimit)
    (hq : ∀ h' tk t1, (∀ b o, b ≠ e → s.heap.get? b = some o → h'.get? b = some o) → h'.get? e = some (excO C t1) → R (.ok (.ret .none)) { s with heap := h', toks := tk }) :
    codeAny (model prog w) A (.call (.ref fI) ⟨[.ref e], []⟩) R s := by
  obtain ⟨oc, doc, pm, kV, ct, od, an, osl, cda, cc, lk, hcd, ⟨ccl, cdd, vs, ccs, file, tf, lc, hvs, hfile⟩, cl, cld, csl, lcell⟩ := T.fn
  obtain ⟨nm, q, N, bs, bm, sn, sub, ab, col, dd, k0, k1, k2, k3, k5, hC, hbm⟩ := T.cls
  refine ks_codeAny_call_defAt (fd := xFd0 qual m p cc cda kV doc pm ct an) (body := [xSup m p]) (binds := [(("self" : Str), .ref e)]) hroom (X _ _ lk) rfl hlim (codeRec_of X hcd) rfl (BindsTo.of_eq (Z.bd _ _ _ _ _ _ _ _)) ?_ ?_ (fun h1 hns kk => ?_) rfl rfl rfl
  · intro y hy
    simp only [fnX, xScope0, List.mem_cons, List.not_mem_nil, or_false] at hy
    rcases hy with rfl | rfl | rfl <;> simp
  · intro y hy
    simp only [List.mem_cons, List.not_mem_nil, or_false] at hy
    subst hy
    simp [fnX, xScope0, List.lookup]
  have X1 : K.In h1 := X.keeps kk
  have he1 := kk _ _ he
  have gns : h1.Ns mainGlobals mg := hG.at fun o z => kk _ _ z
  have lself : ([(("self" : Str), Value.ref e)].reverse).lookup ("self" : Str) = some (.ref e) := by simp [List.lookup]
  have ks : xScope0.names.lookup ("self" : Str) = some .local := by decide +kernel
  have kc : xScope0.names.lookup ("__class__" : Str) = some .free := by decide +kernel
  have kp : xScope0.names.lookup ("super" : Str) = some .globalImplicit := by decide +kernel
  obtain ⟨pl, hev⟩ := Z.ev cc cda fI s.heap.objs.size kV doc pm ct an
  refine ks_wpAt_execs_cons ?_
  refine x_super (pl := pl) (e := e) (t0 := t0) (cc := cc) (cda := cda) (mb := mb) T X1 gns (hB.at fun o z => kk _ _ z) hmb (mg_none_of X1 gns T.gS) ⟨rfl, rfl, rfl, rfl, rfl, by simp [callEnv, newEnv, fnX, List.lookup]⟩ kp kc ks rfl hns lself he1 lk ⟨_, rfl, rfl⟩ lc hvs hfile lcell (fun h2 tk t1 k2 he2 => ?_) (Z.sw _ _ _ _ _ _ _ _ _) hev
  exact wpAt_of_wpAny (wpAny_execs_nil (hq h2 tk t1 (fun b o hb z => k2 b o hb (kk b o z)) he2))
end
end K64
namespace K64
open PySem PySem.Spec PySem.W PySem.Calls PyProof.Rows PySem.HandSPX L2
section
variable {X : Cx} {C fI : Addr} {x qual f m : Str} {P : XPos} {k : Nat} {e : Expr} {ta : TA} {p pos : Pos}
theorem super_blt {mb : Str → Option Value} (h : ∀ x : Str, x ≠ "__name__" → mb x = bootBuiltins x) : mb "super" = some (.type "super") := (h _ (by decide +kernel)).trans (by decide +kernel)
theorem relO_one {v : V} {v' : Value} (r : RelV v v') (f g : Str) : RelO (List.lookup g [(f, v)]) (if g = f then some v' else none) := by
  by_cases hw : g = f
  · subst hw
    rw [if_pos rfl]
    have q : List.lookup g [(g, v)] = some v := by simp [List.lookup]
    rw [q]
    exact r
  · rw [if_neg hw]
    have qw : (g == f) = false := by simpa using hw
    have q2 : List.lookup g [(f, v)] = none := by simp [List.lookup, qw]
    rw [q2]
    trivial
/-- C(e): the error's own dict is new, it holds the field -/
def tMkX1 (C : Addr) (f : Str) (ta : TA) : L2.St → Hp → XK → Prop := fun σ H Q => ta σ H fun vs H1 => ∃ v, vs = [v] ∧ ∀ d, H1 d = none → Q (.ref C) (some d) (upd H1 d (.xd [(f, v)]))
theorem pmk_x1 (T : XCls X.prog X.K X.mg x C fI qual (xArgs f P) [xSup m P, xSto f P] (xScope f)) (Z : XForm qual f m P) (noF : findIn X.K (.ref C) f = some none) (hr : Room k X.A) (ha : PA X [e] ta) (hg : Gl X x := by rfl)
    (hdb : (x == ("__debug__" : Str)) = false := by decide)
    (he : starEach (e :: []) X.env = (false, eval e X.env) :: starEach [] X.env := by rfl) (hpl : (backTo pos (starEach [] X.env)).any (·.1) = false := by rfl) :
    PMk X (.Call (.Name x p) [e] [] pos) (tMkX1 C f ta) := by
  intro pins s σ H Q I h
  refine wpAny_Call_Name_kw (ld_glob I hg T.gC ?_ hdb)
  refine PySem.W.callWith_K (h₀ := X.base) I.ok.mod.kin T.kC (thn (ha.run pos pins s σ H _ I h) fun us s1 hh => ?_) he hpl
  obtain ⟨vs, H1, I1, r1, v, ev, q1⟩ := hh
  subst ev
  refine ⟨I1.kIn, ?_⟩
  cases r1 with
  | cons rv rn =>
    rename_i v' us'
    cases rn
    show wpAny _ _ (call (.ref C) [v']) _ _ _
    have hlim := I1.nolimit
    obtain ⟨mb, hb1, hb2⟩ := I1.mod.blt
    have hbs : s1.heap.Ns builtinsNs mb := hb1.keeps I1.bk
    have hgs : s1.heap.Ns mainGlobals X.mg := I1.mod.glob.keeps I1.bk
    have KX := I1.kIn
    obtain ⟨hp, g, dr, tk, os⟩ := s1
    obtain ⟨nm, q, N, bs, bm, sn, sub, ab, col, dd, k0, k1, k2, k3, k5, hC, hbm⟩ := T.cls
    have kk : ∀ b o, hp.get? b = some o → ((hp.push (kdv_tup [v'])).push (excO C hp.objs.size)).get? b = some o := fun b o e => Heap.get?_push_of_some _ (Heap.get?_push_of_some _ e)
    have hget : ((hp.push (kdv_tup [v'])).push (excO C hp.objs.size)).get? (hp.objs.size + 1) = some (excO C hp.objs.size) := by heap_get
    have hnx : X.K.lookup (hp.objs.size + 1) = none := by
      cases e : X.K.lookup (hp.objs.size + 1) with
      | none => rfl
      | some o =>
        have z : hp.get? (hp.objs.size + 1) = some o := KX _ _ e
        exact absurd (Nat.lt_of_succ_lt (Heap.lt_size z)) (Nat.lt_irrefl _)
    refine wpAny_call (call_own PySem.F.excBase_ValueError (fun Y => refsVE_contains Y bm hbm) (KX _ _ hC) (looks_findIn KX T.iC) (fun self => bind_fn KX self T.tI) (by show 1 ≤ sizeLine; rw [sizeLine_eq]; omega) ?_)
    refine x_init1 (s := ⟨(hp.push (kdv_tup [v'])).push (excO C hp.objs.size), g, dr, tk, os⟩) (mb := mb) T Z noF (KX.keeps kk) (hgs.keeps kk) (hbs.keeps kk) (super_blt hb2) (hlim.keeps kk) hget hnx ?_ fun h' tk' dx t1 M => ?_
    · rw [make_depth]
      have := hr.dp
      omega
    · have old0 : ∀ b o, hp.get? b = some o → h'.get? b = some o := fun b o e => M.keep b o (Nat.ne_of_lt (Nat.lt_succ_of_lt (Heap.lt_size e))) (kk b o e)
      have dbig : hp.objs.size ≤ dx := by
        have z := M.dbig
        simp only [Heap.size_push] at z
        omega
      refine ⟨rfl, ?_⟩
      show MkP X pins σ Q (.ref (hp.objs.size + 1)) ⟨h', g, dr, tk', os⟩
      have new : hp.objs.size ≤ hp.objs.size + 1 := Nat.le_succ _
      obtain ⟨G', g1, g2⟩ := restrict h' fun b => decide (b ≠ hp.objs.size + 1)
      have gk : ∀ b, b ≠ hp.objs.size + 1 → G'.get? b = h'.get? b := fun b hb => g1 b (decide_eq_true hb)
      have ge : G'.get? (hp.objs.size + 1) = none := g2 _ (by simp)
      have old : ∀ b o, hp.get? b = some o → G'.get? b = some o := fun b o q => (gk b (Nat.ne_of_lt (Nat.lt_of_lt_of_le (Heap.lt_size q) new))).trans (old0 b o q)
      have ob : ObjOk X.prog X.w (upd H1 dx (.xd [(f, v)])) G' dx (.xd [(f, v)]) := ⟨_, M.ns.at (fun o q => (gk dx M.dne).trans q), fun g => relO_one rv f g⟩
      have J : Inv X pins σ (upd H1 dx (.xd [(f, v)])) ⟨G', g, dr, tk', os⟩ := I1.laid (t' := tk') old dbig ob
      refine ⟨hp.objs.size + 1, _, _, ⟨G', g, dr, tk', os⟩, _, .ref C, some dx, rfl, J, fun b o q => ?_, ge, M.obj, ⟨rfl, rfl⟩, rfl, rfl, ?_, rfl, I1.bare, raises_own T.exC T.tyC, q1 dx (I1.hok.fresh dbig)⟩
      · by_cases hb : b = hp.objs.size + 1
        · have q' : G'.get? b = some o := q
          rw [hb, ge] at q'
          cases q'
        · exact (gk b hb).symm.trans q
      · rw [upd_ne (Ne.symm M.dne)]
        exact I1.hok.fresh new
/-- C(): no dict of its own -/
theorem pmk_x0 (T : XCls X.prog X.K X.mg x C fI qual (xArgs0 P) [xSup m P] xScope0) (Z : XForm0 qual m P) (hr : Room k X.A) (hg : Gl X x := by rfl)
    (hdb : (x == ("__debug__" : Str)) = false := by decide) : PMk X (.Call (.Name x p) [] [] pos) (fun _ H Q => Q (.ref C) none H) := by
  intro pins s σ H Q I q1
  refine wpAny_Call_Name_kw (ld_glob I hg T.gC ?_ hdb)
  refine PySem.W.callWith_K0 (first := []) I.kIn T.kC ?_
  show wpAny _ _ (call (.ref C) []) _ _ _
  have hlim := I.nolimit
  obtain ⟨mb, hb1, hb2⟩ := I.mod.blt
  have hbs : s.heap.Ns builtinsNs mb := hb1.keeps I.bk
  have hgs : s.heap.Ns mainGlobals X.mg := I.mod.glob.keeps I.bk
  have KX := I.kIn
  obtain ⟨hp, g, dr, tk, os⟩ := s
  obtain ⟨nm, q, N, bs, bm, sn, sub, ab, col, dd, k0, k1, k2, k3, k5, hC, hbm⟩ := T.cls
  have kk : ∀ b o, hp.get? b = some o → ((hp.push (kdv_tup [])).push (excO C hp.objs.size)).get? b = some o := fun b o e => Heap.get?_push_of_some _ (Heap.get?_push_of_some _ e)
  have hget : ((hp.push (kdv_tup [])).push (excO C hp.objs.size)).get? (hp.objs.size + 1) = some (excO C hp.objs.size) := by heap_get
  refine wpAny_call (call_own PySem.F.excBase_ValueError (fun Y => refsVE_contains Y bm hbm) (KX _ _ hC) (looks_findIn KX T.iC) (fun self => bind_fn KX self T.tI) (Nat.zero_le _) ?_)
  refine x_init0 (s := ⟨(hp.push (kdv_tup [])).push (excO C hp.objs.size), g, dr, tk, os⟩) (mb := mb) T Z (KX.keeps kk) (hgs.keeps kk) (hbs.keeps kk) (super_blt hb2) (hlim.keeps kk) hget ?_ fun h' tk' t1 kp he => ?_
  · rw [make_depth]
    have := hr.dp
    omega
  · have old0 : ∀ b o, hp.get? b = some o → h'.get? b = some o := fun b o e => kp b o (Nat.ne_of_lt (Nat.lt_succ_of_lt (Heap.lt_size e))) (kk b o e)
    refine ⟨rfl, ?_⟩
    show MkP X pins σ Q (.ref (hp.objs.size + 1)) ⟨h', g, dr, tk', os⟩
    have new : hp.objs.size ≤ hp.objs.size + 1 := Nat.le_succ _
    have none_ : hp.get? (hp.objs.size + 1) = none := Heap.get?_none_of_le new
    exact ⟨hp.objs.size + 1, _, _, ⟨hp, g, dr, tk, os⟩, H, .ref C, none, rfl, I, old0, none_, he, ⟨rfl, rfl⟩, rfl, rfl, I.hok.fresh new, rfl, I.bare, raises_own T.exC T.tyC, q1⟩
end
end K64
/-! ## KTry -/
set_option Elab.async false
set_option linter.all false
set_option maxRecDepth 100000
set_option maxHeartbeats 2000000
namespace K64
open PySem PySem.Spec PyProof.Rows L2
/-! ### several except clauses, with a name or without -/
abbrev Clause := Value × Option Nat × (Addr → Value → Option Addr → TS)
def gone (D : Ends) (i : Nat) : Ends := { nx := fun σ' H' => D.nx (σ'.set i none) H', rt := D.rt, bk := fun σ' H' => D.bk (σ'.set i none) H', ct := fun σ' H' => D.ct (σ'.set i none) H' }
def inClause (o : Option Nat) (ts : TS) (a : Addr) : TS := fun D σ H => match o with
  | none => ts D σ H
  | some i => ts (gone D i) (σ.set i (some (.ref a))) H
def wClauses (K : PySem.W.Frag) (Wout : WX) (D : Ends) : List Clause → WX
  | [] => Wout
  | (c, o, ts) :: r => fun cls d σ H => ∃ b, PySem.W.exmOne K cls c = some b ∧ (b = true → ∀ a, H a = none → inClause o (ts a cls d) a D σ H) ∧ (b = false → wClauses K Wout D r cls d σ H)
inductive Clauses (X : Cx) : List ExceptHandler → List Clause → Prop
  | nil : Clauses X [] []
  | plain {x : Str} {c : Value} {ts : Addr → Value → Option Addr → TS} {b₀ : Stmt} {suite : List Stmt} {np pos' : Pos} {hds : List ExceptHandler} {l : List Clause} (hc : Names X x c)
      (hsu : ∀ (a : Addr) (oe : Obj) (cls : Value) (d : Option Addr) (pn : List (Addr × Obj)), Zc cls d oe → (∃ vs, oe.data = .fields vs) → PSs (X.suite a ((a, oe) :: pn)) (b₀ :: suite) (ts a cls d)) (r : Clauses X hds l) :
      Clauses X (.ExceptHandler (some (.Name x np)) none (b₀ :: suite) pos' :: hds) ((c, none, ts) :: l)
  | named {x n : Str} {i : Nat} {c : Value} {ts : Addr → Value → Option Addr → TS} {b₀ : Stmt} {suite : List Stmt} {np pos' : Pos} {hds : List ExceptHandler} {l : List Clause} (hc : Names X x c) (hi : X.N[i]? = some n) (hln : X.env.kindOf n = some .local)
      (hsu : ∀ (a : Addr) (oe : Obj) (cls : Value) (d : Option Addr) (pn : List (Addr × Obj)), Zc cls d oe → (∃ vs, oe.data = .fields vs) → PSs (X.suite a ((a, oe) :: pn)) (b₀ :: suite) (ts a cls d)) (r : Clauses X hds l) :
      Clauses X (.ExceptHandler (some (.Name x np)) (some n) (b₀ :: suite) pos' :: hds) ((c, some i, ts) :: l)
section
variable {X : Cx} {body : List Stmt} {h₀ : ExceptHandler} {hds : List ExceptHandler} {l : List Clause} {pos : Pos} {tb : WX → TS} {Wout : WX}
def tTry (K : PySem.W.Frag) (tb : WX → TS) (l : List Clause) (Wout : WX) : TS := fun D σ H => tb (wClauses K Wout D l) D σ H
theorem ps_clauses (hs : X.stack = X.env :: X.outer) (hf : X.env.frame = some X.env.locals) (hN : X.N.Nodup) (tk : Takes X Wout)
    (hb : ∀ (W : WX) (pn : List (Addr × Obj)) (xe : Value → Shared → Prop), Takes (X.tr pn xe) W → PassesOwn (model X.prog X.w) X.A X.env xe → PSs (X.tr pn xe) body (tb W))
    (hh : Clauses X (h₀ :: hds) l) : PS X (.Try body (h₀ :: hds) [] [] pos) (tTry X.K tb l Wout) := by
  refine ⟨fun pins s σ H D I h => ?_⟩
  have ok := I.ok
  have hfr : X.A.frames = some (X.env :: X.outer) := by rw [ok.frames, hs]
  refine wpAny_Try_except ?_
  refine wpAny_mono ((hb (wClauses X.K Wout D l) (X.pn ++ pins) (fun e s₁ => wpAny (model X.prog X.w) X.A (noteFrame e X.env) (fun _ s₂ => wpAny (model X.prog X.w) X.A (setFlight e none) (fun _ s₃ =>
    wpAny (model X.prog X.w) X.A (handleBy e X.env (h₀ :: hds)) (SP X pins D) X.xe s₃) X.xe s₂) X.xe s₁) (fun u s' xx => ?_) PassesOwn.looking).run [] s σ H D (I.toTry _) h) (fun f s1 hsp => ?_) (fun e s1 he => he)
  · -- the catch
    obtain ⟨a, B, sI, pins', σ', H', cls, d, rfl, J', nb, up, sky, na, os, ag, w⟩ := xx
    have J : Inv X pins σ' H' sI := J'.ofTry ok
    have sky' : Sky B (X.env :: X.outer) a (Zc cls d) X.env.locals s'.heap := by rw [← hs]; exact sky
    show wpAny (model X.prog X.w) X.A (noteFrame (.ref a) X.env) _ _ _
    refine Sky.land Zc.steady hfr hf sky' fun h3 fl3 up3 => ?_
    have J3 : Inv X pins σ' H' { s' with heap := h3 } := J.landed nb fl3.1 (up.trans up3) os ag
    obtain ⟨oe3, vs3, he3, hz3, hd3⟩ := fl3.there
    have notFr : ∀ {h : Heap} {o : Obj} {vs : Array Value}, h.FunFrames B (X.env :: X.outer) → h.get? a = some o → o.data = .fields vs → a ∉ frs (X.env :: X.outer) := fun {h o vs} ff e dd hm => by
      obtain ⟨_, o', e', hnf⟩ := ff.mem hm
      rw [e] at e'; cases e'
      exact hnf _ dd
    have nfr := notFr fl3.2.2.1 he3 hd3
    have nL : a ≠ X.env.locals := fun z => nfr (List.mem_filterMap.mpr ⟨X.env, List.mem_cons_self, by rw [hf, z]⟩)
    have nF : a ∉ X.fs := fun hm => by
      obtain ⟨e, he, q⟩ := List.mem_filterMap.mp hm
      exact nfr (List.mem_filterMap.mpr ⟨e, List.mem_cons_of_mem _ he, q⟩)
    have S3 := J3.suite he3 hd3 na nL nF
    have LT : PySem.W.Looks (model X.prog X.w) h3 (typeOf (.ref a)) cls := fun A Q E s k q => wpAny_typeOf_ref (k _ _ he3) (by rw [hz3.1]; exact q)
    have test : ∀ {x : Str} {c : Value} {np : Pos} {Q : Value → Shared → Prop} {E : Value → Shared → Prop}, Names X x c → Q c { s' with heap := h3 } → wpAny (model X.prog X.w) (X.A.mark (some (.ref a))) (eval (.Name x np) X.env) Q E { s' with heap := h3 } := fun {x c np Q E} hc q => by
      obtain ⟨hg, hdbg, hm | ⟨hm, hv, hnn⟩⟩ := hc
      · exact ld_glob (X := X.suite a ((a, oe3) :: (X.pn ++ pins))) S3 hg hm q hdbg
      · exact ld_blt (X := X.suite a ((a, oe3) :: (X.pn ++ pins))) S3 hg hm hv q hnn hdbg
    have go : ∀ {hds' : List ExceptHandler} {l' : List Clause}, Clauses X hds' l' → wClauses X.K Wout D l' cls d σ' H' →
        wpAny (model X.prog X.w) X.A (handleBy (.ref a) X.env hds') (SP X pins D) X.xe { s' with heap := h3 } := by
      intro hds' l' hk
      induction hk with
      | nil =>
        intro w
        refine wpAny_handleBy_nil ?_
        obtain ⟨k1, k2, k3, oe, vs, T, oT, ts', he, hz, hd, h1, hr⟩ := id fl3
        unfold PySem.passOn
        refine wpAny_bind (wpAny_field he hd h1 ?_)
        rw [if_neg (show ¬ ((Value.ref T == Value.none) = true) from by simp)]
        have fin : wpAny (model X.prog X.w) X.A (setFlight (.ref a) X.env.frame) (fun _ s4 => wpAny (model X.prog X.w) X.A (throw (.ref a) : Sem Flow) (SP X pins D) X.xe s4) X.xe { s' with heap := h3 } := by
          rw [hf]
          refine HandSPX.setFlight_upZ fl3 fun h4 hh4 up4 => wpAny_throw (tk _ _ ?_)
          exact ⟨a, B, sI, pins, σ', H', cls, d, rfl, J, nb, (up.trans up3).trans up4, .inr (.inr (by rw [hs]; exact hh4)), na, os, ag, w⟩
        first
          | exact wpAny_bind (wpAny_pure (wpAny_bind fin))
          | exact wpAny_bind fin
      | @plain x c ts b₀ suite np pos' hds2 l2 hc hsu r ih =>
        intro w
        obtain ⟨b, hb1, hyes, hno⟩ := w
        have LM := PySem.W.exm_one (M := model X.prog X.w) (J3.kIn) LT hb1
        refine wpAny_handleBy_cons (codeAny_handlers_test ?_) (by intro q; cases q)
        refine test hc (LM.here ?_)
        cases b with
        | true =>
          refine codeAny_handlers_suite ?_
          refine HandSPX.lands_againZ fl3 fun h4 fl4 up4 => ?_
          have J4 : Inv X pins σ' H' { s' with heap := h4 } := J.landed nb fl4.1 ((up.trans up3).trans up4) os ag
          obtain ⟨oe4, vs4, he4, hz4, hd4⟩ := fl4.there
          have S4 := J4.suite he4 hd4 na nL nF
          refine wpAny_mono ((hsu a oe4 cls d (X.pn ++ pins) hz4 ⟨_, hd4⟩).run [] _ _ H' _ S4 (hyes rfl a na)) (fun f s6 hsp => ?_) (fun _ _ z => False.elim z)
          cases f with
          | next =>
            obtain ⟨σ6, H6, S6, q6⟩ := hsp
            exact ⟨_, _, S6.unsuite ok, q6⟩
          | brk =>
            obtain ⟨σ6, H6, S6, q6⟩ := hsp
            exact ⟨_, _, S6.unsuite ok, q6⟩
          | cont =>
            obtain ⟨σ6, H6, S6, q6⟩ := hsp
            exact ⟨_, _, S6.unsuite ok, q6⟩
          | ret u =>
            obtain ⟨v6, σ6, H6, S6, r6, q6⟩ := hsp
            exact ⟨_, _, _, S6.unsuite ok, r6, q6⟩
        | false =>
          show wpAny _ X.A (handleBy (.ref a) X.env hds2) _ _ _
          exact ih (hno rfl)
      | @named x n i c ts b₀ suite np pos' hds2 l2 hc hi hln hsu r ih =>
        intro w
        obtain ⟨b, hb1, hyes, hno⟩ := w
        have hloc : Loc X.env.scope n := .inl hln
        have LM := PySem.W.exm_one (M := model X.prog X.w) (J3.kIn) LT hb1
        refine wpAny_handleBy_cons (codeAny_handlers_test ?_) (by intro q; cases q)
        refine test hc (LM.here ?_)
        cases b with
        | true =>
          refine codeAny_handlers_suite_as ?_
          refine HandSPX.lands_againZ fl3 fun h4 fl4 up4 => ?_
          have J4 : Inv X pins σ' H' { s' with heap := h4 } := J.landed nb fl4.1 ((up.trans up3).trans up4) os ag
          obtain ⟨oe4, vs4, he4, hz4, hd4⟩ := fl4.there
          have S4 := J4.suite he4 hd4 na nL nF
          refine store_ok (X := X.suite a ((a, oe4) :: (X.pn ++ pins))) (v := .ref a) S4 hN hi hloc rfl (fun s5 S5 => ?_) (.inr hln)
          refine wpAny_mono ((hsu a oe4 cls d (X.pn ++ pins) hz4 ⟨_, hd4⟩).run [] s5 _ H' _ S5 (hyes rfl a na)) (fun f s6 hsp => ?_) (fun _ _ z => False.elim z)
          have end_ : ∀ {σ6 : L2.St} {H6 : Hp} {Q : Shared → Prop}, Inv (X.suite a ((a, oe4) :: (X.pn ++ pins))) [] σ6 H6 s6 → (∀ s7, Inv X pins (σ6.set i none) H6 s7 → Q s7) →
              wpAny (model X.prog X.w) X.A (do bindName X.env n .none; unbindBehindTheSuite X.env n pos') (fun _ s7 => Q s7) X.xe s6 := fun {σ6 H6 Q} S6 hq => gone_ok (S6.unsuite ok) hN hi hln hq
          cases f with
          | next =>
            obtain ⟨σ6, H6, S6, q6⟩ := hsp
            exact end_ S6 fun s7 J7 => ⟨_, _, J7, q6⟩
          | brk =>
            obtain ⟨σ6, H6, S6, q6⟩ := hsp
            exact end_ S6 fun s7 J7 => ⟨_, _, J7, q6⟩
          | cont =>
            obtain ⟨σ6, H6, S6, q6⟩ := hsp
            exact end_ S6 fun s7 J7 => ⟨_, _, J7, q6⟩
          | ret u =>
            obtain ⟨v6, σ6, H6, S6, r6, q6⟩ := hsp
            exact end_ S6 fun s7 J7 => ⟨_, _, _, J7, r6, q6⟩
        | false =>
          show wpAny _ X.A (handleBy (.ref a) X.env hds2) _ _ _
          exact ih (hno rfl)
    exact go hh w
  · cases f with
    | next =>
      obtain ⟨σ', H', J', q⟩ := hsp
      exact wpAny_execs_nil ⟨σ', H', J'.ofTry ok, q⟩
    | brk =>
      obtain ⟨σ', H', J', q⟩ := hsp
      exact ⟨σ', H', J'.ofTry ok, q⟩
    | cont =>
      obtain ⟨σ', H', J', q⟩ := hsp
      exact ⟨σ', H', J'.ofTry ok, q⟩
    | ret u =>
      obtain ⟨v, σ', H', J', r, q⟩ := hsp
      exact ⟨v, σ', H', J'.ofTry ok, r, q⟩
end
end K64
/-! ## KRules2 -/
set_option Elab.async false
set_option linter.all false
set_option maxRecDepth 100000
set_option maxHeartbeats 2000000
namespace K64
open PySem PySem.Spec PyProof.Rows L2
section
variable {X : Cx} {pos : Pos}
/-- o.f as a target among others -/
def gFld (K : PySem.W.Frag) (ta : TE) (f : Str) : TG := fun v σ H Q => ta σ H fun x H2 => ∃ a C dx fs, x = .ref a ∧ H2 a = some (.ins C dx fs) ∧ Cls K C ∧ NoAttr K C f ∧ fs.length < 1000 ∧ Q σ (upd H2 a (.ins C dx (putF f v fs)))
theorem pg_fld {o : Expr} {f : Str} {ta : TE} (ha : PE X o ta) : PG X (.Attribute o f pos) (gFld X.K ta f) := by
  refine ⟨fun pins s σ H v u Q I r h => ?_⟩
  rw [PySem.assign_Attribute]
  refine wpAny_bind (wpAny_holding (thn (ha.run pins s σ H _ I h) fun ov s1 ⟨x, H1, I1, r1, a, C, dx, fs, ex, ea, c, n, l, q⟩ => ?_))
  subst ex
  obtain rfl : ov = Value.ref a := r1
  refine wpAny_bind (wpAny_standAt (wpAny_bind (wpAny_holding ?_)))
  exact setattr_ok I1 ea c n l r fun s2 I2 => wpAny_release ⟨σ, _, I2, q⟩
end
/-- try: body / finally: suite. tb W: the body's reading, W what is wished of its errors; tf: the suite behind a body that ran through; tfs: the suite with the error in flight, which goes on to Wout -/
def tFin (tb : WX → TS) (tf tfs : TS) (Wout : WX) : TS := fun D σ H => tb (wFin tfs Wout) { nx := fun σ1 H1 => tf D σ1 H1, rt := fun _ _ => False } σ H
section
variable {X : Cx} {body : List Stmt} {f₀ : Stmt} {fs : List Stmt} {pos : Pos} {tb : WX → TS} {tf tfs : TS} {Wout : WX}
theorem ps_fin (hs : X.stack = X.env :: X.outer) (hf : X.env.frame = some X.env.locals) (hex : X.ex = []) (tk : Takes X Wout)
    (hb : ∀ (W : WX) (pn : List (Addr × Obj)) (xe : Value → Shared → Prop), Takes (X.tr pn xe) W → PassesOwn (model X.prog X.w) X.A X.env xe → PSs (X.tr pn xe) body (tb W))
    (hfin : PSs X.nox (f₀ :: fs) tf) (hsu : ∀ (a : Addr) (pn : List (Addr × Obj)), PSs (X.suite a pn) (f₀ :: fs) tfs) : PS X (.Try body [] [] (f₀ :: fs) pos) (tFin tb tf tfs Wout) := by
  refine ⟨fun pins s σ H D I h => ?_⟩
  have ok := I.ok
  refine wpAny_Try_finally ?_
  refine wpAny_mono ((hb (wFin tfs Wout) (X.pn ++ pins) (fun x s₁ => wpAny (model X.prog X.w) X.A (noteFrame x X.env) (fun _ s₂ => FinallyRaised X.prog X.w X.A X.xe X.env (f₀ :: fs) (SP X pins D) x s₂) (FinallyRaised X.prog X.w X.A X.xe X.env (f₀ :: fs) (SP X pins D)) s₁)
    (fun u s' xx => ?_) PassesOwn.looking).run [] s σ H { nx := fun σ1 H1 => tf D σ1 H1, rt := fun _ _ => False } (I.toTry _) h) (fun g s1 z => ?_) (fun x s1 hx => hx)
  · exact fin_exc hs hf hex ok tk hsu xx
  · cases g with
    | ret u =>
      obtain ⟨_, _, _, _, _, q⟩ := z
      exact False.elim q
    | brk =>
      obtain ⟨_, _, _, q⟩ := z
      exact False.elim q
    | cont =>
      obtain ⟨_, _, _, q⟩ := z
      exact False.elim q
    | next =>
      obtain ⟨σ1, H1, J1, q1⟩ := z
      refine wpAny_execs_nil ?_
      refine wpAny_mono (hfin.run pins s1 σ1 H1 D ((J1.ofTry ok).wish _) q1) (fun g2 s2 q2 => ?_) fun _ _ e => False.elim e
      have q3 : SP X pins D g2 s2 := q2.unwish
      cases g2 <;> exact q3
end
end K64
/-! ## KMerge -/
set_option Elab.async false
set_option linter.all false
set_option maxRecDepth 100000
set_option maxHeartbeats 2000000
namespace K64
open PySem PySem.Spec PyProof.Rows L2
section
variable {prog : Program} {w : World} {A : Around} {E : Value → Shared → Prop} {s : Shared}
theorem wpAny_dictPut_pairs {d : Addr} {kvs : List (Key × Value)} {k : Key} {key v : Value} {Q : Unit → Shared → Prop} (hkey : (mixKind prog w).is k key = true) (hm : s.heap.DictOf (mixKind prog w) d kvs)
    (hQ : ∀ h', h'.DictOf (mixKind prog w) d (stored kvs k v) → Heap.SameBut d s.heap h' → Q () { s with heap := h' })
    (hsz : kvs.length ≤ sizeLine := by size_fits) :
    wpAny (model prog w) A (dictPut d ((mixKind prog w).hash k) key v) Q E s := by
  obtain ⟨o, es, ep, ho, hc, hd, hk, hp, hn⟩ := hm
  have hes : es.size ≤ sizeLine := by have e1 := hp.length; have e2 : es.toList.length = es.size := by simp
                                      omega
  unfold dictPut
  refine wpAny_bind (wpAny_dictFind_of hkey ho hd hk ?_)
  have hidx : (es.findIdx? fun e => (mixKind prog w).is k e.key) = kvs.findIdx? fun kv => decide (kv.1 = k) := by
    rw [← hp.findIdx k]; obtain ⟨l⟩ := es; simp
  cases hi : es.findIdx? fun e => (mixKind prog w).is k e.key with
  | some i =>
    refine wpAny_updateDict ho hd (hQ _ ⟨_, _, ep, Heap.get?_update_self _ ho (Obj.isFreed_of_dict (Obj.data_mapDict hd _)),
      hc.mapDict _, Obj.data_mapDict hd _, hk.modify _ _, ?_, ?_⟩ (Heap.SameBut.update ..))
    · rw [stored, if_pos (any_of_findIdx_some (hidx ▸ hi))]
      have hl : (es.toList.findIdx? fun e => (mixKind prog w).is k e.key) = some i := by rw [← hi]; obtain ⟨l⟩ := es; simp
      have := hp.modify hn hl v
      obtain ⟨l⟩ := es
      simpa using this
    · rw [stored, if_pos (any_of_findIdx_some (hidx ▸ hi)), keys_map_store]; exact hn
  | none =>
    have hnot : k ∉ kvs.map (·.1) := not_mem_of_findIdx_none (hidx ▸ hi)
    have hany : ¬ (kvs.any fun kv => decide (kv.1 = k)) = true := by
      rw [List.any_eq_true]; rintro ⟨kv, hkv, he⟩
      exact hnot (List.mem_map.mpr ⟨kv, hkv, of_decide_eq_true he⟩)
    refine wpAny_updateDictKeys (hz := hes) ho hd (hQ _ ⟨_, _, ep + 1, Heap.get?_update_self _ ho (Obj.isFreed_of_dict (Obj.data_mapDictKeys hd _)),
      hc.mapDictKeys _, Obj.data_mapDictKeys hd _, hk.push hkey _, ?_, ?_⟩ (Heap.SameBut.update ..))
    · rw [stored, if_neg hany]
      have := hp.append hkey ((mixKind prog w).hash k) v
      obtain ⟨l⟩ := es
      simpa using this
    · rw [stored, if_neg hany, List.map_append, List.nodup_append]
      refine ⟨hn, by simp, ?_⟩
      intro a ha b hb
      simp only [List.map_cons, List.map_nil, List.mem_singleton] at hb
      subst hb
      exact fun e => hnot (e ▸ ha)
theorem wpAny_mergeMapping {d o : Addr} {kvs more : List (Key × Value)} {Q : Unit → Shared → Prop} (hdo : d ≠ o) (hoS : (o == sysModules) = false)
    (hd : s.heap.DictOf (mixKind prog w) d kvs) (ho : s.heap.DictOf (mixKind prog w) o more)
    (hQ : ∀ h', h'.DictOf (mixKind prog w) d (merged kvs more) → h'.DictOf (mixKind prog w) o more → Heap.SameBut d s.heap h' → Q () { s with heap := h' })
    (hsz : kvs.length + more.length ≤ sizeLine := by size_fits) :
    wpAny (model prog w) A (mergeMapping d (.ref o) false) Q E s := by
  obtain ⟨od, esd, epd, hod, hcd, hdd, hkd, hpd, hnd⟩ := id hd
  obtain ⟨oo, eso, epo, hoo, hco, hdo', hko, hpo, hno⟩ := id ho
  unfold mergeMapping
  have hT : s.TypeIs (.ref o) "dict" := ho.typeIs
  refine wpAny_bind (wpAny_isInstance (T := "dict") (U := "dict") (b := true) hT (by rw [isSubtype_type]; kernel_rfl) ?_)
  dsimp only
  rw [if_pos rfl]
  refine wpAny_bind (wpAny_specialOf hT (r := some (.builtin "dict.__iter__")) (by kernel_rfl) ?_)
  refine wpAny_bind (wpAny_pure ?_)
  rw [show (some (Value.builtin "dict.__iter__") == some (Value.builtin "dict.__iter__")) = true from by decide +kernel]
  dsimp only
  rw [if_neg (by rw [hoS]; exact Bool.false_ne_true)]
  refine wpAny_bind (wpAny_dictEntries hod hdd ?_)
  have hlen : more.length = eso.size := by rw [← hpo.length]; simp
  have main : wpAny (model prog w) A (do
                    let __do_lift ← dictEntries o
                    have size : Nat := __do_lift.size
                    let epoch ← dictEpoch o
                    forIn (List.range size) PUnit.unit fun i __s => do
                        let __do_lift ← dictEntries o
                        match __do_lift[i]? with
                          | some e => do
                            holding [e.key, e.val]
                                (have __do_jp := fun __r => dictPut d e.hash e.key e.val;
                                if false = true then do
                                  let __do_lift ← dictFind d e.key e.hash
                                  if __do_lift.isSome = true then do
                                      rule "dict.merge.duplicate-key"
                                      let __do_lift ← newExc (Value.type "KeyError") [e.key]
                                      let __r ← raiseNew __do_lift
                                      __do_jp __r
                                    else __do_jp ()
                                else __do_jp ())
                            let __do_lift ← dictEpoch o
                            if (__do_lift != epoch) = true then do
                                unsupported "dict.changed-during-merge"
                                pure (ForInStep.yield PUnit.unit)
                              else pure (ForInStep.yield PUnit.unit)
                          | x => do
                            unsupported "dict.changed-during-merge"
                            pure (ForInStep.yield PUnit.unit)
                    pure ()) Q E s := by
    refine wpAny_bind (wpAny_dictEntries hoo hdo' ?_)
    refine wpAny_bind (wpAny_dictEpoch hoo hdo' ?_)
    refine wpAny_bind ?_
    rw [List.range_eq_range']
    refine wpAny_forIn_list _
      (fun rest _ s' => ∃ h' i, s' = { s with heap := h' } ∧ rest = List.range' i (eso.size - i) ∧ i ≤ eso.size ∧ h'.DictOf (mixKind prog w) d (merged kvs (more.take i)) ∧ h'.get? o = some oo ∧ Heap.SameBut d s.heap h')
      _ ?_ ?_ _ _ ⟨s.heap, 0, rfl, by simp, Nat.zero_le _, by simpa [merged] using hd, hoo, Heap.SameBut.refl _ _⟩
    · rintro x rest b s' ⟨h', i, rfl, hr, hi, hd', hoo', hs'⟩
      have hlt : i < eso.size := by
        rcases Nat.lt_or_ge i eso.size with h | h
        · exact h
        · rw [Nat.sub_eq_zero_of_le h] at hr; simp at hr
      obtain ⟨rfl, hrest⟩ : x = i ∧ rest = List.range' (i + 1) (eso.size - (i + 1)) := by
        have e : eso.size - i = (eso.size - (i + 1)) + 1 := by omega
        rw [e, List.range'_succ] at hr
        injection hr with h1 h2
        exact ⟨h1, h2⟩
      refine wpAny_bind (wpAny_dictEntries hoo' hdo' ?_)
      rw [Array.getElem?_eq_getElem hlt]
      obtain ⟨kv, hkv⟩ : ∃ kv, more[x]? = some kv := ⟨more[x]'(by rw [hlen]; exact hlt), List.getElem?_eq_getElem _⟩
      obtain ⟨k, v⟩ := kv
      obtain ⟨hkey, hval⟩ := hpo.get? (e := eso[x]) (by simp [hlt]) hkv
      obtain ⟨k', hkey', hhash⟩ := hko eso[x] (Array.getElem_mem hlt)
      obtain rfl : k' = k := (mixKind prog w).inj _ _ _ hkey' hkey
      dsimp only
      rw [if_neg Bool.false_ne_true]
      rw [hhash, hval]
      have hmx : (merged kvs (more.take x)).length ≤ sizeLine := by
        have e1 := merged_length_le kvs (more.take x)
        have e2 : (more.take x).length ≤ more.length := by simp; omega
        omega
      refine wpAny_bind (wpAny_holding (wpAny_dictPut_pairs hkey hd' (fun h2 hd2 hs2 => ?_) hmx))
      have hoo2 : h2.get? o = some oo := (hs2.2 o (Ne.symm hdo)).trans hoo'
      refine wpAny_bind (wpAny_dictEpoch (s := { s with heap := h2 }) hoo2 hdo' ?_)
      rw [if_neg (by simp)]
      refine wpAny_pure ⟨h2, x + 1, rfl, hrest, hlt, ?_, hoo2, hs'.trans hs2⟩
      rw [merged_take_succ kvs more x _ hkv]
      exact hd2
    · rintro b s' ⟨h', i, rfl, hr, hi, hd', hoo', hs'⟩
      have ei : i = eso.size := by
        rcases Nat.lt_or_ge i eso.size with h | h
        · exfalso
          have e : eso.size - i = (eso.size - (i + 1)) + 1 := by omega
          rw [e, List.range'_succ] at hr
          cases hr
        · omega
      refine wpAny_pure (hQ h' ?_ ?_ hs')
      · rw [ei, ← hlen, List.take_length] at hd'
        exact hd'
      · exact ⟨oo, eso, epo, hoo', hco, hdo', hko, hpo, hno⟩
  by_cases hE : esd.isEmpty = true
  · rw [if_pos hE]
    refine wpAny_bind (wpAny_dictEntries hoo hdo' ?_)
    refine wpAny_bind ?_
    rw [← Array.forIn_toList]
    refine wpAny_forIn_list _ (fun rest _ s' => s' = s ∧ ∀ e ∈ rest, e ∈ eso) _ ?_ ?_ _ _ ⟨rfl, fun e he => by simpa using he⟩
    · rintro e rest b s' ⟨rfl, hm⟩
      obtain ⟨k', hkey', _⟩ := hko e (hm e List.mem_cons_self)
      rcases keyIs_shape (show keyIs k' e.key = true from hkey') with ⟨i, t, _, ek⟩ | ⟨x, t, _, ek⟩
      · rw [ek]
        exact wpAny_pure ⟨rfl, fun e' he' => hm e' (List.mem_cons_of_mem _ he')⟩
      · rw [ek]
        exact wpAny_pure ⟨rfl, fun e' he' => hm e' (List.mem_cons_of_mem _ he')⟩
    · rintro b s' ⟨rfl, _⟩
      exact main
  · rw [if_neg hE]
    exact main
end
/-- {**e, k: v}; p the dict of the pair -/
def tDStar (te tk tv : TE) : TE := fun σ H Q => ∀ d, H d = none → te σ (upd H d (.dK [])) fun x H1 => ∃ o kvs, x = .ref o ∧ o ≠ d ∧ H1 o = some (.dK kvs) ∧ H1 d = some (.dK []) ∧ kvs.length < sizeLine ∧
  ∀ p, upd H1 d (.dK (mergeK [] kvs)) p = none → tk σ (upd (upd H1 d (.dK (mergeK [] kvs))) p (.dK [])) fun y H2 => ∃ key : Key, y = kV key ∧ tv σ H2 fun z H3 =>
    H3 p = some (.dK []) ∧ H3 d = some (.dK (mergeK [] kvs)) ∧ Q (.ref d) (upd (upd H3 p (.dK [(key, z)])) d (.dK (mergeK (mergeK [] kvs) [(key, z)])))
theorem pe_dstar {X : Cx} {pos : Pos} {e k v : Expr} {te tk tv : TE} (he : PE X e te) (hk : PE X k tk) (hv : PE X v tv) : PE X (.Dict [none, some k] [e, v] pos) (tDStar te tk tv) := by
  refine ⟨fun pins s σ H Q I q => ?_⟩
  rw [arm_eval_Dict]
  refine wpAny_bind (wpAny_standAt ?_)
  rw [show (evalEachOpt [none, some k] X.env).zip ((evalEach [e, v] X.env).map fun v => (do let x ← v; standAt pos; pure x : Sem Value)) =
    [(none, do let x ← eval e X.env; standAt pos; pure x), (some (eval k X.env), do let x ← eval v X.env; standAt pos; pure x)] from rfl]
  unfold dictDisplay
  have hn := I.hok.fresh (Nat.le_refl s.heap.objs.size)
  have I1 := I.laid (a := s.heap.objs.size) (o := .dK []) (h' := s.heap.push { cls := .type "dict", data := .dict #[] }) (t' := s.toks) (fun _ _ q => Heap.get?_push_of_some _ q) (Nat.le_refl _) (dk_empty s.heap I.big)
  dsimp only
  rw [List.forIn_cons]
  dsimp only
  refine wpAny_bind (wpAny_bind ?_)
  rw [if_pos (show ([] : List (Sem Value × Sem Value)).isEmpty = true from rfl)]
  refine wpAny_bind (wpAny_pure ?_)
  dsimp only
  refine wpAny_bind (wpAny_alloc ?_)
  refine wpAny_bind (wpAny_holding ?_)
  refine wpAny_bind (thn (he.run pins _ σ _ _ I1 (q _ hn)) fun u s1 ⟨x, H1, I2, rx, o, kvs, ex, hod, hko, hkd, hlen, q1⟩ => ?_)
  subst ex
  obtain rfl : u = Value.ref o := rx
  refine wpAny_bind (wpAny_standAt (wpAny_pure ?_))
  obtain ⟨z, hd, vs0, r0, dd⟩ := dk_of I2.hok hkd
  cases r0
  obtain ⟨z1, hd1, vs1, r1, dd1⟩ := dk_of I2.hok hko
  have l1 : kvs.length = vs1.length := Paired.length r1
  refine wpAny_bind (wpAny_onRaise (wpAny_tryCatch (wpAny_onRaise (wpAny_holding (wpAny_mergeMapping (Ne.symm hod) hd1 dd dd1 (fun h' dd' dd1' hs => ?_) (by rw [List.length_nil]; omega))))))
  have hz : (mergeK [] kvs).length ≤ sizeLine := by
    have h1 := length_mergeK kvs []
    rw [List.length_nil] at h1
    omega
  have hex : ∃ q, h'.get? s.heap.objs.size = some q := let ⟨q, _, _, hq, _⟩ := dd'; ⟨q, hq⟩
  have I3 := d_write (t' := s1.toks) I2 (by rw [hkd]; exact True.intro) hs hex (dk_new hz hd (r1.merge .nil) dd')
  refine wpAny_pure (wpAny_pure ?_)
  dsimp only
  simp only [List.nil_append]
  rw [if_neg (show ¬ ([(eval k X.env, (do let x ← eval v X.env; standAt pos; pure x : Sem Value))] : List (Sem Value × Sem Value)).isEmpty = true from Bool.false_ne_true)]
  refine wpAny_bind (wpAny_bind (wpAny_holding ?_))
  show wpAny _ _ (subDict [(eval k X.env, (do let x ← eval v X.env; standAt pos; pure x : Sem Value))]) _ _ _
  generalize hh : ({ s1 with heap := h' } : Shared) = s3 at I3
  have hn2 := I3.hok.fresh (Nat.le_refl s3.heap.objs.size)
  have I4 := I3.laid (a := s3.heap.objs.size) (o := .dK []) (h' := s3.heap.push { cls := .type "dict", data := .dict #[] }) (t' := s3.toks) (fun _ _ q => Heap.get?_push_of_some _ q) (Nat.le_refl _) (dk_empty s3.heap I3.big)
  refine wpAny_subDict (knd := mixKind X.prog X.w) (by show 1 ≤ 15; decide) (evalPairs_cons (thn (hk.run pins _ σ _ _ I4 (q1 _ hn2)) fun kv s4 ⟨y, H2, I5, ry, key, ey, q2⟩ => ?_))
  refine wpAny_bind (thn (hv.run pins s4 σ _ _ I5 q2) fun vv s5 ⟨zv, H3, I6, rz, e3, e4, q3⟩ => ?_)
  refine wpAny_bind (wpAny_standAt (wpAny_pure (evalPairs_nil ?_)))
  obtain ⟨za, hda, vsa, ra, dda⟩ := dk_of I6.hok e3
  cases ra
  subst ey
  refine ⟨[(key, vv)], ⟨kV_is ry, rfl, True.intro⟩, dda, fun h2 dd2 hs2 => ?_⟩
  have hex2 : ∃ q, h2.get? s3.heap.objs.size = some q := let ⟨q, _, _, hq, _⟩ := dd2; ⟨q, hq⟩
  have r2 : KV [(key, zv)] [(key, vv)] := .cons ⟨rfl, rz⟩ .nil
  have I7 := d_write (t' := s5.toks + [(kv, vv)].length) I6 (by rw [e3]; exact True.intro) hs2 hex2 (dk_new (kvs := [(key, zv)]) (by show 1 ≤ sizeLine; rw [sizeLine_eq]; decide) hda r2 dd2)
  refine wpAny_bind (wpAny_onRaise (wpAny_holding ?_))
  have nd : s.heap.objs.size ≠ s3.heap.objs.size := ne_of_none (o := .dK (mergeK [] kvs)) upd_same hn2
  have e5 : upd H3 s3.heap.objs.size (.dK [(key, zv)]) s.heap.objs.size = some (.dK (mergeK [] kvs)) := by
    rw [upd_ne nd]
    exact e4
  obtain ⟨zb, hdb, vsb, rb, ddb⟩ := dk_of I7.hok e5
  obtain ⟨zc, hdc, vsc, rc, ddc⟩ := dk_of I7.hok (upd_same (a := s3.heap.objs.size))
  have lb : (mergeK [] kvs).length = vsb.length := Paired.length rb
  have lc : [(key, zv)].length = vsc.length := Paired.length rc
  have hz2 : (mergeK [] kvs).length ≤ kvs.length := by
    have h1 := length_mergeK kvs []
    rw [List.length_nil] at h1
    omega
  refine wpAny_mergeMapping nd hdc ddb ddc (fun h3 dd3 _ hs3 => ?_) (by rw [← lb, ← lc, List.length_singleton]; omega)
  have hex3 : ∃ q, h3.get? s.heap.objs.size = some q := let ⟨q, _, _, hq, _⟩ := dd3; ⟨q, hq⟩
  have hz3 : (mergeK (mergeK [] kvs) [(key, zv)]).length ≤ sizeLine := by
    have h1 := length_mergeK [(key, zv)] (mergeK [] kvs)
    rw [List.length_singleton] at h1
    omega
  have I8 := d_write (t' := s5.toks + [(kv, vv)].length) I7 (by rw [e5]; exact True.intro) hs3 hex3 (dk_new hz3 hdb (rc.merge rb) dd3)
  refine wpAny_pure (wpAny_pure ⟨.ref s.heap.objs.size, _, I8, rfl, q3⟩)
end K64
/-! ## KNe -/
set_option Elab.async false
set_option linter.all false
set_option maxRecDepth 100000
set_option maxHeartbeats 2000000
namespace K64
open PySem PySem.Spec PyProof.Rows L2
section
variable {prog : Program} {w : World} {A : Around} {E : Value → Shared → Prop} {s : Shared} {K : PySem.W.Frag} {x y C f : Addr} {ox : Obj} {od : Option Obj}
open PySem.W in
theorem ne_body {Q : Fin → Shared → Prop} (hu : A.units < cLine) (X : K.In s.heap) (I : InstAt s.heap x ox C od) (hs : findIn K (.ref C) "__eq__" = some (some (.ref f))) (hf : isFn K (.ref f) = true)
    (h : wpAny (model prog w) A (call (.ref f) [.ref x, .ref y]) (fun v s' => ∃ b, v = .bool b ∧ Q (.done (.ret (.bool (!b)))) s') E s) :
    wpAny (model prog w) A (Builtin.«object.__ne__» ⟨[.ref x, .ref y], []⟩) Q E s := by
  unfold Builtin.«object.__ne__»
  repeat (first
    | with_reducible refine wpAny_cRoomFor hu ?_
    | (refine wpAny_bind (m := callSpecialIfBound? (.ref x) (Str.ofString "__eq__") [.ref y])
        (ifBound_K X I hs hf (wpAny_mono h (fun r s' hr => by
          obtain ⟨b, rfl, hq⟩ := hr
          repeat (first | exact hq | exact wpAny_pure hq | exact wpAny_truthy_bool hq | (refine wpAny_bind (m := truthy (.bool _)) (wpAny_truthy_bool ?_)) | wp_step)) fun _ _ e => e)))
    | wp_step)
open PySem.W in
theorem ne_own {Q : Value → Shared → Prop} (hu : A.units + 1 < cLine) (X : K.In s.heap) (I : InstAt s.heap x ox C od) {oy : Obj} {ody : Option Obj} (J : InstAt s.heap y oy C ody) (hn : findIn K (.ref C) "__ne__" = some (some (.builtin "object.__ne__")))
    (hs : findIn K (.ref C) "__eq__" = some (some (.ref f))) (hf : isFn K (.ref f) = true) (hob : subIn K (.ref C) (.type "object") = some true)
    (h : wpAny (model prog w) A.in1 (call (.ref f) [.ref x, .ref y]) (fun v s' => ∃ b, v = .bool b ∧ Q (.bool (!b)) s') E s) :
    wpAny (model prog w) A (compareOp .NotEq (.ref x) (.ref y)) Q E s := by
  have S : Slot "object" "__ne__" "object.__ne__" := F.cmp_object.ne
  have bd : wpAny (model prog w) A (call (.builtin "object.__ne__") [.ref x, .ref y]) (fun v s' => ∃ b, v = .bool (!b) ∧ Q (.bool (!b)) s') E s := by
    refine wpAny_call (codeAny_call_builtin S.plain F.cmpEntry_ne ?_)
    have ha := F.cmpArgs_ne (.ref x) (.ref y)
    simp only [checkBuiltinCall, F.cmpKind_ne, F.cmpSplit_ne]
    refine wpAny_bind ?_
    unfold isInstance
    refine wpAny_bind (I.type.here ((looks_subIn X hob).here ?_))
    simp only [Bool.not_true, Bool.false_eq_true, if_false]
    have hrun : wpAny (model prog w) A.in1 (Builtin.«object.__ne__» ⟨[.ref x, .ref y], []⟩) (fun fin s' => match fin with
        | .done fl => wants (fun v s' => ∃ b, v = .bool (!b) ∧ Q (.bool (!b)) s') E (.ok fl) s'
        | .again c' => c'.quiet = true ∧ codeAny (model prog w) A c' (wants (fun v s' => ∃ b, v = .bool (!b) ∧ Q (.bool (!b)) s') E) s') (fun e s' => wants (fun v s' => ∃ b, v = .bool (!b) ∧ Q (.bool (!b)) s') E (.error e) s') s := by
      refine ne_body (Nat.lt_of_le_of_lt (Nat.le_refl _) hu) X I hs hf (wpAny_mono h (fun v s' hv => ?_) fun _ _ e => e)
      obtain ⟨b, rfl, q⟩ := hv
      exact ⟨b, rfl, b, rfl, q⟩
    cases hsig : Manifest.signature? "object.__ne__" with
    | none => exact wpAny_pure hrun
    | some sig =>
      simp only [argsOk, hsig] at ha
      show wpAny (model prog w) A.in1 (Bind.checkArgs "object.__ne__" sig ⟨[.ref x, .ref y], []⟩) _ _ _
      rw [ha]
      exact wpAny_pure hrun
  have one : wpAny (model prog w) A (tryCompare (.ref x) "__ne__" (.ref y)) (fun r s' => ∃ b, r = some (.bool (!b)) ∧ Q (.bool (!b)) s') E s := by
    unfold tryCompare
    refine wpAny_bind (wpAny_mono (Q := fun r s' => ∃ b, r = some (.bool (!b)) ∧ Q (.bool (!b)) s') ?_ (fun r s' z => by obtain ⟨b, rfl, q⟩ := z; exact wpAny_pure ⟨b, rfl, q⟩) fun _ _ e => e)
    simp only [callSpecialIfBound?, bindSpecialIfBound?]
    refine wpAny_holding (wpAny_bind (wpAny_bind (wpAny_bind (I.type.here ((looks_findIn X hn).here ?_)))))
    simp only [S.bind]
    refine wpAny_bind (wpAny_askSetting (wpAny_ite ?_))
    have fin : wpAny (model prog w) A (call (.builtin "object.__ne__") ([.ref x] ++ [.ref y]) >>= fun v => pure (some v)) (fun r s' => ∃ b, r = some (.bool (!b)) ∧ Q (.bool (!b)) s') E s :=
      wpAny_bind (wpAny_mono bd (fun v s' h' => wpAny_pure (by obtain ⟨b, rfl, q⟩ := h'; exact ⟨b, rfl, q⟩)) fun _ _ h' => h')
    split
    · exact wpAny_bind (wpAny_pure (wpAny_pure fin))
    · exact wpAny_tryCatch (wpAny_bind (wpAny_pure (wpAny_pure fin)))
  unfold compareOp richCompare
  simp only [oneThing_ref]
  refine wpAny_holding (wpAny_bind (wpAny_cRoomFor (Nat.lt_of_succ_lt hu) ?_))
  rw [cmpInfo_NotEq]
  dsimp only
  refine wpAny_bind (I.type.here (wpAny_bind (J.type.here ?_)))
  rw [show (Value.ref C != Value.ref C) = false from by simp]
  simp only [Bool.false_eq_true, if_false]
  refine wpAny_bind (wpAny_pure ?_)
  simp only [Bool.false_eq_true, if_false]
  refine wpAny_bind (wpAny_mono one (fun r s' z => ?_) fun _ _ e => e)
  obtain ⟨b, rfl, hq⟩ := z
  first | exact wpAny_pure hq | exact wpAny_pure (wpAny_pure hq) | exact hq
end
section
variable {X : Cx} {k : Nat} {C : Addr} {ps : List Str} {sp : Sp}
/-- x != y of a class with its own __eq__ and no __ne__ -/
theorem op_ownNe (F : MtG X.prog X.w X.K X.mg X.base CX0 k C "__eq__" ps sp) (hn : PySem.W.findIn X.K (.ref C) "__ne__" = some (some (.builtin "object.__ne__"))) (hob : PySem.W.subIn X.K (.ref C) (.type "object") = some true) (hr : Room (k + 1) X.A) :
    OpR X (compareOp .NotEq) (fun x y H Q => ∃ a dx fs b dy gs, x = .ref a ∧ y = .ref b ∧ H a = some (.ins C dx fs) ∧ H b = some (.ins C dy gs) ∧ sp [x, y] H (fun v H2 => ∃ t, v = .bl t ∧ Q (.bl (!t)) H2) E0) := by
  obtain ⟨f, fd, hme, hb, G⟩ := F.ex
  intro pins s σ H x y v u Q I rx ry h
  obtain ⟨a, dx, fs, b, dy, gs, ex, ey, ea, eb, q⟩ := h
  subst ex ey
  obtain rfl : v = Value.ref a := rx
  obtain rfl : u = Value.ref b := ry
  obtain ⟨od, J⟩ := inst_of I ea
  obtain ⟨od', J'⟩ := inst_of I eb
  refine ne_own (A := X.A) (by have := hr.units; omega) I.kIn J J' hn hme.at_ hme.fn hob (thn (run_fnI (E := E0) (us := [.ref a, .ref b]) (vs := [.ref a, .ref b]) G hr hb (passAt0 σ) I (.cons rfl (.cons rfl .nil)) q) fun r s2 hr2 => ?_)
  obtain ⟨z, H2, I2, rv, t, ev, q2⟩ := hr2
  subst ev
  obtain rfl : r = Value.bool t := rv
  exact ⟨t, rfl, .bl (!t), H2, I2, rfl, q2⟩
end
end K64
/-! ## KRev -/
set_option Elab.async false
set_option linter.all false
set_option maxRecDepth 100000
set_option maxHeartbeats 2000000
namespace K64
open PySem PySem.Spec PyProof.Rows L2
section
variable {prog : Program} {w : World} {A : Around} {E : Value → Shared → Prop} {s : Shared}
theorem sliceApplied_rev {sl : Addr} {vl vu vs : Value} {n : Nat} {Q : Int × Int × Nat → Shared → Prop} (hs : s.heap.IsSliceOf sl vl vu vs) (pl : IsPart vl none) (pu : IsPart vu none) (ps : IsPart vs (some (-1)))
    (h : Q ((n : Int) - 1, -1, n) s) : wpAny (model prog w) A (Builtin.Slice.sliceApplied (.ref sl) (pure (n : Int))) Q E s := by
  obtain ⟨os, hos, hcs, hds⟩ := id hs
  unfold Builtin.Slice.sliceApplied Builtin.Slice.sliceFields
  refine wpAny_bind (wpAny_bind (wpAny_field hos hds (x := vl) rfl (wpAny_bind (wpAny_field hos hds (x := vu) rfl (wpAny_bind (wpAny_field hos hds (x := vs) rfl (wpAny_pure ?_)))))))
  refine wpAny_bind (HT.slicePart_ ps ?_)
  show wpAny _ _ (if ((-1 : Int) == 0) = true then _ else _) _ _ s
  rw [if_neg (by decide)]
  refine wpAny_bind (HT.slicePart_ pl (wpAny_bind (HT.slicePart_ pu (wpAny_bind (wpAny_pure ?_)))))
  show wpAny _ _ (pure ((n : Int) - 1, (-1 : Int), Builtin.Slice.slicePlaces ((n : Int) - 1) (-1) (-1))) _ _ s
  have e : Builtin.Slice.slicePlaces ((n : Int) - 1) (-1) (-1) = n := by
    unfold Builtin.Slice.slicePlaces
    rw [if_neg (by decide)]
    have e1 : (-(-1) : Int) = 1 := by decide
    rw [e1, Int.ediv_one]
    split <;> omega
  rw [e]
  exact wpAny_pure h
theorem fm_congr {α β : Type} {f g : α → Option β} : ∀ {l : List α}, (∀ x ∈ l, f x = g x) → l.filterMap f = l.filterMap g
  | [], _ => rfl
  | a :: l, h => by
    rw [List.filterMap_cons, List.filterMap_cons, h a List.mem_cons_self, fm_congr fun x hx => h x (List.mem_cons_of_mem _ hx)]
theorem pick_rev (xs : Array Value) : ((List.range xs.size).filterMap fun (m : Nat) => xs[((xs.size : Int) - 1 + (m : Int) * -1).toNat]?).toArray = xs.toList.reverse.toArray := by
  have e : (List.range xs.size).filterMap (fun (m : Nat) => xs[((xs.size : Int) - 1 + (m : Int) * -1).toNat]?) = ((List.range xs.size).map fun k => xs.size - 1 - k).filterMap (xs[·]?) := by
    rw [List.filterMap_map]
    refine fm_congr fun k hk => ?_
    have hk' := List.mem_range.mp hk
    have q : ((xs.size : Int) - 1 + (k : Int) * -1).toNat = xs.size - 1 - k := by omega
    show xs[((xs.size : Int) - 1 + (k : Int) * -1).toNat]? = xs[xs.size - 1 - k]?
    rw [q]
  rw [e, PySem.W.krv_range, List.filterMap_reverse, PySem.W.krv_all]
theorem getItem_tuple_rev {t sl : Addr} {items : Array Value} {vl vu vs : Value} {Q : Value → Shared → Prop} (ht : IsTup s.heap t items) (hs : s.heap.IsSliceOf sl vl vu vs) (pl : IsPart vl none) (pu : IsPart vu none) (ps : IsPart vs (some (-1)))
    (h : Q (.ref s.heap.objs.size) { s with heap := s.heap.push { cls := .type "tuple", data := .seq items.toList.reverse.toArray } })
    (hsz : items.size ≤ sizeLine) : wpAny (model prog w) A (getItem (.ref t) (.ref sl)) Q E s := by
  have htake : sizeOk (.seq items.toList.reverse.toArray) := by
    show items.toList.reverse.toArray.size ≤ sizeLine
    rw [List.size_toArray, List.length_reverse, Array.length_toList]
    omega
  obtain ⟨os, hos, hcs, hds⟩ := id hs
  have hTs : s.TypeIs (.ref sl) "slice" := ⟨os, hos, hcs⟩
  unfold getItem
  try with_reducible refine wpAny_holding ?_
  first | refine wpAny_bind (wpAny_pure ?_) | skip
  refine wpAny_bind (wpAny_sequenceKey ht.typeIs (by decide) ?_)
  refine wpAny_bind (wpAny_callSpecial?_slot (name := Str.ofString "__getitem__") ht.typeIs PyProof.Rows.slot_tuple_getitem
    (wpAny_call_entry PyProof.Rows.slot_tuple_getitem ht.typeIs entry_tuple_getitem ?_ (args_tuple_getitem _ _)))
  show wpAny _ _ (Builtin.Tuple.tupleItemsOf (.ref t) >>= _) _ _ s
  refine wpAny_bind (tupleItemsOf_ ht ?_)
  refine wpAny_bind (wpAny_typeOf hTs ?_)
  rw [if_pos (by decide)]
  refine wpAny_bind (sliceApplied_rev hs pl pu ps ?_)
  show wpAny _ _ (if (((items.size : Int) - 1) == 0 && (-1 : Int) == 1 && items.size == items.size) = true then _ else _) _ _ s
  rw [if_neg (by simp), pick_rev]
  first
    | exact wpAny_bind (m := Builtin.Tuple.tupleExact _) (wpAny_newObj_type (wpAny_pure ⟨_, rfl, wpAny_pure h⟩) htake)
    | exact wpAny_bind (m := Builtin.Tuple.tupleExact _) (wpAny_newObj_type (wpAny_bind (wpAny_pure (wpAny_pure ⟨_, rfl, wpAny_pure h⟩))) htake)
    | exact wpAny_bind (wpAny_bind (m := Builtin.Tuple.tupleExact _) (wpAny_newObj_type (wpAny_pure (wpAny_pure ⟨_, rfl, wpAny_pure h⟩)) htake))
    | exact wpAny_bind (wpAny_bind (m := Builtin.Tuple.tupleExact _) (wpAny_newObj_type (wpAny_pure ⟨_, rfl, wpAny_pure h⟩) htake))
end
section
variable {X : Cx}
/-- t[::-1], t a tuple -/
def tRevT (K : PySem.W.Frag) (te : TE) : TE := fun σ H Q => te σ H fun x H1 => ∃ a xs, x = .ref a ∧ SqT K H1 a xs ∧ ∀ p, H1 p = none → Q (.ref p) (upd H1 p (.tup xs.reverse))
theorem pe_revT {e : Expr} {te : TE} {k : Nat} {p1 p2 p3 pos : Pos} (he : PE X e te) : PE X (.Subscript e (.Slice none none (some (.UnaryOp .USub (.Constant (.int 1) k p1) p2)) p3) pos) (tRevT X.K te) := by
  refine ⟨fun pins s σ H Q I h => ?_⟩
  refine Subscript_ (thn (he.run pins s σ H _ I h) fun v s1 ⟨x, H1, I1, r1, q1⟩ => ?_)
  obtain ⟨a, xs, ex, hx, q⟩ := q1
  subst ex
  cases r1
  have hst : PO X (some (.UnaryOp .USub (.Constant (.int 1) k p1) p2)) (tPart (tUn (rU fun i => .int (-i)) (tC (.int 1)))) := po_some (pe_un un_neg pe_int)
  refine wpAny_Slice (thn (po_none.run pins s1 σ H1 (fun o H2 => o = none ∧ H2 = H1) I1 ⟨rfl, rfl⟩) fun vl s2 ⟨l, H2, I2, pl, el, e2⟩ => ?_)
  subst el e2
  refine thn (po_none.run pins s2 σ H2 (fun o H3 => o = none ∧ H3 = H2) I2 ⟨rfl, rfl⟩) fun vu s3 ⟨u, H3, I3, pu, eu, e3⟩ => ?_
  subst eu e3
  refine thn (hst.run pins s3 σ H3 (fun o H4 => o = some (-1) ∧ H4 = H3) I3 ⟨1, rfl, -1, rfl, rfl, rfl⟩) fun vs s4 ⟨o, H4, I4, ps, eo, e4⟩ => ?_
  subst eo e4
  have I5 : Inv X pins σ H4 { s4 with heap := s4.heap.push { cls := .type "slice", data := .fields #[vl, vu, vs] } } := I4.kept (t' := s4.toks) fun b ob q => Heap.get?_push_of_some _ q
  obtain ⟨its, r, ht, hz⟩ := I5.tuple hx
  have hlen := r.length
  show wpAny (model X.prog X.w) X.A (subscriptTail e (.Slice none none (some (.UnaryOp .USub (.Constant (.int 1) k p1) p2)) p3) (.ref a) (.ref s4.heap.objs.size)) (EP X pins σ Q) X.xe { s4 with heap := s4.heap.push { cls := .type "slice", data := .fields #[vl, vu, vs] } }
  refine tail_any (ops := [.ref a, .ref s4.heap.objs.size]) ht.typeIs (PyProof.Rows.slot_tuple_getitem.lookup) ?_ (by with_unfolding_all rfl)
  refine getItem_tuple_rev ht (Heap.IsSliceOf.new _ vl vu vs) pl pu ps ?_ (by rw [List.size_toArray]; omega)
  refine ⟨.ref _, _, I5.laid (t' := s4.toks) (o := .tup xs.reverse) (fun b ob q => Heap.get?_push_of_some _ q) (Nat.le_refl _) ?_, rfl, q _ (I5.hok.fresh (Nat.le_refl _))⟩
  exact ⟨by rw [List.length_reverse]; exact hz, _, r.reverse, IsTup.new _ _⟩
end
end K64
/-! ## KListO -/
set_option Elab.async false
set_option linter.all false
set_option maxRecDepth 100000
set_option maxHeartbeats 2000000
namespace K64
open PySem PySem.Spec PyProof.Rows L2
def epOf (o : Obj) : Nat := match o.data with | .dict _ ep => ep | _ => 0
/-- the walk over the keys of the dict at d, at its i-th -/
def KeyO (d it : Addr) (n ep : Nat) : HO := .ext fun h => h.IsKeyIter it d 0 n ep
theorem keyO_ok {P : Program} {w : World} {H : Hp} {h : Heap} {d it : Addr} {n ep : Nat} (k : h.IsKeyIter it d 0 n ep) : ObjOk P w H h it (KeyO d it n ep) := by
  obtain ⟨o, ho, r⟩ := id k
  exact ⟨k, ⟨o, ho⟩, fun h1 h2 k1 st => k1.at st⟩
/-- iter(d), d a locked dict: the new thing stands behind all that is tracked -/
def rIterK : List V → Hp → VK → Prop := fun xs H Q => ∃ (d : Addr) (od : Obj) (kvs : List (Key × V)), xs = [.ref d] ∧ H d = some (.frz od (.dK kvs)) ∧
  ∀ it, H it = none → (∀ b o, H b = some o → b < it) → Q (.ref it) (upd H it (KeyO d it kvs.length (epOf od)))
section
variable {X : Cx} {k : Nat} {C : Addr}
theorem call_iterK : CallR X (.builtin "iter") rIterK := by
  intro pins s σ H xs us Q I r h
  obtain ⟨d, od, kvs, rfl, hd, q⟩ := h
  obtain ⟨u, rfl, ru⟩ := vals1 r
  cases ru
  obtain ⟨hs, hgd, hx, es, ep, vs, hdt, hsz, kv, hm⟩ := I.frzK hd
  refine Calls.call_function_entry (by decide +kernel) (by decide +kernel) PySem.W.kdk_entry_iter (PySem.W.kdk_args_iter _) ?_
  unfold Builtin.«iter»
  refine wpAny_bind (m := someArgs "iter" 1 2 _) (wpAny_of_eq (a := [Value.ref d]) (by first | rfl | kernel_rfl!) ?_)
  show wpAny _ _ (pyIter (.ref d) >>= _) _ _ _
  refine wpAny_bind (iter_keys hs hgd hx hdt ?_)
  have e : epOf od = ep := by
    unfold epOf
    rw [hdt]
  refine wpAny_pure ⟨_, rfl, .ref s.heap.objs.size, _, I.laid (t' := s.toks) (o := KeyO d s.heap.objs.size kvs.length (epOf od)) (fun b u e => Heap.get?_push_of_some _ e) (Nat.le_refl _) (keyO_ok ⟨_, Heap.get?_push_size _ rfl, rfl, by rw [hsz, e] <;> rfl⟩), rfl, q _ (I.hok.fresh (Nat.le_refl _)) fun b o hb => ?_⟩
  obtain ⟨o', ho⟩ := objOk_get (I.hok b o hb)
  exact Heap.lt_size ho
theorem run_sub {n : Nat} {A : Around} {CX : CXT} {f : Addr} {fd : FuncData} {ps : List Str} {sp : Sp} {E : XK} {pins : List (Addr × Obj)} {σ : St} {H : Hp} {s : Shared} {Q : VK} {us : List Value} {vs : List V} (sb : Sub X n A) (F : FnOk X.prog X.w X.K X.mg X.base CX n f fd ps sp) (hb : Binds X.K fd ps []) (hx : PassesAt CX X σ E)
    (I : Inv X pins σ H s) (r : Vals vs us) (h : sp vs H Q E) : wpAny (model X.prog X.w) A (call (.ref f) us) (EP X pins σ Q) X.xe s := by
  have hl : us.length = ps.length := by rw [← r.length]; exact F.len _ _ _ _ h
  have b := hb s us I.kIn (by rw [List.append_nil]; exact hl)
  rw [List.append_nil] at b
  have e0 : Env0 X.prog X.w X.K X.mg X.base A X.stack s H := by
    have e := I.env0
    exact ⟨by rw [sb.fr]; exact e.frames, e.mod, e.bs, e.bsz, e.funs, e.frf, e.hok, e.bare⟩
  refine wpAny_call (codeAny_mono (F.run A X.stack s H ⟨us, []⟩ us vs Q E sb.room e0 b r h) fun r s' hq => ?_)
  cases r with
  | error e => exact hx pins H s e s' I hq
  | ok fl =>
    cases fl with
    | ret u => exact I.after hq
    | next => exact False.elim hq
    | brk => exact False.elim hq
    | cont => exact False.elim hq
/-- what a class's __iter__ promises that gives iter(self.f) -/
def spIterF (C : Addr) (f : Str) : Sp := fun vs H Q _ => ∃ (a dx : Addr) (fs : List (Str × V)) (d : Addr) (od : Obj) (kvs : List (Key × V)), vs = [.ref a] ∧ H a = some (.ins C dx fs) ∧ fs.lookup f = some (.ref d) ∧ H d = some (.frz od (.dK kvs)) ∧
  ∀ it, H it = none → (∀ b o, H b = some o → b < it) → Q (.ref it) (upd H it (KeyO d it kvs.length (epOf od)))
/-- what its __len__ promises that gives len(self.f) -/
def spLenF (C : Addr) (f : Str) : Sp := fun vs H Q _ => ∃ (a dx : Addr) (fs : List (Str × V)) (d : Addr) (kvs : List (Key × V)), vs = [.ref a] ∧ H a = some (.ins C dx fs) ∧ fs.lookup f = some (.ref d) ∧ Rd H d (.dK kvs) ∧
  Q (.int (kvs.length : Int)) H
/-- list(o), o such a thing: a new list of the keys -/
def rListF (C : Addr) (f : Str) : List V → Hp → VK → Prop := fun xs H Q => ∃ (a dx : Addr) (fs : List (Str × V)) (d : Addr) (kvs : List (Key × V)), xs = [.ref a] ∧ H a = some (.ins C dx fs) ∧ fs.lookup f = some (.ref d) ∧ H d = some (.dK kvs) ∧
  ∀ q, H q = none → Q (.ref q) (upd H q (.lst (kvs.map fun p => kV p.1)))
/-- the loop that fills the list at q from the keys -/
theorem key_fill {d it q : Addr} {kvs : List (Key × V)} {od : Obj} {ep : Nat} {A1 : Around} {pins : List (Addr × Obj)} {σ : St} {H0 : Hp} {Rs : Result → Shared → Prop} (hd : H0 d = some (.frz od (.dK kvs))) (hdq : d ≠ q) (hep : epOf od = ep) (hh : A1.in1.handled = none) (fp : FpOk X pins H0 it) (hqi : it ≠ q)
    (hdone : ∀ s, Inv X pins σ (upd H0 q (.lst (kvs.map fun p => kV p.1))) s → Rs (.ok (.ret .none)) s) :
    ∀ (m i : Nat) (s : Shared), kvs.length - i = m → i ≤ kvs.length → Inv X pins σ (upd H0 q (.lst ((kvs.map fun p => kV p.1).take i))) s → s.heap.IsKeyIter it d i kvs.length ep →
      codeAny (model X.prog X.w) A1 (.builtin "list.extend.loop" ⟨[.ref q, .ref it, .none], []⟩) Rs s := by
  obtain ⟨f0, f1, f2, f3, f4, f5⟩ := fp
  have nit : ∀ ys, upd H0 q (.lst ys) it = none := fun ys => by rw [upd_ne hqi]; exact f0
  have hdd : ∀ ys, upd H0 q (.lst ys) d = some (.frz od (.dK kvs)) := fun ys => by rw [upd_ne hdq]; exact hd
  intro m
  induction m with
  | zero =>
    intro i s hk hi I st
    have e : i = kvs.length := by omega
    obtain ⟨hs, hgd, hx, es, ep', vs, hdt, hsz, kv, hm⟩ := I.frzK (hdd _)
    have e2 : epOf od = ep' := by unfold epOf; rw [hdt]
    obtain rfl : ep' = ep := e2.symm.trans hep
    refine codeAny_builtin PySem.F.entry_extend_loop ?_
    rw [Around.under_plainId PySem.F.plain_extend_loop _]
    show wpAny _ A1.in1 (pyNext (.ref it) >>= _) _ _ s
    refine wpAny_bind (next_key_end hh st hgd hdt hsz (by omega) fun h' eb => ?_)
    have I1 : Inv X pins σ (upd H0 q (.lst ((kvs.map fun p => kV p.1).take i))) { s with heap := h' } := I.turned (t' := s.toks) (fun b ob hb e => eb b ob hb e) (nit _) f1 f3 f4 f5
    rw [e, List.take_of_length_le (by rw [List.length_map]; exact Nat.le_refl _)] at I1
    exact wpAny_pure (hdone _ I1)
  | succ m ih =>
    intro i s hk hi I st
    have hlt : i < kvs.length := by omega
    obtain ⟨hs, hgd, hx, es, ep', vs, hdt, hsz, kv, hm⟩ := I.frzK (hdd _)
    have e2 : epOf od = ep' := by unfold epOf; rw [hdt]
    obtain rfl : ep' = ep := e2.symm.trans hep
    obtain ⟨⟨ky, v⟩, hkv⟩ : ∃ p, kvs[i]? = some p := ⟨kvs[i], List.getElem?_eq_getElem hlt⟩
    obtain ⟨u, hu, ru⟩ := kv_get kv hkv
    have hl : kvs.length = vs.length := Paired.length kv
    rw [hl] at st
    refine codeAny_builtin PySem.F.entry_extend_loop ?_
    rw [Around.under_plainId PySem.F.plain_extend_loop _]
    show wpAny _ A1.in1 (pyNext (.ref it) >>= _) _ _ s
    refine wpAny_bind (wpAny_pyNext_dict_item st hm hu fun key h' hkey st' sb => ?_)
    have I1 : Inv X pins σ (upd H0 q (.lst ((kvs.map fun p => kV p.1).take i))) { s with heap := h' } := I.turned (t' := s.toks) (fun b ob hb e => (sb.2 b hb).trans e) (nit _) f1 f3 f4 f5
    show wpAny _ A1.in1 (updateSeq q (·.push key) >>= _) _ _ _
    obtain ⟨z, its, n, r2, hl2, e⟩ := I1.lstM upd_same
    rw [List.length_take, List.length_map] at hl2 z
    obtain ⟨zz, _⟩ := I1.hok d _ (hdd _)
    have hkz : kvs.length ≤ sizeLine := by
      obtain ⟨z9, _⟩ := dk_rd (kvs := kvs) I1.hok (.inr ⟨od, hdd _⟩)
      exact z9
    refine wpAny_bind (wpAny_updateSeq e rfl (wpAny_pure ⟨plainId_quiet PySem.F.plain_extend_loop _, ?_⟩) (by rw [List.size_toArray]; omega) (by show (its.toArray.push key).size ≤ sizeLine + 1; rw [Array.size_push, List.size_toArray]; omega))
    have ek : (kvs.map fun p => kV p.1).take (i + 1) = (kvs.map fun p => kV p.1).take i ++ [kV ky] := by
      rw [List.take_add_one, List.getElem?_map, hkv] <;> rfl
    have I2 := I1.lset (f := (·.push key)) (its' := its ++ [key]) (ys := (kvs.map fun p => kV p.1).take i ++ [kV ky]) (t' := s.toks) upd_same e (by simp) (r2.append (.cons (relV_key (show keyIs ky key = true from hkey)) .nil)) (by rw [List.length_append, List.length_take, List.length_map, List.length_singleton]; omega)
    rw [upd_upd, ← ek] at I2
    refine ih (i + 1) _ (by omega) (by omega) I2 ?_
    rw [hl]
    exact st'.at fun o ho => (Heap.get?_update_other _ _ (fun w => hqi w.symm)).trans ho
open PySem.W in
theorem hint_own {A : Around} {pins : List (Addr × Obj)} {σ : St} {H : Hp} {s : Shared} {a dx : Addr} {fs : List (Str × V)} {f : Addr} {R : Shared → Prop} {Q : Bool → Shared → Prop} (I : Inv X pins σ H s) (ea : H a = some (.ins C dx fs)) (hs : findIn X.K (.ref C) "__len__" = some (some (.ref f))) (hf : isFn X.K (.ref f) = true)
    (hc : wpAny (model X.prog X.w) A.in1 (call (.ref f) [.ref a]) (fun r s' => ∃ (n : Nat) (t : Tok), r = .int (n : Int) t ∧ n ≤ sizeLine ∧ ∀ k, R { s' with toks := k }) (fun _ _ => False) s) (hQ : ∀ b s', R s' → Q b s') :
    wpAny (model X.prog X.w) A (Builtin.List.listLengthHint (.ref a)) Q X.xe s := by
  obtain ⟨od, J⟩ := inst_of I ea
  obtain ⟨m, fr⟩ := I.fr
  unfold Builtin.List.listLengthHint
  refine wpAny_bind (wpAny_bind (J.type.here ((looks_findIn I.kIn hs).here ?_)))
  refine KFB.if_not rfl ?_
  rw [if_pos (show (some (Value.ref f)).isSome = true from rfl)]
  refine wpAny_bind (wpAny_rule (wpAny_bind (wpAny_attempt ?_)))
  refine len_K fr I.ok.mod.kin J hs hf (wpAny_mono hc (fun r s' hr => ?_) fun e s' he => he.elim)
  obtain ⟨n, t, rfl, hn, hR⟩ := hr
  refine ⟨⟨by omega, by rw [sizeLine_eq] at hn; omega⟩, ?_⟩
  refine wpAny_bind (wpAny_pure ?_)
  dsimp only
  have hk : Builtin.List.listTooLong ((n : Int)).toNat = false := by
    unfold Builtin.List.listTooLong
    rw [Int.toNat_natCast]
    exact decide_eq_false (by omega)
  rw [if_neg (by rw [hk]; exact Bool.false_ne_true)]
  exact wpAny_pure (hQ _ _ (hR _))
/-- list(o), o of a class whose __iter__ gives iter(self.f) and whose __len__ gives len(self.f) -/
theorem call_listF {g : Str} {kI kL n : Nat} {psI psL : List Str} (FI : MtG X.prog X.w X.K X.mg X.base CX0 n C "__iter__" psI (spIterF C g)) (FL : MtG X.prog X.w X.K X.mg X.base CX0 n C "__len__" psL (spLenF C g)) (hc : X.calm = true) (hr : Room (n + 3) X.A) :
    CallR X (.type "list") (rListF C g) := by
  obtain ⟨fI, fdI, mI, bI, GI⟩ := FI.ex
  obtain ⟨fL, fdL, mL, bL, GL⟩ := FL.ex
  intro pins s σ H xs us Q I rv h
  obtain ⟨a, dx, fs, d, kvs, rfl, ea, hf, hd, hq⟩ := h
  obtain ⟨u, rfl, ru⟩ := rv.one
  cases ru
  have sb : Sub X (n + 1) X.A.in1.in1 := Sub.in1 (Sub.in1 (⟨hr, rfl⟩ : Sub X (n + 3) X.A))
  refine callType_codes (Q₁ := fun obj s₁ => obj = .ref s.heap.objs.size ∧ s₁ = { s with heap := s.heap.push { cls := .type "list", data := .seq #[] } }) PySem.F.called_list (PySem.F.typeCall_list_1 _) PySem.F.entry_list_init
    (code_list_new _ ⟨rfl, rfl⟩) fun obj s₁ h₁ => ?_
  obtain ⟨rfl, rfl⟩ := h₁
  have hS : (s.heap.push { cls := .type "list", data := .seq #[] }).get? s.heap.objs.size = some { cls := .type "list", data := .seq #[] } := Heap.get?_push_size _ rfl
  refine ⟨⟨_, hS, rfl⟩, PySem.F.args_list_init_2 _ _, ?_⟩
  have fr : H s.heap.objs.size = none := I.hok.fresh (Nat.le_refl _)
  have I1 : Inv X pins σ (upd H s.heap.objs.size (.lst [])) { s with heap := s.heap.push { cls := .type "list", data := .seq #[] } } := I.lnew (its := []) (t' := s.toks) .nil (Nat.zero_le _)
  show wpAny _ _ (do let old ← Builtin.List.listItems (.ref s.heap.objs.size); Builtin.List.listUpdate (.ref s.heap.objs.size) (fun _ => #[]); letGo old.toList.reverse; Builtin.List.listExtendWith (.ref s.heap.objs.size) (.ref a) .none) _ _ _
  refine wpAny_bind ?_
  unfold Builtin.List.listItems
  refine wpAny_bind (wpAny_seqItems hS rfl (wpAny_pure ?_))
  show wpAny _ _ (updateSeq s.heap.objs.size (fun _ => #[]) >>= fun _ => letGo (#[] : Array Value).toList.reverse >>= fun _ => Builtin.List.listExtendWith (.ref s.heap.objs.size) (.ref a) .none) _ _ _
  refine wpAny_bind (wpAny_updateSeq hS rfl ?_)
  have I2 := I1.lset (f := fun _ => #[]) (its := []) (its' := []) (ys := []) (t' := s.toks) upd_same hS rfl .nil (Nat.zero_le _)
  rw [upd_upd] at I2
  refine wpAny_bind (wpAny_letGo ?_)
  have nqa : a ≠ s.heap.objs.size := ne_of_none ea fr
  have nqd : d ≠ s.heap.objs.size := ne_of_none hd fr
  have nad : a ≠ d := ne_of ea hd (fun z => nomatch z)
  have hsz0 : X.s_0.heap.objs.size ≤ s.heap.objs.size := I.sz
  generalize s.heap.objs.size = q at *
  generalize ({ s with heap := (s.heap.push { cls := .type "list", data := .seq #[] }).update q (Obj.mapSeq fun _ => #[]), toks := s.toks } : Shared) = s2 at I2 ⊢
  have ed2 : upd H q (.lst []) d = some (.dK kvs) := by rw [upd_ne nqd]; exact hd
  obtain ⟨od, I3⟩ := I2.lock ed2 True.intro
  generalize eH3 : upd (upd H q (.lst [])) d (.frz od (.dK kvs)) = H3 at I3
  have ea3 : H3 a = some (.ins C dx fs) := by rw [← eH3, upd_ne nad, upd_ne nqa]; exact ea
  have ed3 : H3 d = some (.frz od (.dK kvs)) := by rw [← eH3]; exact upd_same
  have eq3 : H3 q = some (.lst []) := by rw [← eH3, upd_ne (Ne.symm nqd)]; exact upd_same
  obtain ⟨ox, J⟩ := inst_of I3 ea3
  obtain ⟨m0, hF⟩ := I3.fr
  unfold Builtin.List.listExtendWith
  refine wpAny_bind (J.type.here ?_)
  have h1 : Builtin.List.listSameRef (.ref q) (.ref a) = false := by simp [Builtin.List.listSameRef, Ne.symm nqa]
  have h2 : (Value.ref C == Value.type "list") = false := rfl
  have h3 : (Value.ref C == Value.type "tuple") = false := rfl
  simp only [h1, h2, h3, Bool.or_false, Bool.false_eq_true, if_false]
  refine wpAny_bind (PySem.W.owit_iter hF I3.ok.mod.kin J mI.at_ mI.fn (thn (run_sub (E := E0) (us := [.ref a]) (vs := [.ref a]) (Q := fun v H4 => ∃ it, v = .ref it ∧ H3 it = none ∧ (∀ b o, H3 b = some o → b < it) ∧ H4 = upd H3 it (KeyO d it kvs.length (epOf od))) (sb.mono (Nat.le_succ _)) GI bI (passAt0 σ) I3 (.cons rfl .nil)
    ⟨a, dx, fs, d, od, kvs, rfl, ea3, hf, ed3, fun it h1 h2 => ⟨it, rfl, h1, h2, rfl⟩⟩) fun r s4 hr4 => ?_))
  obtain ⟨v, H4, I4, rv4, it, ev, nit, old, eH4⟩ := hr4
  subst ev
  subst eH4
  obtain rfl : r = Value.ref it := rv4
  have nia : a ≠ it := ne_of_none ea3 nit
  have nid : d ≠ it := ne_of_none ed3 nit
  have niq : q ≠ it := ne_of_none eq3 nit
  have hK : s4.heap.IsKeyIter it d 0 kvs.length (epOf od) := by
    obtain ⟨z, _⟩ := I4.hok it _ upd_same
    exact z
  unfold PySem.W.OwitIt
  refine wpAny_specialOf (name := Str.ofString "__next__") hK.typeIs PySem.F.slot_dict_keyiterator_next.lookup ?_
  have ea4 : upd H3 it (KeyO d it kvs.length (epOf od)) a = some (.ins C dx fs) := by rw [upd_ne nia]; exact ea3
  have ed4 : upd H3 it (KeyO d it kvs.length (epOf od)) d = some (.frz od (.dK kvs)) := by rw [upd_ne nid]; exact ed3
  have hz : kvs.length ≤ sizeLine := (dk_rd (kvs := kvs) I4.hok (.inr ⟨od, ed4⟩)).1
  have sb0 : Sub X (n + 1) X.A.in1.in1 := sb
  have fin : ∀ (s' : Shared), Inv X pins σ (upd H3 it (KeyO d it kvs.length (epOf od))) s' → codeAny (model X.prog X.w) X.A.in1 (.builtin "list.extend.loop" ⟨[.ref q, .ref it, .none], []⟩) (wants (fun r s₂ => r = Value.none ∧ EP X pins σ Q (Value.ref q) s₂) X.xe) s' := by
    intro s' I5
    have hK5 : s'.heap.IsKeyIter it d 0 kvs.length (epOf od) := by
      obtain ⟨z, _⟩ := I5.hok it _ upd_same
      exact z
    have I6 := ItX.inv_drop I5 (φ := fun h => h.IsKeyIter it d 0 kvs.length (epOf od)) upd_same
    have fp := ItX.inv_fp I5 (upd_same (a := it)) (Nat.le_trans hsz0 (Nat.le_of_lt (old q _ eq3)))
    rw [ItX.dropH_upd nit] at I6 fp
    have e0 : upd H3 q (.lst ((kvs.map fun p => kV p.1).take 0)) = H3 := by
      funext b
      by_cases hb : b = q
      · rw [hb, upd_same, eq3]
        rfl
      · rw [upd_ne hb]
    refine key_fill (A1 := X.A.in1) (H0 := H3) ed3 nqd rfl (I.ok.hd hc) fp (Ne.symm niq) (fun s6 I7 => ?_) kvs.length 0 s' (by omega) (Nat.zero_le _) (by rw [e0]; exact I6) hK5
    refine ⟨rfl, .ref q, _, ?_, rfl, hq q fr⟩
    have ed7 : upd H3 q (.lst (kvs.map fun p => kV p.1)) d = some (.frz od (.dK kvs)) := by rw [upd_ne nqd]; exact ed3
    have I8 := I7.unlock ed7 (I.nofrz hd True.intro)
    have eH : upd (upd H3 q (.lst (kvs.map fun p => kV p.1))) d (.dK kvs) = upd H q (.lst (kvs.map fun p => kV p.1)) := by
      funext b
      by_cases hb : b = d
      · rw [hb, upd_same, upd_ne nqd, hd]
      · rw [upd_ne hb]
        by_cases hb2 : b = q
        · rw [hb2, upd_same, upd_same]
        · rw [upd_ne hb2, upd_ne hb2, ← eH3, upd_ne hb, upd_ne hb2]
    rw [eH] at I8
    exact I8
  have I4n : Inv X.nox pins σ (upd H3 it (KeyO d it kvs.length (epOf od))) s4 := I4.wish _
  refine wpAny_bind (wpAny_holding (wpAny_mono (hint_own (X := X.nox) (R := fun s' => Inv X pins σ (upd H3 it (KeyO d it kvs.length (epOf od))) s') I4n ea4 mL.at_ mL.fn ?_ fun b s' h => h) (fun b s5 I5 => ?_) fun _ _ z => False.elim z))
  · refine thn (run_sub (X := X.nox) (E := E0) (us := [.ref a]) (vs := [.ref a]) (Q := fun v H5 => v = .int (kvs.length : Int) ∧ H5 = upd H3 it (KeyO d it kvs.length (epOf od))) (n := n) (⟨sb0.room.in1, sb0.fr⟩) GL bL (passAt0 σ) I4n (.cons rfl .nil)
      ⟨a, dx, fs, d, kvs, rfl, ea4, hf, .inr ⟨od, ed4⟩, rfl, rfl⟩) fun r s5 hr5 => ?_
    obtain ⟨v, H5, I5, rv5, ev, eH5⟩ := hr5
    subst ev
    subst eH5
    obtain ⟨t, rfl⟩ := rv5
    exact ⟨kvs.length, t, rfl, hz, fun k => (I5.tok k).wish _⟩
  · refine wpAny_ite_split (fun _ => ?_) (fun _ => wpAny_pure ⟨plainId_quiet PySem.F.plain_extend_loop _, fin _ I5⟩)
    refine wpAny_bind (wpAny_rule ?_)
    have eq5 : upd H3 it (KeyO d it kvs.length (epOf od)) q = some (.lst []) := by rw [upd_ne niq]; exact eq3
    obtain ⟨z, its, kk, r3, hl3, e3⟩ := I5.lstM eq5
    cases r3
    refine wpAny_bind ?_
    show wpAny _ _ (updateSeq q (·.push .none) >>= fun _ => updateSeq q (·.pop)) _ _ _
    refine wpAny_bind (wpAny_updateSeq e3 rfl ?_)
    have I6 := I5.lset (f := (·.push Value.none)) (its' := [Value.none]) (ys := [.non]) (t' := s5.toks) eq5 e3 (by simp) (.cons rfl .nil) (by rw [List.length_singleton, sizeLine_eq]; decide)
    obtain ⟨z4, its4, k4, r4, hl4, e4⟩ := I6.lstM upd_same
    obtain ⟨u4, rfl, ru4⟩ := r4.one
    refine wpAny_updateSeq e4 rfl ?_ (by show 1 ≤ sizeLine; rw [sizeLine_eq]; decide) (by show 0 ≤ sizeLine + 1; exact Nat.zero_le _)
    have I7 := I6.lset (f := (·.pop)) (its := [u4]) (its' := []) (ys := []) (t' := s5.toks) upd_same e4 (by rfl) .nil (Nat.zero_le _)
    rw [upd_upd] at I7
    have hH : upd (upd H3 it (KeyO d it kvs.length (epOf od))) q (.lst []) = upd H3 it (KeyO d it kvs.length (epOf od)) := by
      funext b
      by_cases hb : b = q
      · rw [hb, upd_same, eq5]
      · rw [upd_ne hb]
    rw [hH] at I7
    exact wpAny_pure ⟨plainId_quiet PySem.F.plain_extend_loop _, fin _ I7⟩
end
end K64
/-! ## KLam -/
set_option Elab.async false
set_option linter.all false
set_option maxRecDepth 100000
set_option maxHeartbeats 2000000
namespace K64
open PySem PySem.Spec PyProof.Rows L2 LamX
section
variable {X : Cx} {pins : List (Addr × Obj)} {σ : L2.St} {H : Hp} {s : Shared}
/-- the function that a lambda's display gives, and its name -/
abbrev lamObj (X : Cx) (params : Arguments) (body : Expr) (scope : Scope) (pm : Value) (c' : Addr) (ctv : Value) : Obj := PySem.W.kla_obj "<lambda>" (X.env.qual ++ "<lambda>") params body scope (cloFrom X.env.cells scope.names []) pm c' ctv
/-- a table grows by one entry -/
theorem tabS_grow {H : Hp} {P c' : Addr} {nm : Str} {ps : Array Value} {pos : Pos} (nC : H c' = none) (hP : H P = some (.tbl ps)) (ht : TriplesOk ps.toList) (ha : ∀ p cv, codeAmong p ps.toList = some cv → ∃ c0, cv = .ref c0 ∧ H c0 = some (CodeO c0 nm)) :
    TabS (upd (upd H P (.tbl (ps ++ #[rawInt pos.line, rawInt pos.col, .ref c']))) c' (CodeO c' nm)) P nm := by
  have el : (ps ++ #[rawInt pos.line, rawInt pos.col, Value.ref c']).toList = ps.toList ++ [rawInt pos.line, rawInt pos.col, .ref c'] := by simp
  refine ⟨_, (upd_ne (ne_of_none hP nC)).trans upd_same, by rw [el]; exact PySem.TriplesOk_snoc _ _ _ _ ht, ?_⟩
  intro p cv hcv
  rw [el] at hcv
  rcases among_app _ ht hcv with z | z
  · obtain ⟨c0, k1, k2⟩ := ha p cv z
    refine ⟨c0, k1, ?_⟩
    have n1 : c0 ≠ P := fun e => codeO_ne ps (Option.some.inj (k2.symm.trans (by rw [e]; exact hP)))
    rw [upd_ne (ne_of_none k2 nC), upd_ne n1]
    exact k2
  · exact ⟨c', z, upd_same⟩
/-- as the kit's, and nothing is lost on the way -/
theorem lam_make3 {T : List (Addr × Str)} {c P : Addr} {params : Arguments} {body : Expr} {scope : Scope} {pos : Pos} {E : Value → Shared → Prop} {Q : Value → Shared → Prop} (I : Inv X pins σ H s) (TB : TabB X.base X.mg c P) (hcode : X.env.code = .ref c)
    (hm : (P, X.env.qual ++ "<lambda>") ∈ T) (hu : ∀ p ∈ T, p.1 = P → p.2 = X.env.qual ++ "<lambda>") (hT : Tabs T H) (hdef : defaultsOf params X.env = ([], [])) (hfree : ∀ y ∈ scope.names, y.2 = .free → ∃ c, X.env.cells.lookup y.1 = some c)
    (h : ∀ (f c' : Addr) (pm ctv : Value) (H1 : Hp) (s' : Shared), Inv X pins σ H1 s' → (∀ b o, H b = some o → (∀ ps, o ≠ .tbl ps) → H1 b = some o) → Tabs T H1 → (∀ b, H1 b = none → H b = none) →
      s'.heap.get? f = some (lamObj X params body scope pm c' ctv) → H1 f = none → f ∉ frs X.stack → H1 c' = some (CodeO c' (X.env.qual ++ "<lambda>")) → Q (.ref f) s') :
    wpAny (model X.prog X.w) X.A (eval (.Lambda params body scope pos) X.env) Q E s := by
  have out : ∀ f, s.heap.objs.size ≤ f → f ∉ frs X.stack := fun f hf z => (List.mem_cons.mp (I.stkSub _ z)).elim (fun e => by have q := I.lt; rw [← e] at q; exact Nat.lt_irrefl _ (Nat.lt_of_lt_of_le q hf)) (I.nofs hf)
  obtain ⟨ps, hP, ht, ha⟩ := hT _ hm
  have bP : s.heap.BuiltinsAt X.mg P := TB.bm.keeps I.bk
  have gP : s.heap.get? P = some { cls := .none, data := .fields ps } := I.hok P _ hP
  have lP := Heap.lt_size gP
  have cP := TB.code.keeps I.bk
  have gG := I.mod.glob.keeps I.bk
  refine PySem.W.kla_eval hdef ?_
  cases hc : codeAmong pos ps.toList with
  | some cv =>
    obtain ⟨c', rfl, hco⟩ := ha pos cv hc
    refine PySem.W.kla_makeFunctionHit (mg := X.mg) (c := c) (P := P) (ps := ps) (closure_ok hfree) I.ok.glob gG hcode cP gP ht hc bP fun ctv h' tk hx hz => ?_
    exact h h'.objs.size c' _ ctv H _ (I.kept fun b o e => Heap.get?_push_of_some _ (hx b o e)) (fun b o e _ => e) hT (fun b e => e) (Heap.get?_push_size _ rfl) (I.hok.fresh hz) (out _ hz) hco
  | none =>
    refine PySem.W.kla_makeFunction (mg := X.mg) (c := c) (P := P) (ps := ps) (closure_ok hfree) I.ok.glob gG hcode cP gP ht hc TB.gP bP fun c' ctv h' tk hx hge hlt hrec htb => ?_
    obtain ⟨c2, oc, vs, t, e2, hoc, hd, hv⟩ := hrec
    cases e2
    have nC : H c' = none := I.hok.fresh hge
    have nF : s.heap.objs.size ≤ h'.objs.size := by omega
    have J := inv_table (t' := tk) (more := #[rawInt pos.line, rawInt pos.col, .ref c']) (h' := h'.push (lamObj X params body scope ((X.mg "__name__").getD .none) c' ctv)) I hP (fun b o hb e => Heap.get?_push_of_some _ (hx b o hb e)) (Heap.get?_push_of_some _ htb) hge ⟨oc, vs, t, Heap.get?_push_of_some _ hoc, hd, hv⟩
    have ext : ∀ b o, H b = some o → (∀ ps, o ≠ .tbl ps) → upd (upd H P (.tbl (ps ++ #[rawInt pos.line, rawInt pos.col, .ref c']))) c' (CodeO c' (X.env.qual ++ "<lambda>")) b = some o := fun b o e n => by
      have nb : b ≠ P := fun z => by
        rw [z, hP] at e
        exact n ps (Option.some.inj e).symm
      rw [upd_ne (ne_of_none e nC), upd_ne nb]
      exact e
    refine h h'.objs.size c' _ ctv _ _ J ext (fun p hp => ?_) (fun b e => ?_) (Heap.get?_push_size _ rfl) ?_ (out _ nF) upd_same
    · by_cases hb : p.1 = P
      · rw [hu p hp hb, hb]
        exact tabS_grow nC hP ht ha
      · obtain ⟨qs, k1, k2, k3⟩ := hT p hp
        refine ⟨qs, (upd_ne (ne_of_none k1 nC)).trans ((upd_ne hb).trans k1), k2, fun p' cv hcv => ?_⟩
        obtain ⟨c0, j1, j2⟩ := k3 p' cv hcv
        exact ⟨c0, j1, ext _ _ j2 codeO_ne⟩
    · by_cases hbc : b = c'
      · rw [hbc, upd_same] at e
        cases e
      · rw [upd_ne hbc] at e
        by_cases hbP : b = P
        · rw [hbP, upd_same] at e
          cases e
        · rw [upd_ne hbP] at e
          exact e
    · rw [upd_ne (Nat.ne_of_gt hlt), upd_ne (Nat.ne_of_gt (Nat.lt_of_lt_of_le lP nF))]
      exact I.hok.fresh nF
/-- a() in the def that got the lambda; what the lambda's body raises is wished for at the slots of the call -/
theorem pe_actX {CXg : CXT} {Eg : XK} {Ng : List Str} {qg : Str} {sg : Scope} {g f c' : Addr} {cdg pm ctv : Value} {params : Arguments} {body : Expr} {scope : Scope} {k i : Nat} {a : Str} {pn : List (Addr × Obj)} {xe : Value → Shared → Prop} {W : WX} {tb : XK → TE} {p1 p2 : Pos}
    (I : Inv X pins σ H s) (L : LamS X.env.scope scope) (hf : s.heap.get? f = some (PySem.W.kla_obj "<lambda>" (X.env.qual ++ "<lambda>") params body scope (cloFrom X.env.cells scope.names []) pm c' ctv)) (hfn : H f = none) (hfr : f ∉ frs X.stack)
    (hbind : bindArgs (PySem.W.kla_fn "<lambda>" (X.env.qual ++ "<lambda>") params body scope (cloFrom X.env.cells scope.names []) pm (.ref c') ctv) ⟨[], []⟩ = pure [])
    (tk : Takes ((cxOf CXg X.prog X.w X.K X.mg X.base Ng qg sg g cdg X.A X.stack s H Eg).tr pn xe) W) (hr : Room (k + 1) (X.A.deeper (envOfC qg sg s.heap.objs.size g cdg)))
    (hbody : ∀ (E : XK) (A : Around) (outer : List Env) (s : Shared) (H : Hp), Room k (A.deeper (lamEnv X scope s.heap.objs.size f c')) → PE (lamCx X A outer s H E scope f c') body (tb E))
    (hN : Ng[i]? = some a) (hv : Vis sg a) (hd : (a == ("__debug__" : Str)) = false := by decide) (hcd : (a == ("__classdict__" : Str)) = false := by decide) :
    PE ((cxOf CXg X.prog X.w X.K X.mg X.base Ng qg sg g cdg X.A X.stack s H Eg).tr pn xe) (.Call (.Name a p1) [] [] p2)
      (fun σZ HZ Q => σZ[i]? = some (some (.ref f)) ∧ HZ c' = some (CodeO c' (X.env.qual ++ "<lambda>")) ∧ tb (WE W σZ) σ HZ Q) := by
  refine ⟨fun pinsZ sZ σZ HZ Q IZ ⟨hs, hc, ht⟩ => ?_⟩
  have run0 := (pe_var (pos := p1) (i := i) hN hv hd hcd).run pinsZ sZ σZ HZ (fun v H1 => v = .ref f ∧ H1 = HZ) IZ ⟨.ref f, hs, rfl, rfl⟩
  refine wpAny_Call_Name_kw (thn run0 fun u s1 ⟨v, H1, I1, r1, ev, eH⟩ => ?_)
  subst ev
  subst eH
  obtain rfl : u = Value.ref f := r1
  have of1 : s1.heap.get? f = some (PySem.W.kla_obj "<lambda>" (X.env.qual ++ "<lambda>") params body scope (cloFrom X.env.cells scope.names []) pm c' ctv) :=
    I1.base.keep f _ hf hfn hfr (fun z => nomatch (show f ∈ ([] : List Addr) from z))
  have un : Un (frs X.stack) [] H H1 s.heap s1.heap := I1.base
  obtain ⟨⟨oc, vs, t, hoc, hdc, hvc⟩, _, _⟩ := I1.hok c' _ hc
  refine PySem.W.callWith_F0 ⟨_, _, _, _, of1⟩ ?_
  have rc : codeAny (model X.prog X.w) (X.A.deeper (envOfC qg sg s.heap.objs.size g cdg)) (.call (.ref f) ⟨[], []⟩) (CR (L2.CX X.prog X.w) (envOfC qg sg s.heap.objs.size g cdg :: X.stack) X.prog X.w H1 s1 Q (WE W σZ)) s1 := by
    refine PySem.W.kla_callFunE hr.depth of1 rfl L.co L.gen rfl ⟨c', oc, vs, t, rfl, hoc, hdc, hvc⟩ ?_
    rw [hbind]
    refine wpAny_pure (wpAny_newFunctionEnv (fun y hy => (L.own y hy).2) (fun y hy => absurd hy (by simp)) (fun h₁ hns hsb => ⟨I1.nolimit.fresh _ hsb, ?_⟩) L.kind)
    show codeAny _ _ (.expr body (lamEnv X scope s1.heap.objs.size f c')) _ _
    have kp : ∀ b o, s1.heap.get? b = some o → h₁.get? b = some o := fun b o e => hsb.extBut b o (Nat.ne_of_lt (Heap.lt_size e)) (Heap.get?_push_of_some _ e)
    have J := lam_start2 (f := f) (c' := c') (E := WE W σZ) (tk := s1.toks + ([] : List (Str × Value)).length) I L I1.env0 hr.hd un hns kp
    have run1 := (hbody (WE W σZ) _ _ s1 H1 (hr.deeper _)).run [] _ _ H1 Q J ht
    refine PySem.W.kla_codeExpr (wpAny_mono run1 (fun v s' ⟨w', H', J', rv, q⟩ => ?_) fun e s' hq => hq)
    exact ⟨w', H', J'.os, J'.bare, J'.base, J'.hok, rv, q⟩
  refine wpAny_call (codeAny_mono rc fun r s' hq => ?_)
  cases r with
  | error e => exact passAt tk σZ pinsZ H1 s1 e s' I1 hq
  | ok fl =>
    cases fl with
    | ret u => exact I1.after hq
    | next => exact False.elim hq
    | brk => exact False.elim hq
    | cont => exact False.elim hq
/-- the method that calls what it got as its second parameter, at any place of call -/
def GivesM (X : Cx) (Ng : List Str) (x a : Str) (sg : Scope) (g : Addr) (cdg : Value) (bg : List Stmt) (q : Str) (TT : Addr → (XK → Hp → VK → Prop) → Hp → VK → XK → Prop) : Prop :=
  ∀ (o f c' : Addr) (s : Shared) (H : Hp) (Q : VK) (Eg : XK) (tl : XK → Hp → VK → Prop),
    (∀ (W : WX) (pn : List (Addr × Obj)) (xe : Value → Shared → Prop) (p1 p2 : Pos), Takes ((cxOf (L2.CX X.prog X.w) X.prog X.w X.K X.mg X.base Ng x sg g cdg X.A X.stack s H Eg).tr pn xe) W →
      PE ((cxOf (L2.CX X.prog X.w) X.prog X.w X.K X.mg X.base Ng x sg g cdg X.A X.stack s H Eg).tr pn xe) (.Call (.Name a p1) [] [] p2) (fun σZ HZ Q => σZ[1]? = some (some (.ref f)) ∧ HZ c' = some (CodeO c' q) ∧ tl (WE W σZ) HZ Q)) →
    H c' = some (CodeO c' q) → TT o tl H Q Eg → ∀ (k : Nat), Room k ((cxOf (L2.CX X.prog X.w) X.prog X.w X.K X.mg X.base Ng x sg g cdg X.A X.stack s H Eg)).A → 
    ∃ t, PSs (cxOf (L2.CX X.prog X.w) X.prog X.w X.K X.mg X.base Ng x sg g cdg X.A X.stack s H Eg) bg t ∧ t { nx := fun _ H' => Q .non H', rt := Q } (L2.start Ng [.ref o, .ref f]) H
def tLamM (T : List (Addr × Str)) (C : Addr) (m : Str) (TT : Addr → (XK → Hp → VK → Prop) → Hp → VK → XK → Prop) (W : WX) (to : TE) (t : XK → TE) : TE := fun σ H Q => to σ H fun x H1 => ∃ a dx fs, x = .ref a ∧ H1 a = some (.ins C dx fs) ∧ fs.lookup m = none ∧
  Tabs T H1 ∧ ∀ H2, (∀ b o, H1 b = some o → (∀ ps, o ≠ .tbl ps) → H2 b = some o) → Tabs T H2 → (∀ b, H2 b = none → H1 b = none) → TT a (fun E H' Q' => t E σ H' Q') H2 Q (WE W σ)
/-- o.m(lambda: body) -/
theorem pe_lamM {T : List (Addr × Str)} {C : Addr} {TT : Addr → (XK → Hp → VK → Prop) → Hp → VK → XK → Prop} {W : WX} {m nm x a : Str} {g c P : Addr} {k : Nat} {pg : Arguments} {bg : List Stmt} {sg : Scope} {dV kV doc pm cdv ct oc : Value} {an od : Option Addr} {osl : Array (Option Value)} {Ng : List Str} {y0 : Str}
    {params : Arguments} {body : Expr} {scope : Scope} {o : Expr} {to : TE} {t : XK → TE} {apos lpos pos : Pos} {pl : Sem Bool} (ho : PE X o to) (cl : Cls X.K C) (hm : Meth X.K C m g)
    (lk : X.K.lookup g = some ⟨oc, od, .func (PySem.W.fnOf nm x pg bg sg dV kV doc pm an cdv ct), osl⟩) (hcg : PySem.W.codeIn X.K cdv x = true) (hb : L2.Binds X.K (PySem.W.fnOf nm x pg bg sg dV kV doc pm an cdv ct) [y0, a] []) (Sg : FnScope Ng [y0, a] sg) (hNg : Ng[1]? = some a) (hva : Vis sg a)
    (hG : GivesM X Ng x a sg g cdv bg (X.env.qual ++ "<lambda>") TT) (tkX : Takes X W)
    (TB : TabB X.base X.mg c P) (hcode : X.env.code = .ref c) (hmT : (P, X.env.qual ++ "<lambda>") ∈ T) (hu : ∀ p ∈ T, p.1 = P → p.2 = X.env.qual ++ "<lambda>") (hr : Room (k + 2) X.A) (L : LamS X.env.scope scope) (hdef : defaultsOf params X.env = ([], []))
    (hbind : ∀ (q : Str) (cl : List (Str × Addr)) (pm cv ctv : Value), bindArgs (PySem.W.kla_fn "<lambda>" q params body scope cl pm cv ctv) ⟨[], []⟩ = pure [])
    (hbody : ∀ (E : XK) (A : Around) (outer : List Env) (s : Shared) (H : Hp) (f c' : Addr), Room k (A.deeper (lamEnv X scope s.heap.objs.size f c')) → PE (lamCx X A outer s H E scope f c') body (t E))
    (ht : eval (.Call (.Attribute o m apos) [.Lambda params body scope lpos] [] pos) X.env = (do
      let ov ← eval o X.env
      standAt apos.atName
      let (f, first) ← holding [ov] (getMethod ov m pl)
      callWith pos f first (backTo pos (starEach [.Lambda params body scope lpos] X.env)) (backToKw pos (keywordEach [] X.env))) := by rfl)
    (hd : (a == ("__debug__" : Str)) = false := by decide) (hcd : (a == ("__classdict__" : Str)) = false := by decide) :
    PE X (.Call (.Attribute o m apos) [.Lambda params body scope lpos] [] pos) (tLamM T C m TT W to t) := by
  refine ⟨fun pins s σ H Q I h => ?_⟩
  refine PySem.W.methodCall_KW (pl := pl) (thn (ho.run pins s σ H _ I h) fun u s1 ⟨x1, H1, I1, rx, a1, dx, fs, ex, ea, l, hT, q⟩ => ?_) ht
  subst ex
  obtain rfl : u = Value.ref a1 := rx
  refine getmeth_ok I1 ea cl hm l ?_
  refine PySem.W.callWith_K (first := [.ref a1]) (h₀ := X.base) I.ok.mod.kin hm.kp ?_ (by rfl) (by rfl)
  show wpAny _ _ (spliced ((false, eval (.Lambda params body scope lpos) X.env) :: backTo pos (starEach [] X.env))) _ _ s1
  refine Calls.spliced_cons (lam_make3 I1 TB hcode hmT hu hT hdef (L.has I.ok) fun f c' pm' ctv H2 s' I2 eN T1 old hf hfn hfr hco => ?_)
  refine Calls.spliced_nil ⟨I2.kIn, ?_⟩
  have rc : codeAny (model X.prog X.w) X.A (.call (.ref g) ⟨[.ref a1, .ref f], []⟩) (CR (L2.CX X.prog X.w) X.stack X.prog X.w H2 s' Q (WE W σ)) s' := by
    refine run_ofS (N := Ng) (ps := [y0, a]) (us := [.ref a1, .ref f]) (vs := [.ref a1, .ref f]) lk hcg Sg hr I2.env0 (hb s' [.ref a1, .ref f] I2.kIn rfl) (.cons rfl (.cons rfl .nil)) rfl fun hr' => ?_
    refine hG a1 f c' s' H2 Q (WE W σ) (fun E H' Q' => t E σ H' Q') (fun W2 pn xe p1 p2 tk => ?_) hco (q H2 eN T1 old) _ hr'
    exact pe_actX (i := 1) I2 L hf hfn hfr (hbind _ _ _ _ _) tk hr' (fun E A outer s H hr2 => hbody E A outer s H f c' hr2) hNg hva hd hcd
  refine wpAny_call (codeAny_mono rc fun r s2 hq => ?_)
  cases r with
  | error e => exact passAt tkX σ pins H2 s' e s2 I2 hq
  | ok fl =>
    cases fl with
    | ret u => exact I2.after hq
    | next => exact False.elim hq
    | brk => exact False.elim hq
    | cont => exact False.elim hq
end
end K64
/-! ## KRules3 -/
set_option Elab.async false
set_option linter.all false
set_option maxRecDepth 100000
set_option maxHeartbeats 2000000
namespace K64
open PySem PySem.Spec PyProof.Rows L2
theorem pass0X {X : Cx} : Passes (L2.CX X.prog X.w) X E0 := fun _ _ _ _ _ _ _ c => by
  obtain ⟨_, _, _, _, _, _, _, _, _, _, _, _, z⟩ := c
  exact z.elim
theorem pass0XS {X : Cx} (σ : St) : PassesAt (L2.CX X.prog X.w) X σ E0 := fun _ _ _ _ _ _ c => by
  obtain ⟨_, _, _, _, _, _, _, _, _, _, _, _, z⟩ := c
  exact z.elim
/-- a def that may raise, taken so that it does not -/
theorem passE {X : Cx} {E : XK} (tk : Takes X (fun cls d _ H => E cls d H)) : Passes (L2.CX X.prog X.w) X E := passes_call tk fun _ _ _ _ h => h
section
variable {X : Cx} {CX : CXT} {j k i : Nat} {C : Addr} {ps : List Str} {sp : Sp} {W : WX} {E : XK} {x m : Str} {p pos apos : Pos} {e o : Expr} {es : List Expr} {ta te : TE} {t : TA}
/-- f(..), f may raise, here it does not -/
theorem pe_fnN (F : FnG X.prog X.w X.K X.mg X.base (L2.CX X.prog X.w) k x ps sp) (hr : Room j X.A) (ha : PA X (e :: es) t) (hk : k ≤ j := by decide) (hg : Gl X x := by rfl) (hdb : (x == ("__debug__" : Str)) = false := by decide)
    (he : starEach (e :: es) X.env = (false, eval e X.env) :: starEach es X.env := by rfl) (hpl : (backTo pos (starEach es X.env)).any (·.1) = false := by rfl) : PE X (.Call (.Name x p) (e :: es) [] pos) (tCallS sp (fun _ => E0) t) := by
  obtain ⟨f, fd, hm, hkp, hb, G⟩ := F.ex
  exact pe_callS (E := fun _ => E0) G (hr.mono hk) hg hm hkp hb (fun σ => pass0XS σ) ha hdb he hpl
/-- C(..), C by its name -/
theorem pe_mk (M : MkG X.prog X.w X.K X.mg X.base CX k C x ps sp) (hr : Room j X.A) (hx : Passes CX X E) (ha : PA X (e :: es) t) (hk : k + 1 ≤ j := by decide) (hg : Gl X x := by rfl) (hdb : (x == ("__debug__" : Str)) = false := by decide)
    (he : starEach (e :: es) X.env = (false, eval e X.env) :: starEach es X.env := by rfl) (hpl : (backTo pos (starEach es X.env)).any (·.1) = false := by rfl) : PE X (.Call (.Name x p) (e :: es) [] pos) (tMake C sp [] E t) := by
  obtain ⟨f, fd, hm, hM, hb, G⟩ := M.ex
  exact pe_make hM G (hr.mono hk) hg hm hb .nil hx ha hdb he hpl
theorem pe_mk0 (M : MkG X.prog X.w X.K X.mg X.base CX k C x ps sp) (hr : Room j X.A) (hx : Passes CX X E) (hk : k + 1 ≤ j := by decide) (hg : Gl X x := by rfl) (hdb : (x == ("__debug__" : Str)) = false := by decide) : PE X (.Call (.Name x p) [] [] pos) (tMake C sp [] E tNil) := by
  obtain ⟨f, fd, hm, hM, hb, G⟩ := M.ex
  exact pe_make0 hM G (hr.mono hk) hg hm hb .nil hx hdb
/-- c(..), c a local name that holds the class -/
theorem pe_makeL {y : Str} (M : MkG X.prog X.w X.K X.mg X.base CX k C y ps sp) (hr : Room j X.A) (hx : Passes CX X E) (hN : X.N[i]? = some x) (hv : Vis X.env.scope x) (ha : PA X (e :: es) t) (hk : k + 1 ≤ j := by decide)
    (hdb : (x == ("__debug__" : Str)) = false := by decide) (hcd : (x == ("__classdict__" : Str)) = false := by decide)
    (he : starEach (e :: es) X.env = (false, eval e X.env) :: starEach es X.env := by rfl) (hpl : (backTo pos (starEach es X.env)).any (·.1) = false := by rfl) :
    PE X (.Call (.Name x p) (e :: es) [] pos) (fun σ H Q => σ[i]? = some (some (.ref C)) ∧ tMake C sp [] E t σ H Q) := by
  obtain ⟨f, fd, hm, hM, hb, G⟩ := M.ex
  refine ⟨fun pins s σ H Q I ⟨hs, h⟩ => ?_⟩
  refine wpAny_Call_Name_kw (thn ((pe_var (pos := p) hN hv hdb hcd).run pins s σ H (fun v H1 => v = .ref C ∧ H1 = H) I ⟨.ref C, hs, rfl, rfl⟩) fun u s1 ⟨v, H1, I1, r1, e1, e2⟩ => ?_)
  subst e1
  subst e2
  obtain rfl : u = Value.ref C := r1
  refine PySem.W.callWith_K (h₀ := X.base) I.ok.mod.kin hM.kp (thn (ha.run pos pins s1 σ _ _ I1 h) fun us s2 ⟨vs, H2, I2, r, q⟩ => ⟨I2.kIn, ?_⟩) he hpl
  exact run_make hM G (hr.mono hk) hb .nil hx I2 r q
/-- o.m(..) where nothing is raised -/
theorem pe_methN {pl : Sem Bool} (he : PE X o ta) (c : Cls X.K C) (F : MtG X.prog X.w X.K X.mg X.base (L2.CX X.prog X.w) k C m ps sp) (hr : Room j X.A) (ha : PA X (e :: es) t) (hk : k ≤ j := by decide)
    (hst : starEach (e :: es) X.env = (false, eval e X.env) :: starEach es X.env := by rfl) (hpl : (backTo pos (starEach es X.env)).any (·.1) = false := by rfl)
    (ht : eval (.Call (.Attribute o m apos) (e :: es) [] pos) X.env = (do
      let ov ← eval o X.env
      standAt apos.atName
      let (f, first) ← holding [ov] (getMethod ov m pl)
      callWith pos f first (backTo pos (starEach (e :: es) X.env)) (backToKw pos (keywordEach [] X.env))) := by rfl) :
    PE X (.Call (.Attribute o m apos) (e :: es) [] pos) (tMethS C m sp (fun _ => E0) ta t) := pe_methE he c F (hr.mono hk) (fun σ => pass0XS σ) ha hst hpl ht
theorem pe_methX {pl : Sem Bool} (he : PE X o ta) (c : Cls X.K C) (F : MtG X.prog X.w X.K X.mg X.base (L2.CX X.prog X.w) k C m ps sp) (tk : Takes X W) (hr : Room j X.A) (ha : PA X (e :: es) t) (hk : k ≤ j := by decide)
    (hst : starEach (e :: es) X.env = (false, eval e X.env) :: starEach es X.env := by rfl) (hpl : (backTo pos (starEach es X.env)).any (·.1) = false := by rfl)
    (ht : eval (.Call (.Attribute o m apos) (e :: es) [] pos) X.env = (do
      let ov ← eval o X.env
      standAt apos.atName
      let (f, first) ← holding [ov] (getMethod ov m pl)
      callWith pos f first (backTo pos (starEach (e :: es) X.env)) (backToKw pos (keywordEach [] X.env))) := by rfl) :
    PE X (.Call (.Attribute o m apos) (e :: es) [] pos) (tMethS C m sp (WE W) ta t) := pe_methE he c F (hr.mono hk) (fun σ => passAt tk σ) ha hst hpl ht
theorem pe_meth0N {pl : Sem Bool} (he : PE X o ta) (c : Cls X.K C) (F : MtG X.prog X.w X.K X.mg X.base (L2.CX X.prog X.w) k C m ps sp) (hr : Room j X.A) (hk : k ≤ j := by decide)
    (ht : eval (.Call (.Attribute o m apos) [] [] pos) X.env = (do
      let ov ← eval o X.env
      standAt apos.atName
      let (f, first) ← holding [ov] (getMethod ov m pl)
      callWith pos f first (backTo pos (starEach [] X.env)) (backToKw pos (keywordEach [] X.env))) := by rfl) :
    PE X (.Call (.Attribute o m apos) [] [] pos) (tMethS C m sp (fun _ => E0) ta tNil) := pe_meth0E he c F (hr.mono hk) (fun σ => pass0XS σ) ht
theorem pe_meth0X {pl : Sem Bool} (he : PE X o ta) (c : Cls X.K C) (F : MtG X.prog X.w X.K X.mg X.base (L2.CX X.prog X.w) k C m ps sp) (tk : Takes X W) (hr : Room j X.A) (hk : k ≤ j := by decide)
    (ht : eval (.Call (.Attribute o m apos) [] [] pos) X.env = (do
      let ov ← eval o X.env
      standAt apos.atName
      let (f, first) ← holding [ov] (getMethod ov m pl)
      callWith pos f first (backTo pos (starEach [] X.env)) (backToKw pos (keywordEach [] X.env))) := by rfl) :
    PE X (.Call (.Attribute o m apos) [] [] pos) (tMethS C m sp (WE W) ta tNil) := pe_meth0E he c F (hr.mono hk) (fun σ => passAt tk σ) ht
theorem pe_meth00 {pl : Sem Bool} (he : PE X o ta) (c : Cls X.K C) (F : MtG X.prog X.w X.K X.mg X.base CX0 k C m ps sp) (hr : Room j X.A) (hk : k ≤ j := by decide)
    (ht : eval (.Call (.Attribute o m apos) [] [] pos) X.env = (do
      let ov ← eval o X.env
      standAt apos.atName
      let (f, first) ← holding [ov] (getMethod ov m pl)
      callWith pos f first (backTo pos (starEach [] X.env)) (backToKw pos (keywordEach [] X.env))) := by rfl) :
    PE X (.Call (.Attribute o m apos) [] [] pos) (tMethS C m sp (fun _ => E0) ta tNil) := pe_meth0E he c F (hr.mono hk) (fun σ => passAt0 σ) ht
end
end K64
/-! ## KPure -/
set_option linter.all false
set_option maxRecDepth 100000
set_option maxHeartbeats 2000000
namespace K64
open PySem PySem.Spec PyProof.Rows L2
/-! ### steps -/
structure Stp where
  kind : Str
  by_ : Option Int
  rest : Option (Int × Int)
  deriving DecidableEq
abbrev iS (i : Int) : Str := ((toString i : String) : Str)
def stpText (s : Stp) : Str :=
  let t1 : Str := match s.by_ with
    | none => s.kind
    | some i => s.kind ++ (" " : Str) ++ iS i
  match s.rest with
  | none => t1
  | some (a, b) => (if s.kind = ("flip" : Str) then t1 else t1 ++ (" at" : Str)) ++ (" " : Str) ++ iS a ++ (" of " : Str) ++ iS b
def shifts : List Int := [-3, -2, -1, 1, 2, 3]
def restsAll : List (Int × Int) := [(0, 2), (1, 2), (0, 3), (1, 3), (2, 3), (0, 4), (1, 4), (2, 4), (3, 4)]
def plainK : List Str := ["turn", "deal", "undeal", "swap", "gather", "spread", "flip first", "flip last"]
def shiftT : List Str := ["-3", "-2", "-1", "1", "2", "3"]
def shiftK : List Str := ["roll", "near", "sum"]
def ofT : List Str := ["2", "3", "4"]
def atT : List Str := ["0", "1", "2", "3"]
def allStps : List Stp :=
  plainK.map (fun k => ⟨k, none, none⟩) ++ shifts.flatMap (fun i => [⟨"roll", some i, none⟩, ⟨"near", some i, none⟩, ⟨"sum", some i, none⟩]) ++
  shifts.flatMap (fun i => restsAll.map fun r => ⟨"near", some i, some r⟩) ++
  [⟨"sum", some 2, some (0, 2)⟩, ⟨"sum", some 2, some (1, 2)⟩, ⟨"sum", some (-2), some (0, 2)⟩, ⟨"sum", some (-2), some (1, 2)⟩, ⟨"sum", some 3, some (0, 3)⟩, ⟨"sum", some 3, some (1, 3)⟩, ⟨"sum", some 3, some (2, 3)⟩,
    ⟨"sum", some (-3), some (0, 3)⟩, ⟨"sum", some (-3), some (1, 3)⟩, ⟨"sum", some (-3), some (2, 3)⟩] ++ restsAll.map fun r => ⟨"flip", none, some r⟩
def wds (s : Stp) : List Str := Txt.split (stpText s) " "
def nearSum (s : Stp) : Bool := match s.by_, s.rest with
  | some k, some (_, b) => decide (k.fmod b = 0)
  | _, _ => true
def invStp (s : Stp) : Stp :=
  if s.kind = ("deal" : Str) then ⟨"undeal", none, none⟩ else
  if s.kind = ("undeal" : Str) then ⟨"deal", none, none⟩ else
  if s.kind = ("roll" : Str) then ⟨"roll", s.by_.map fun i => -i, none⟩ else
  if s.kind = ("sum" : Str) then ⟨"near", s.by_, s.rest⟩ else
  if s.kind = ("near" : Str) ∧ nearSum s = true then ⟨"sum", s.by_, s.rest⟩ else s
/-- no blank before a t, none at the end -/
def goodL : List Nat → Bool
  | [] => true
  | [a] => a != 32
  | a :: b :: r => (a != 32 || b != 116) && goodL (b :: r)
def numB (i : Int) : Bool := decide (PySem.intText? (iS i) = some i)
def chk (s : Stp) : Bool :=
  decide ((stpText s).length ≤ 17) && decide (1 ≤ (stpText s).length) && goodL (TL.tl (stpText s)) && decide (invStp s ∈ allStps) && decide (stpText s = ("deal" : Str) ↔ s.kind = ("deal" : Str)) && decide (stpText s = ("undeal" : Str) ↔ s.kind = ("undeal" : Str)) &&
  (match s.by_, s.rest with
    | none, none => plainK.contains (stpText s) && decide (s.kind = stpText s) && decide (1 ≤ (wds s).length) && (match (wds s).head? with | some w => !shiftK.contains w | none => false)
    | none, some (a, b) => !plainK.contains (stpText s) && decide (s.kind = ("flip" : Str)) && decide (wds s = [("flip" : Str), iS a, ("of" : Str), iS b]) && atT.contains (iS a) && ofT.contains (iS b) && numB a && numB b && decide (0 ≤ a) && decide (a < b) && decide (b ≤ 4)
    | some k, none => !plainK.contains (stpText s) && decide (wds s = [s.kind, iS k]) && shiftK.contains s.kind && shiftT.contains (iS k) && numB k && decide (-3 ≤ k) && decide (k ≤ 3)
    | some k, some (a, b) => !plainK.contains (stpText s) && decide (wds s = [s.kind, iS k, ("at" : Str), iS a, ("of" : Str), iS b]) && shiftK.contains s.kind && decide (s.kind ≠ ("roll" : Str)) && shiftT.contains (iS k) && numB k && decide (-3 ≤ k) && decide (k ≤ 3) &&
        atT.contains (iS a) && ofT.contains (iS b) && numB a && numB b && decide (0 ≤ a) && decide (a < b) && decide (b ≤ 4) && (decide (s.kind = ("near" : Str)) || nearSum s))
/-- what inverse_text makes of its words -/
def chkInv (s : Stp) : Bool :=
  (match s.by_, s.rest with
    | none, none => (decide (s.kind = ("deal" : Str)) && decide (stpText (invStp s) = ("undeal" : Str))) || (decide (s.kind = ("undeal" : Str)) && decide (stpText (invStp s) = ("deal" : Str))) || decide (s.kind ≠ ("deal" : Str) ∧ s.kind ≠ ("undeal" : Str) ∧ invStp s = s)
    | none, some _ => decide (invStp s = s)
    | some k, none => if s.kind = ("roll" : Str) then decide (stpText (invStp s) = ("roll " : Str) ++ iS (-k)) else if s.kind = ("sum" : Str) then decide (stpText (invStp s) = Txt.join " " [("near" : Str), iS k]) else decide (stpText (invStp s) = Txt.join " " [("sum" : Str), iS k])
    | some k, some (a, b) => if s.kind = ("sum" : Str) then decide (stpText (invStp s) = Txt.join " " [("near" : Str), iS k, ("at" : Str), iS a, ("of" : Str), iS b]) else
        if k.fmod b = 0 then decide (stpText (invStp s) = Txt.join " " [("sum" : Str), iS k, ("at" : Str), iS a, ("of" : Str), iS b]) else decide (invStp s = s))
theorem chk_all : (allStps.all chk) = true := by decide +kernel
theorem chkInv_all : (allStps.all chkInv) = true := by decide +kernel
end K64
/-! ## KPure2 -/
set_option linter.all false
set_option maxRecDepth 100000
set_option maxHeartbeats 2000000
namespace K64
open PySem PySem.Spec PyProof.Rows L2
/-! ### what the table says of a step -/
theorem all_of {α : Type} {p : α → Bool} {l : List α} (h : l.all p = true) {x : α} (hx : x ∈ l) : p x = true := List.all_eq_true.mp h x hx
structure StpF (s : Stp) : Prop where
  len : (stpText s).length ≤ 17
  pos : 1 ≤ (stpText s).length
  good : goodL (TL.tl (stpText s)) = true
  inv : invStp s ∈ allStps
  deal : stpText s = ("deal" : Str) ↔ s.kind = ("deal" : Str)
  undeal : stpText s = ("undeal" : Str) ↔ s.kind = ("undeal" : Str)
theorem stpF {s : Stp} (h : s ∈ allStps) : StpF s := by
  have c := all_of chk_all h
  unfold chk at c
  simp only [Bool.and_eq_true, decide_eq_true_eq] at c
  obtain ⟨⟨⟨⟨⟨⟨c1, c2⟩, c3⟩, c4⟩, c5⟩, c6⟩, _⟩ := c
  exact ⟨c1, c2, c3, c4, c5, c6⟩
inductive Shp (s : Stp) : Prop
  | plain (hb : s.by_ = none) (hr : s.rest = none) (m : stpText s ∈ plainK) (k : s.kind = stpText s) (w0 : Str) (ws : List Str) (e : wds s = w0 :: ws) (n : w0 ∉ shiftK)
  | flip (a b : Int) (hb : s.by_ = none) (hr : s.rest = some (a, b)) (m : stpText s ∉ plainK) (k : s.kind = ("flip" : Str)) (e : wds s = [("flip" : Str), iS a, ("of" : Str), iS b]) (ha : iS a ∈ atT) (ho : iS b ∈ ofT)
      (na : PySem.intText? (iS a) = some a) (nb : PySem.intText? (iS b) = some b) (a0 : 0 ≤ a) (ab : a < b) (b4 : b ≤ 4)
  | two (i : Int) (hb : s.by_ = some i) (hr : s.rest = none) (m : stpText s ∉ plainK) (e : wds s = [s.kind, iS i]) (k : s.kind ∈ shiftK) (hs : iS i ∈ shiftT) (ni : PySem.intText? (iS i) = some i) (i0 : -3 ≤ i) (i1 : i ≤ 3)
  | six (i a b : Int) (hb : s.by_ = some i) (hr : s.rest = some (a, b)) (m : stpText s ∉ plainK) (e : wds s = [s.kind, iS i, ("at" : Str), iS a, ("of" : Str), iS b]) (k : s.kind ∈ shiftK) (kr : s.kind ≠ ("roll" : Str)) (hs : iS i ∈ shiftT) (ni : PySem.intText? (iS i) = some i) (i0 : -3 ≤ i) (i1 : i ≤ 3)
      (ha : iS a ∈ atT) (ho : iS b ∈ ofT) (na : PySem.intText? (iS a) = some a) (nb : PySem.intText? (iS b) = some b) (a0 : 0 ≤ a) (ab : a < b) (b4 : b ≤ 4) (ns : s.kind = ("near" : Str) ∨ i.fmod b = 0)
theorem shp {s : Stp} (h : s ∈ allStps) : Shp s := by
  have c := all_of chk_all h
  unfold chk at c
  rw [Bool.and_eq_true] at c
  obtain ⟨_, c⟩ := c
  obtain ⟨kd, hb, hr⟩ := s
  cases hb with
  | none =>
    cases hr with
    | none =>
      simp only [Bool.and_eq_true, decide_eq_true_eq, List.contains_iff_mem] at c
      obtain ⟨⟨⟨c1, c2⟩, c3⟩, c4⟩ := c
      cases e : wds ⟨kd, none, none⟩ with
      | nil =>
        rw [e] at c3
        simp at c3
      | cons w0 ws =>
        rw [e] at c4
        refine .plain rfl rfl c1 c2 w0 ws e ?_
        intro hm
        have c5 : (!shiftK.contains w0) = true := c4
        rw [Bool.not_eq_true', ← Bool.not_eq_true] at c5
        exact c5 (List.contains_iff_mem.mpr hm)
    | some r =>
      obtain ⟨a, b⟩ := r
      simp only [numB, Bool.and_eq_true, decide_eq_true_eq, List.contains_iff_mem, Bool.not_eq_true', ← Bool.not_eq_true] at c
      obtain ⟨⟨⟨⟨⟨⟨⟨⟨⟨c1, c2⟩, c3⟩, c4⟩, c5⟩, c6⟩, c7⟩, c8⟩, c9⟩, c10⟩ := c
      exact .flip a b rfl rfl c1 c2 c3 c4 c5 c6 c7 c8 c9 c10
  | some i =>
    cases hr with
    | none =>
      simp only [numB, Bool.and_eq_true, decide_eq_true_eq, List.contains_iff_mem, Bool.not_eq_true', ← Bool.not_eq_true] at c
      obtain ⟨⟨⟨⟨⟨⟨c1, c2⟩, c3⟩, c4⟩, c5⟩, c6⟩, c7⟩ := c
      exact .two i rfl rfl c1 c2 c3 c4 c5 c6 c7
    | some r =>
      obtain ⟨a, b⟩ := r
      simp only [numB, nearSum, Bool.and_eq_true, Bool.or_eq_true, decide_eq_true_eq, List.contains_iff_mem, Bool.not_eq_true', ← Bool.not_eq_true] at c
      obtain ⟨⟨⟨⟨⟨⟨⟨⟨⟨⟨⟨⟨⟨⟨⟨c1, c2⟩, c3⟩, c4⟩, c5⟩, c6⟩, c7⟩, c8⟩, c9⟩, c10⟩, c11⟩, c12⟩, c13⟩, c14⟩, c15⟩, c16⟩ := c
      exact .six i a b rfl rfl c1 c2 c3 c4 c5 c6 c7 c8 c9 c10 c11 c12 c13 c14 c15 c16
/-! ### programs -/
def progText (p : List Stp) : Str := Txt.join " then " (p.map stpText)
def okStps (p : List Stp) : Prop := ∀ s ∈ p, s ∈ allStps
theorem pre_good {S q : List Nat} : ∀ {p : List Nat}, goodL p = true → ∀ i, i < p.length → TL.pre (32 :: 116 :: S) ((p ++ q).drop i) = false
  | [], _, i, h => absurd h (Nat.not_lt_zero _)
  | [a], g, i, h => by
    have e : i = 0 := by simp at h; exact h
    subst e
    have ga : a ≠ 32 := by simpa [goodL] using g
    exact TL.pre_of_head _ _ ga
  | a :: b :: r, g, i, h => by
    unfold goodL at g
    rw [Bool.and_eq_true] at g
    obtain ⟨g1, g2⟩ := g
    cases i with
    | zero =>
      by_cases ha : a = 32
      · have hb : b ≠ 116 := by
          rw [Bool.or_eq_true] at g1
          rcases g1 with g1 | g1
          · simp [ha] at g1
          · simpa using g1
        cases hp : TL.pre (32 :: 116 :: S) (((a :: b :: r) ++ q).drop 0) with
        | false => rfl
        | true =>
          have e : (a :: b :: (r ++ q)).take (32 :: 116 :: S).length = 32 :: 116 :: S := eq_of_beq hp
          rw [List.length_cons, List.length_cons, List.take_succ_cons, List.take_succ_cons] at e
          injection e with _ e
          injection e with e _
          exact absurd e hb
      · exact TL.pre_of_head _ _ ha
    | succ i =>
      have ih := pre_good (S := S) (q := q) (p := b :: r) g2 i (by simp at h ⊢; omega)
      exact ih
theorem spl_good {S : List Nat} : ∀ {parts : List (List Nat)}, parts ≠ [] → (∀ p ∈ parts, goodL p = true) → TL.spl (32 :: 116 :: S) 0 [] (TL.joinL (32 :: 116 :: S) parts) = parts
  | [], h, _ => absurd rfl h
  | [p], _, hp => by
    show TL.spl (32 :: 116 :: S) 0 [] p = [p]
    rw [TL.spl_last fun i hi => by
      have z := pre_good (S := S) (q := []) (hp p (List.mem_singleton.mpr rfl)) i hi
      rw [List.append_nil] at z
      exact z, List.nil_append]
  | p :: q :: r, _, hp => by
    show TL.spl (32 :: 116 :: S) 0 [] (p ++ (32 :: 116 :: S ++ TL.joinL (32 :: 116 :: S) (q :: r))) = p :: q :: r
    rw [TL.spl_part (by simp) (pre_good (hp p (List.mem_cons_self ..))), List.nil_append, spl_good (by simp) fun z hz => hp z (List.mem_cons_of_mem _ hz)]
theorem then_tl : TL.tl (" then " : Str) = 32 :: 116 :: [104, 101, 110, 32] := by decide +kernel
theorem then_kind : (" then " : Str).cps.all (· < 256) = true := by decide +kernel
theorem split_prog {p : List Stp} (hp : okStps p) (hne : p ≠ []) : Txt.split (progText p) " then " = p.map stpText := by
  refine TL.map_tl_inj ?_
  unfold progText
  rw [TL.split_spl _ _ (by rw [then_tl]; simp) (TL.kind_ok then_kind), TL.join_eq, TL.tl_join, then_tl]
  refine spl_good (fun e => hne (List.map_eq_nil_iff.mp (List.map_eq_nil_iff.mp e))) fun q h => ?_
  obtain ⟨z, hz, rfl⟩ := List.mem_map.mp h
  obtain ⟨s, hs, rfl⟩ := List.mem_map.mp hz
  exact (stpF (hp s hs)).good
theorem joinL_len (S : List Nat) : ∀ parts : List (List Nat), (TL.joinL S parts).length ≤ (parts.map List.length).sum + parts.length * S.length
  | [] => by simp [TL.joinL]
  | [p] => by simp [TL.joinL]
  | p :: q :: r => by
    have ih := joinL_len S (q :: r)
    show (p ++ (S ++ TL.joinL S (q :: r))).length ≤ _
    rw [List.length_append, List.length_append, List.map_cons, List.sum_cons, List.length_cons (as := q :: r), Nat.add_mul]
    omega
theorem join_len (y : Str) (parts : List Str) : (Txt.join y parts).length ≤ (parts.map (·.length)).sum + parts.length * y.length := by
  rw [TL.len_tl, TL.join_eq, TL.tl_join]
  have h := joinL_len (TL.tl y) (parts.map TL.tl)
  rw [List.length_map, List.map_map] at h
  have e : (parts.map (List.length ∘ TL.tl)) = parts.map (·.length) := List.map_congr_left fun x _ => (TL.len_tl x).symm
  rw [e, ← TL.len_tl] at h
  exact h
theorem sum_le {α : Type} {f : α → Nat} {k : Nat} : ∀ {l : List α}, (∀ x ∈ l, f x ≤ k) → (l.map f).sum ≤ l.length * k
  | [], _ => by simp
  | x :: l, h => by
    have ih := sum_le (l := l) fun y hy => h y (List.mem_cons_of_mem _ hy)
    have hx := h x List.mem_cons_self
    rw [List.map_cons, List.sum_cons, List.length_cons, Nat.add_mul]
    omega
theorem then_len : (" then " : Str).length = 6 := by decide +kernel
theorem texts_sum {p : List Stp} (hp : okStps p) : ((p.map stpText).map (·.length)).sum ≤ p.length * 17 := by
  have h := sum_le (f := (·.length)) (k := 17) (l := p.map stpText) fun x hx => by
    obtain ⟨s, hs, rfl⟩ := List.mem_map.mp hx
    exact (stpF (hp s hs)).len
  rw [List.length_map] at h
  exact h
theorem prog_len {p : List Stp} (hp : okStps p) : (progText p).length ≤ p.length * 23 := by
  have h := join_len " then " (p.map stpText)
  have h2 := texts_sum hp
  rw [then_len, List.length_map] at h
  unfold progText
  omega
theorem prog_nil : progText [] = ("" : Str) := rfl
theorem prog_pos {p : List Stp} (hp : okStps p) (hne : p ≠ []) : 1 ≤ (progText p).length := by
  cases p with
  | nil => exact absurd rfl hne
  | cons s p =>
    unfold progText
    rw [TL.len_tl, TL.join_eq, TL.tl_join]
    have h := (stpF (hp s List.mem_cons_self)).pos
    rw [TL.len_tl] at h
    cases p with
    | nil => exact h
    | cons q r =>
      show 1 ≤ (TL.tl (stpText s) ++ _).length
      rw [List.length_append]
      omega
def invP (p : List Stp) : List Stp := p.reverse.map invStp
theorem inv_ok {p : List Stp} (hp : okStps p) : okStps (invP p) := fun s hs => by
  obtain ⟨z, hz, rfl⟩ := List.mem_map.mp hs
  exact (stpF (hp z (List.mem_reverse.mp hz))).inv
def dealK (s : Stp) : Bool := decide (s.kind = ("deal" : Str)) || decide (s.kind = ("undeal" : Str))
def deals (p : List Stp) : Nat := (p.filter dealK).length
theorem inv_deal {s : Stp} (h : s ∈ allStps) : dealK (invStp s) = dealK s := by
  have e : (allStps.all fun s => decide (dealK (invStp s) = dealK s)) = true := by decide +kernel
  exact of_decide_eq_true (all_of e h)
theorem deals_inv {p : List Stp} (hp : okStps p) : deals (invP p) = deals p := by
  unfold deals invP
  have e : ((p.reverse.map invStp).filter dealK).length = (p.reverse.filter dealK).length := by
    rw [List.filter_map, List.length_map]
    have e2 : p.reverse.filter (dealK ∘ invStp) = p.reverse.filter dealK := List.filter_congr fun s hs => inv_deal (hp s (List.mem_reverse.mp hs))
    rw [e2]
  rw [e, List.filter_reverse, List.length_reverse]
structure OkP (p : List Stp) : Prop where
  st : okStps p
  len : p.length ≤ 5
  dl : deals p ≤ 2
theorem OkP.inv {p : List Stp} (h : OkP p) : OkP (invP p) := ⟨inv_ok h.st, by unfold invP; rw [List.length_map, List.length_reverse]; exact h.len, by rw [deals_inv h.st]; exact h.dl⟩
theorem OkP.nil : OkP [] := ⟨fun s hs => absurd hs (by simp), by simp, by simp [deals]⟩
end K64
/-! ## KPure3 -/
set_option linter.all false
set_option maxRecDepth 100000
set_option maxHeartbeats 2000000
namespace K64
open PySem PySem.Spec PyProof.Rows L2
/-! ### benches -/
abbrev Bst := List (Str × List Stp)
def names (st : Bst) : List Str := st.map (·.1)
structure NmOk (n : Str) : Prop where
  l1 : 1 ≤ n.length
  l2 : n.length ≤ 12
  lt : ∀ c ∈ TL.tl n, 97 ≤ c ∧ c ≤ 122
structure SV (st : Bst) : Prop where
  nd : (names st).Nodup
  len : st.length ≤ 20
  row : ∀ r ∈ st, NmOk r.1 ∧ OkP r.2
def putIn (st : Bst) (n : Str) (p : List Stp) : Bst := if n ∈ names st then st.map (fun r => (r.1, if r.1 = n then p else r.2)) else st ++ [(n, p)]
def stepsOf (st : Bst) (n : Str) : List Stp := match (st.filter fun r => decide (r.1 = n)).map (·.2) with | p :: _ => p | [] => []
theorem names_put {st : Bst} {n : Str} {p : List Stp} : names (putIn st n p) = if n ∈ names st then names st else names st ++ [n] := by
  unfold putIn
  by_cases h : n ∈ names st
  · rw [if_pos h, if_pos h]
    unfold names
    rw [List.map_map]
    exact List.map_congr_left fun r _ => rfl
  · rw [if_neg h, if_neg h]
    unfold names
    rw [List.map_append]
    rfl
theorem len_put {st : Bst} {n : Str} {p : List Stp} : (putIn st n p).length = if n ∈ names st then st.length else st.length + 1 := by
  unfold putIn
  by_cases h : n ∈ names st
  · rw [if_pos h, if_pos h, List.length_map]
  · rw [if_neg h, if_neg h, List.length_append]
    rfl
theorem mem_names {st : Bst} {n : Str} (h : n ∈ names st) : (n, stepsOf st n) ∈ st := by
  obtain ⟨r, hr, e⟩ := List.mem_map.mp h
  unfold stepsOf
  have hf : r ∈ st.filter fun r => decide (r.1 = n) := List.mem_filter.mpr ⟨hr, decide_eq_true e⟩
  cases q : st.filter fun r => decide (r.1 = n) with
  | nil =>
    rw [q] at hf
    cases hf
  | cons z zs =>
    have hz : z ∈ st.filter fun r => decide (r.1 = n) := by rw [q]; exact List.mem_cons_self
    obtain ⟨z1, z2⟩ := List.mem_filter.mp hz
    have e2 : z.1 = n := of_decide_eq_true z2
    show (n, z.2) ∈ st
    rw [← e2]
    exact z1
theorem SV.okP {st : Bst} (h : SV st) {n : Str} (hn : n ∈ names st) : OkP (stepsOf st n) := (h.row _ (mem_names hn)).2
theorem SV.put {st : Bst} (h : SV st) {n : Str} {p : List Stp} (hn : NmOk n) (hp : OkP p) (hr : n ∈ names st ∨ st.length < 20) : SV (putIn st n p) := by
  refine ⟨?_, ?_, ?_⟩
  · rw [names_put]
    by_cases q : n ∈ names st
    · rw [if_pos q]
      exact h.nd
    · rw [if_neg q, List.nodup_append]
      refine ⟨h.nd, by simp, ?_⟩
      intro a ha b hb
      rw [List.mem_singleton.mp hb]
      exact fun e => q (e ▸ ha)
  · rw [len_put]
    by_cases q : n ∈ names st
    · rw [if_pos q]
      exact h.len
    · rw [if_neg q]
      rcases hr with hr | hr
      · exact absurd hr q
      · omega
  · unfold putIn
    by_cases q : n ∈ names st
    · rw [if_pos q]
      intro r hr
      obtain ⟨z, hz, rfl⟩ := List.mem_map.mp hr
      obtain ⟨a, b⟩ := h.row z hz
      refine ⟨a, ?_⟩
      show OkP (if z.1 = n then p else z.2)
      by_cases e : z.1 = n
      · rw [if_pos e]
        exact hp
      · rw [if_neg e]
        exact b
    · rw [if_neg q]
      intro r hr
      rcases List.mem_append.mp hr with hr | hr
      · exact h.row r hr
      · rw [List.mem_singleton.mp hr]
        exact ⟨hn, hp⟩
theorem SV.filter {st : Bst} (h : SV st) (f : Str × List Stp → Bool) : SV (st.filter f) := by
  refine ⟨?_, Nat.le_trans (List.length_filter_le _ _) h.len, fun r hr => h.row r (List.mem_filter.mp hr).1⟩
  exact List.Nodup.sublist (List.Sublist.map _ List.filter_sublist) h.nd
theorem SV.nil : SV [] := ⟨by simp [names], by simp, fun r hr => absurd hr (by simp)⟩
/-! ### deeds -/
inductive Obs | txt (x : Str) | prN (x : Str) | prI (x : Str) (i : Int) | prS (x y : Str)
inductive Deed | put (n : Str) (p : List Stp) | drop (n : Str) | turn (n : Str) | chain (n : Str) (ns : List Str)
def Deed.name : Deed → Str | .put n _ => n | .drop n => n | .turn n => n | .chain n _ => n
def DeedOk : Deed → Prop | .put n p => NmOk n ∧ OkP p | .drop n => NmOk n | .turn n => NmOk n | .chain n ns => NmOk n ∧ ns.length ≤ 3 ∧ ∀ x ∈ ns, NmOk x
def okO : Obs := .prN "ok"
def noName (n : Str) : Option Bst × Obs := (none, .prS "NoName" n)
def tooMany (k : Int) : Option Bst × Obs := (none, .prI "TooMany" k)
/-- the steps of the parts, or the first that is not there -/
def collect (st : Bst) : List Str → Except Str (List Stp)
  | [] => .ok []
  | n :: ns => if n ∈ names st then (match collect st ns with | .ok p => .ok (stepsOf st n ++ p) | .error e => .error e) else .error n
def chained (st : Bst) (n : Str) (p : List Stp) : Option Bst × Obs :=
  if 5 < p.length then tooMany 5 else if 2 < deals p then tooMany 2 else if n ∉ names st ∧ 20 ≤ st.length then tooMany 20 else (some (putIn st n p), okO)
def due (st : Bst) : Deed → Option Bst × Obs
  | .put n p => if n ∉ names st ∧ 20 ≤ st.length then tooMany 20 else (some (putIn st n p), okO)
  | .drop n => if n ∈ names st then (some (st.filter fun r => decide (r.1 ≠ n)), .prS "ok" (progText (stepsOf st n))) else noName n
  | .turn n => if n ∈ names st then (some (putIn st n (invP (stepsOf st n))), okO) else noName n
  | .chain n ns => match collect st ns with | .error e => noName e | .ok p => chained st n p
theorem collect_ok {st : Bst} (h : SV st) : ∀ {ns : List Str} {p : List Stp}, collect st ns = .ok p → okStps p
  | [], p, e => by
    cases e
    exact fun s hs => absurd hs (by simp)
  | n :: ns, p, e => by
    unfold collect at e
    split at e
    · rename_i hn
      cases q : collect st ns with
      | error x =>
        rw [q] at e
        cases e
      | ok r =>
        rw [q] at e
        cases e
        intro s hs
        rcases List.mem_append.mp hs with hs | hs
        · exact (h.okP hn).st s hs
        · exact collect_ok h q s hs
    · cases e
theorem collect_len {st : Bst} (h : SV st) : ∀ {ns : List Str} {p : List Stp}, collect st ns = .ok p → p.length ≤ 5 * ns.length
  | [], p, e => by
    cases e
    simp
  | n :: ns, p, e => by
    unfold collect at e
    split at e
    · rename_i hn
      cases q : collect st ns with
      | error x =>
        rw [q] at e
        cases e
      | ok r =>
        rw [q] at e
        cases e
        have h1 := (h.okP hn).len
        have h2 := collect_len h q
        rw [List.length_append, List.length_cons]
        omega
    · cases e
theorem due_ok {st st' : Bst} {d : Deed} {o : Obs} (h : SV st) (hd : DeedOk d) (e : due st d = (some st', o)) : SV st' := by
  cases d with
  | put n p =>
    simp only [due] at e
    split at e
    · cases e
    · rename_i q
      cases e
      refine h.put hd.1 hd.2 ?_
      by_cases q1 : n ∈ names st
      · exact .inl q1
      · exact .inr (Nat.lt_of_not_le fun z => q ⟨q1, z⟩)
  | drop n =>
    simp only [due] at e
    split at e
    · cases e
      exact h.filter _
    · cases e
  | turn n =>
    simp only [due] at e
    split at e
    · rename_i q
      cases e
      exact h.put hd (h.okP q).inv (.inl q)
    · cases e
  | chain n ns =>
    simp only [due] at e
    cases q : collect st ns with
    | error x =>
      rw [q] at e
      cases e
    | ok p =>
      rw [q] at e
      simp only [chained] at e
      split at e
      · cases e
      · rename_i q1
        split at e
        · cases e
        · rename_i q2
          split at e
          · cases e
          · rename_i q3
            cases e
            refine h.put hd.1 ⟨collect_ok h q, by omega, by omega⟩ ?_
            by_cases q4 : n ∈ names st
            · exact .inl q4
            · exact .inr (Nat.lt_of_not_le fun z => q3 ⟨q4, z⟩)
/-! ### texts -/
def rowText (r : Str × List Stp) : Str := r.1 ++ (": " : Str) ++ progText r.2
def stText (st : Bst) : Str := Txt.join "\n" (st.map rowText)
theorem colon_len : (": " : Str).length = 2 := by decide +kernel
theorem nl_len : ("\n" : Str).length = 1 := by decide +kernel
theorem len_app (a b : Str) : (a ++ b).length = a.length + b.length := by
  rw [TL.len_tl, TL.tl_append, List.length_append, ← TL.len_tl, ← TL.len_tl]
theorem row_len {r : Str × List Stp} (hn : NmOk r.1) (hp : OkP r.2) : (rowText r).length ≤ 129 := by
  unfold rowText
  rw [len_app, len_app, colon_len]
  have h1 := hn.l2
  have h2 := prog_len hp.st
  have h3 := hp.len
  omega
theorem rows_sum {st : Bst} (h : SV st) : ((st.map rowText).map (·.length)).sum ≤ st.length * 129 := by
  have q := sum_le (f := (·.length)) (k := 129) (l := st.map rowText) fun x hx => by
    obtain ⟨r, hr, rfl⟩ := List.mem_map.mp hx
    obtain ⟨a, b⟩ := h.row r hr
    exact row_len a b
  rw [List.length_map] at q
  exact q
theorem st_len {st : Bst} (h : SV st) : (stText st).length ≤ 2600 := by
  have h1 := join_len "\n" (st.map rowText)
  have h2 := rows_sum h
  have h3 := h.len
  rw [nl_len, List.length_map] at h1
  unfold stText
  omega
/-! ### items -/
inductive Item | undo | redo | deed (d : Deed) | inner (its : List Item) (e : Str)
def ItemOk : Nat → Item → Prop
  | _, .undo => True
  | _, .redo => True
  | _, .deed d => DeedOk d
  | 0, .inner _ _ => False
  | n + 1, .inner its e => (e = ("" : Str) ∨ e = ("key" : Str) ∨ e = ("name" : Str)) ∧ its.length ≤ 30 ∧ ∀ it ∈ its, ItemOk n it
def ItemsOk (n : Nat) (its : List Item) : Prop := its.length ≤ 30 ∧ ∀ it ∈ its, ItemOk n it
structure Mst where
  st : Bst
  past : List Bst
  fut : List Bst
def undoM (m : Mst) : Mst × Obs := match m.past.getLast? with
  | none => (m, .prI "none" 0)
  | some l => (⟨l, m.past.dropLast, m.fut ++ [m.st]⟩, okO)
def redoM (m : Mst) : Mst × Obs := match m.fut.getLast? with
  | none => (m, .prI "none" 0)
  | some l => (⟨l, m.past ++ [m.st], m.fut.dropLast⟩, okO)
def deedM (m : Mst) (d : Deed) : Mst × Obs := match due m.st d with
  | (none, o) => (m, o)
  | (some st', o) => (⟨st', m.past ++ [m.st], []⟩, o)
abbrev PlayT := List Item → Mst → Mst × List Obs
def endO (n : Nat) : Obs := .prI "end" n
/-- what an action leaves, behind its own play -/
def closeM (m r : Mst) (e : Str) : Mst := if e = ("" : Str) then (if r.past = [] then m else ⟨r.st, m.past ++ [m.st], []⟩) else m
def closeO (n : Nat) (e : Str) : Obs := if e = ("" : Str) then endO n else if e = ("key" : Str) then .txt "key" else .txt "name 9"
def called (rec : PlayT) (m : Mst) (its : List Item) (e : Str) : Mst × List Obs × Obs :=
  let r := rec its ⟨m.st, [], []⟩
  (closeM m r.1 e, r.2, closeO its.length e)
def itemM (rec : PlayT) (it : Item) (m : Mst) : Mst × List Obs := match it with
  | .undo => let r := undoM m; (r.1, [r.2, .txt (stText r.1.st)])
  | .redo => let r := redoM m; (r.1, [r.2, .txt (stText r.1.st)])
  | .deed d => let r := deedM m d; (r.1, [r.2, .txt (stText r.1.st)])
  | .inner its e => let r := called rec m its e; (r.1, r.2.1 ++ [r.2.2, .txt (stText r.1.st)])
def playW (rec : PlayT) : PlayT
  | [], m => (m, [])
  | it :: r, m => let a := itemM rec it m; let b := playW rec r a.1; (b.1, a.2 ++ b.2)
def play : Nat → PlayT
  | 0 => playW fun _ m => (m, [])
  | n + 1 => playW (play n)
theorem play_snoc (rec : PlayT) : ∀ (l : List Item) (x : Item) (m : Mst), playW rec (l ++ [x]) m = ((itemM rec x (playW rec l m).1).1, (playW rec l m).2 ++ (itemM rec x (playW rec l m).1).2)
  | [], x, m => by
    show ((itemM rec x m).1, (itemM rec x m).2 ++ []) = ((itemM rec x m).1, [] ++ (itemM rec x m).2)
    rw [List.append_nil, List.nil_append]
  | y :: l, x, m => by
    show (let a := itemM rec y m; let b := playW rec (l ++ [x]) a.1; (b.1, a.2 ++ b.2)) = _
    simp only [play_snoc rec l x]
    show _ = ((itemM rec x (playW rec l (itemM rec y m).1).1).1, ((itemM rec y m).2 ++ (playW rec l (itemM rec y m).1).2) ++ (itemM rec x (playW rec l (itemM rec y m).1).1).2)
    rw [List.append_assoc]
/-! ### what a play keeps -/
structure MV (m : Mst) : Prop where
  st : SV m.st
  past : ∀ x ∈ m.past, SV x
  fut : ∀ x ∈ m.fut, SV x
def base (m : Mst) : Option Bst := (m.past ++ [m.st]).head?
theorem last_split {α : Type} {l : List α} {x : α} (h : l.getLast? = some x) : l = l.dropLast ++ [x] := by
  cases l with
  | nil => cases h
  | cons a l =>
    have e : (a :: l).getLast (by simp) = x := by
      rw [List.getLast?_eq_some_getLast (by simp)] at h
      exact Option.some.inj h
    rw [← e]
    exact (List.dropLast_concat_getLast (by simp)).symm
theorem head_app {α : Type} {l : List α} {a b : α} : ((l ++ [a]) ++ [b]).head? = (l ++ [a]).head? := by
  cases l <;> rfl
structure Kept (m m' : Mst) (n : Nat) : Prop where
  v : MV m'
  b : base m' = base m
  len : m'.past.length + m'.fut.length ≤ m.past.length + m.fut.length + n
theorem Kept.trans {a b c : Mst} {i j : Nat} (h : Kept a b i) (k : Kept b c j) : Kept a c (i + j) := ⟨k.v, k.b.trans h.b, by have := h.len; have := k.len; omega⟩
theorem undo_kept {m : Mst} (h : MV m) : Kept m (undoM m).1 1 := by
  unfold undoM
  cases e : m.past.getLast? with
  | none => exact ⟨h, rfl, Nat.le_add_right _ _⟩
  | some l =>
    have q := last_split e
    refine ⟨⟨?_, fun x hx => ?_, fun x hx => ?_⟩, ?_, ?_⟩
    · exact h.past l (by rw [q]; simp)
    · exact h.past x (by rw [q]; exact List.mem_append_left _ hx)
    · rcases List.mem_append.mp hx with hx | hx
      · exact h.fut x hx
      · rw [List.mem_singleton.mp hx]
        exact h.st
    · show (m.past.dropLast ++ [l]).head? = (m.past ++ [m.st]).head?
      have q2 : (m.past ++ [m.st]).head? = ((m.past.dropLast ++ [l]) ++ [m.st]).head? := by rw [← q]
      rw [q2, head_app]
    · show m.past.dropLast.length + (m.fut ++ [m.st]).length ≤ _
      rw [List.length_dropLast, List.length_append, List.length_singleton]
      omega
theorem redo_kept {m : Mst} (h : MV m) : Kept m (redoM m).1 1 := by
  unfold redoM
  cases e : m.fut.getLast? with
  | none => exact ⟨h, rfl, Nat.le_add_right _ _⟩
  | some l =>
    have q := last_split e
    refine ⟨⟨?_, fun x hx => ?_, fun x hx => ?_⟩, ?_, ?_⟩
    · exact h.fut l (by rw [q]; simp)
    · rcases List.mem_append.mp hx with hx | hx
      · exact h.past x hx
      · rw [List.mem_singleton.mp hx]
        exact h.st
    · exact h.fut x (by rw [q]; exact List.mem_append_left _ hx)
    · show ((m.past ++ [m.st]) ++ [l]).head? = (m.past ++ [m.st]).head?
      exact head_app
    · show (m.past ++ [m.st]).length + m.fut.dropLast.length ≤ _
      rw [List.length_dropLast, List.length_append, List.length_singleton]
      omega
theorem deed_kept {m : Mst} {d : Deed} (h : MV m) (hd : DeedOk d) : Kept m (deedM m d).1 1 := by
  unfold deedM
  cases e : due m.st d with
  | mk o x =>
    cases o with
    | none => exact ⟨h, rfl, Nat.le_add_right _ _⟩
    | some st' =>
      refine ⟨⟨due_ok h.st hd e, fun x hx => ?_, fun x hx => absurd hx (by simp)⟩, head_app, ?_⟩
      · rcases List.mem_append.mp hx with hx | hx
        · exact h.past x hx
        · rw [List.mem_singleton.mp hx]
          exact h.st
      · show (m.past ++ [m.st]).length + ([] : List Bst).length ≤ _
        rw [List.length_append, List.length_singleton, List.length_nil]
        omega
theorem close_kept {m r : Mst} {e : Str} (h : MV m) (hr : MV r) : Kept m (closeM m r e) 1 := by
  unfold closeM
  by_cases q : e = ("" : Str)
  · rw [if_pos q]
    by_cases q2 : r.past = []
    · rw [if_pos q2]
      exact ⟨h, rfl, by omega⟩
    · rw [if_neg q2]
      refine ⟨⟨hr.st, fun x hx => ?_, fun x hx => absurd hx (by simp)⟩, head_app, ?_⟩
      · rcases List.mem_append.mp hx with hx | hx
        · exact h.past x hx
        · rw [List.mem_singleton.mp hx]
          exact h.st
      · show (m.past ++ [m.st]).length + ([] : List Bst).length ≤ _
        rw [List.length_append, List.length_singleton, List.length_nil]
        omega
  · rw [if_neg q]
    exact ⟨h, rfl, by omega⟩
theorem MV.fresh {m : Mst} (h : MV m) : MV ⟨m.st, [], []⟩ := ⟨h.st, fun _ hx => absurd hx (by simp), fun _ hx => absurd hx (by simp)⟩
def KeepsP (n : Nat) (rec : PlayT) : Prop := ∀ its m, ItemsOk n its → MV m → Kept m (rec its m).1 its.length
theorem item_kept {n : Nat} {rec : PlayT} {it : Item} {m : Mst} (hit : ItemOk n it) (hrec : ∀ k, n = k + 1 → KeepsP k rec) (h : MV m) : Kept m (itemM rec it m).1 1 := by
  cases it with
  | undo => exact undo_kept h
  | redo => exact redo_kept h
  | deed d =>
    have hd : DeedOk d := by cases n <;> exact hit
    exact deed_kept h hd
  | inner its e =>
    cases n with
    | zero => exact (show False from hit).elim
    | succ k =>
      obtain ⟨_, h2, h3⟩ := (show _ ∧ _ ∧ _ from hit)
      have q := hrec k rfl its ⟨m.st, [], []⟩ ⟨h2, h3⟩ h.fresh
      exact close_kept h q.v
theorem playW_kept {n : Nat} {rec : PlayT} (hrec : ∀ k, n = k + 1 → KeepsP k rec) : ∀ (its : List Item) (m : Mst), (∀ it ∈ its, ItemOk n it) → MV m → Kept m (playW rec its m).1 its.length
  | [], m, _, h => ⟨h, rfl, by simp [playW]⟩
  | it :: r, m, ho, h => by
    have a := item_kept (ho it List.mem_cons_self) hrec h
    have b := playW_kept hrec r _ (fun x hx => ho x (List.mem_cons_of_mem _ hx)) a.v
    have c := a.trans b
    rw [Nat.add_comm] at c
    exact c
theorem play_kept : ∀ n, KeepsP n (play n)
  | 0 => fun its m ho h => playW_kept (fun k e => by cases e) its m ho.2 h
  | n + 1 => fun its m ho h => playW_kept (fun k e => by cases e; exact play_kept n) its m ho.2 h
/-- nothing was done: the state is what it was -/
theorem base_nil {m m' : Mst} (e : base m' = base m) (h : m'.past = []) (h2 : m.past = []) : m'.st = m.st := by
  unfold base at e
  rw [h, h2] at e
  exact Option.some.inj e
end K64
/-! ## KData -/
set_option linter.all false
set_option maxRecDepth 100000
set_option maxHeartbeats 2000000
namespace K64
open PySem PySem.Spec PyProof.Rows L2 LamX
/-! ### the mirror's things as data -/
def optI : Option Int → PyData | none => .none | some i => .int i
def optR : Option (Int × Int) → PyData | none => .none | some (a, b) => .tuple [.int a, .int b]
def stpD (s : Stp) : PyData := .tuple [.str s.kind, optI s.by_, optR s.rest]
def prD (p : List Stp) : PyData := .list (p.map stpD)
def rowD (r : Str × List Stp) : PyData := .tuple [.str r.1, prD r.2]
def bstD (st : Bst) : PyData := .list (st.map rowD)
def obsD : Obs → PyData
  | .txt x => .str x
  | .prN x => .tuple [.str x, .none]
  | .prI x i => .tuple [.str x, .int i]
  | .prS x y => .tuple [.str x, .str y]
def deedD : Deed → PyData
  | .put n p => .tuple [.str "put", .str n, prD p]
  | .drop n => .tuple [.str "drop", .str n]
  | .turn n => .tuple [.str "turn", .str n]
  | .chain n ns => .tuple [.str "chain", .str n, .list (ns.map .str)]
mutual
def itemD : Item → PyData
  | .undo => .tuple [.str "undo", .int 0]
  | .redo => .tuple [.str "redo", .int 0]
  | .deed d => deedD d
  | .inner its e => .tuple [.str "inner", .list (itemsL its), .str e]
def itemsL : List Item → List PyData
  | [] => []
  | i :: r => itemD i :: itemsL r
end
theorem itemsL_map : ∀ its : List Item, itemsL its = its.map itemD
  | [] => rfl
  | i :: r => by
    rw [itemsL, itemsL_map r]
    rfl
def itemsD (its : List Item) : PyData := .list (its.map itemD)
/-! ### data that stands still -/
mutual
inductive DT (F : Hp) : V → PyData → Prop where
  | non : DT F .non .none
  | bl (b : Bool) : DT F (.bl b) (.bool b)
  | int (i : Int) : DT F (.int i) (.int i)
  | str (x : Str) : DT F (.str x) (.str x)
  | lst {a : Addr} {xs : List V} {ds : List PyData} : F a = some (.lst xs) → DTs F xs ds → DT F (.ref a) (.list ds)
  | tup {a : Addr} {xs : List V} {ds : List PyData} : F a = some (.tup xs) → DTs F xs ds → DT F (.ref a) (.tuple ds)
inductive DTs (F : Hp) : List V → List PyData → Prop where
  | nil : DTs F [] []
  | cons {v : V} {vs : List V} {d : PyData} {ds : List PyData} : DT F v d → DTs F vs ds → DTs F (v :: vs) (d :: ds)
end
section
variable {F F' H : Hp} {K : PySem.W.Frag}
mutual
theorem DT.mono (m : Same F F') : ∀ (d : PyData) (v : V), DT F v d → DT F' v d
  | .none, _, h => by cases h; exact .non
  | .bool b, _, h => by cases h; exact .bl b
  | .int i, _, h => by cases h; exact .int i
  | .str x, _, h => by cases h; exact .str x
  | .list ds, _, h => by
    cases h with
    | lst e t => exact .lst (m _ _ e) (DTs.mono m ds _ t)
  | .tuple ds, _, h => by
    cases h with
    | tup e t => exact .tup (m _ _ e) (DTs.mono m ds _ t)
  | .dict _, _, h => by cases h
theorem DTs.mono (m : Same F F') : ∀ (ds : List PyData) (vs : List V), DTs F vs ds → DTs F' vs ds
  | [], _, h => by cases h; exact .nil
  | d :: ds, _, h => by
    cases h with
    | cons h t => exact .cons (DT.mono m d _ h) (DTs.mono m ds _ t)
end
mutual
theorem DT.dp (m : Same F H) : ∀ (d : PyData) (v : V), DT F v d → Dp K H v d
  | .none, _, h => by cases h; exact .non
  | .bool b, _, h => by cases h; exact .bl b
  | .int i, _, h => by cases h; exact .int i
  | .str x, _, h => by cases h; exact .str x
  | .list ds, _, h => by
    cases h with
    | lst e t => exact .lst (SqL.of (m _ _ e)) (DTs.dp m ds _ t)
  | .tuple ds, _, h => by
    cases h with
    | tup e t => exact .tup (SqT.of (m _ _ e)) (DTs.dp m ds _ t)
  | .dict _, _, h => by cases h
theorem DTs.dp (m : Same F H) : ∀ (ds : List PyData) (vs : List V), DTs F vs ds → DpAll K H vs ds
  | [], _, h => by cases h; exact .nil
  | d :: ds, _, h => by
    cases h with
    | cons h t => exact .cons (DT.dp m d _ h) (DTs.dp m ds _ t)
end
theorem DTs.length : ∀ {vs : List V} {ds : List PyData}, DTs F vs ds → vs.length = ds.length
  | _, _, .nil => rfl
  | _, _, .cons _ t => by rw [List.length_cons, List.length_cons, t.length]
theorem DTs.get : ∀ {vs : List V} {ds : List PyData} {i : Nat} {x : V}, DTs F vs ds → vs[i]? = some x → ∃ d, ds[i]? = some d ∧ DT F x d
  | _, _, _, _, .nil, e => by simp at e
  | _, _, 0, x, .cons h _, e => by simp at e; subst e; exact ⟨_, rfl, h⟩
  | _, _, i + 1, x, .cons _ t, e => by
    obtain ⟨d, h1, h2⟩ := DTs.get (i := i) (x := x) t (by simpa using e)
    exact ⟨d, by simpa using h1, h2⟩
theorem DTs.append : ∀ {vs ws : List V} {ds es : List PyData}, DTs F vs ds → DTs F ws es → DTs F (vs ++ ws) (ds ++ es)
  | _, _, _, _, .nil, k => k
  | _, _, _, _, .cons h t, k => .cons h (t.append k)
theorem DTs.snoc {vs : List V} {ds : List PyData} {v : V} {d : PyData} (h : DTs F vs ds) (k : DT F v d) : DTs F (vs ++ [v]) (ds ++ [d]) := h.append (.cons k .nil)
theorem DTs.take (n : Nat) : ∀ {vs : List V} {ds : List PyData}, DTs F vs ds → DTs F (vs.take n) (ds.take n) := by
  induction n with
  | zero => intro vs ds _; exact .nil
  | succ n ih =>
    intro vs ds h
    cases h with
    | nil => exact .nil
    | cons h t => exact .cons h (ih t)
theorem DTs.reverse : ∀ {vs : List V} {ds : List PyData}, DTs F vs ds → DTs F vs.reverse ds.reverse
  | _, _, .nil => .nil
  | _, _, .cons h t => by
    rw [List.reverse_cons, List.reverse_cons]
    exact t.reverse.snoc h
theorem DTs.strs : ∀ {vs : List V} {xs : List Str}, DTs F vs (xs.map .str) → vs = xs.map .str
  | [], [], _ => rfl
  | _ :: _, [], h => by cases h
  | [], _ :: _, h => by cases h
  | v :: vs, x :: xs, h => by
    cases h with
    | cons h t =>
      cases h
      rw [DTs.strs t]
      rfl
theorem DTs.ofStrs : ∀ (xs : List Str), DTs F (xs.map V.str) (xs.map PyData.str)
  | [] => .nil
  | x :: xs => .cons (.str x) (DTs.ofStrs xs)
theorem DTs.ofInts : ∀ (xs : List Int), DTs F (xs.map V.int) (xs.map PyData.int)
  | [] => .nil
  | x :: xs => .cons (.int x) (DTs.ofInts xs)
/-- what the shapes of data say of the values -/
theorem DT.strV {v : V} {x : Str} (h : DT F v (.str x)) : v = .str x := by cases h; rfl
theorem DT.intV {v : V} {x : Int} (h : DT F v (.int x)) : v = .int x := by cases h; rfl
theorem DT.nonV {v : V} (h : DT F v .none) : v = .non := by cases h; rfl
theorem DT.lstV {v : V} {ds : List PyData} (h : DT F v (.list ds)) : ∃ a xs, v = .ref a ∧ F a = some (.lst xs) ∧ DTs F xs ds := by cases h with | lst e t => exact ⟨_, _, rfl, e, t⟩
theorem DT.tupV {v : V} {ds : List PyData} (h : DT F v (.tuple ds)) : ∃ a xs, v = .ref a ∧ F a = some (.tup xs) ∧ DTs F xs ds := by cases h with | tup e t => exact ⟨_, _, rfl, e, t⟩
theorem DTs.one {vs : List V} {d : PyData} (h : DTs F vs [d]) : ∃ v, vs = [v] ∧ DT F v d := by
  cases h with | cons h t => cases t; exact ⟨_, rfl, h⟩
theorem DTs.two {vs : List V} {d e : PyData} (h : DTs F vs [d, e]) : ∃ v w, vs = [v, w] ∧ DT F v d ∧ DT F w e := by
  cases h with | cons h t => obtain ⟨w, rfl, k⟩ := t.one; exact ⟨_, w, rfl, h, k⟩
theorem DTs.three {vs : List V} {d e f : PyData} (h : DTs F vs [d, e, f]) : ∃ v w x, vs = [v, w, x] ∧ DT F v d ∧ DT F w e ∧ DT F x f := by
  cases h with | cons h t => obtain ⟨w, x, rfl, k, l⟩ := t.two; exact ⟨_, w, x, rfl, h, k, l⟩
theorem DT.pair {v : V} {d e : PyData} (h : DT F v (.tuple [d, e])) : ∃ a x y, v = .ref a ∧ F a = some (.tup [x, y]) ∧ DT F x d ∧ DT F y e := by
  obtain ⟨a, xs, rfl, e1, t⟩ := h.tupV
  obtain ⟨x, y, rfl, k, l⟩ := t.two
  exact ⟨a, x, y, rfl, e1, k, l⟩
theorem DT.trip {v : V} {d e f : PyData} (h : DT F v (.tuple [d, e, f])) : ∃ a x y z, v = .ref a ∧ F a = some (.tup [x, y, z]) ∧ DT F x d ∧ DT F y e ∧ DT F z f := by
  obtain ⟨a, xs, rfl, e1, t⟩ := h.tupV
  obtain ⟨x, y, z, rfl, k, l, m⟩ := t.three
  exact ⟨a, x, y, z, rfl, e1, k, l, m⟩
end
/-! ### what a piece of work does to the heap; F: what stands still -/
structure Wd (T : List (Addr × Str)) (F H : Hp) : Prop where
  sub : Same F H
  tab : Tabs T H
  nt : ∀ b ps, F b ≠ some (.tbl ps)
structure Ev (T : List (Addr × Str)) (S : Addr → Prop) (F H F' H' : Hp) : Prop where
  wd : Wd T F' H'
  mono : Same F F'
  fix : ∀ b, H b ≠ none → F b = none → F' b = none
  keep : ∀ b o, ¬ S b → H b = some o → (∀ ps, o ≠ .tbl ps) → H' b = some o
  old : ∀ b, H' b = none → H b = none
abbrev S0 : Addr → Prop := fun _ => False
section
variable {T : List (Addr × Str)} {S S' S1 S2 : Addr → Prop} {F H F1 H1 F2 H2 : Hp} {a : Addr} {o : HO}
theorem Wd.none (w : Wd T F H) (h : H a = none) : F a = none := by
  cases e : F a with
  | none => rfl
  | some o =>
    rw [w.sub a o e] at h
    cases h
theorem Ev.refl (w : Wd T F H) : Ev T S F H F H := ⟨w, Same.refl F, fun _ _ h => h, fun _ _ _ h _ => h, fun _ h => h⟩
theorem Ev.trans (h : Ev T S1 F H F1 H1) (k : Ev T S2 F1 H1 F2 H2) (c1 : ∀ b, S1 b → S b) (c2 : ∀ b, S2 b → S b ∨ H b = none) : Ev T S F H F2 H2 := by
  refine ⟨k.wd, h.mono.trans k.mono, fun b e1 e2 => ?_, fun b o hs e n => ?_, fun b e => h.old b (k.old b e)⟩
  · exact k.fix b (fun z => e1 (h.old b z)) (h.fix b e1 e2)
  · have q := h.keep b o (fun z => hs (c1 b z)) e n
    refine k.keep b o (fun z => ?_) q n
    rcases c2 b z with c | c
    · exact hs c
    · rw [c] at e
      cases e
theorem Ev.trans0 (h : Ev T S F H F1 H1) (k : Ev T S0 F1 H1 F2 H2) : Ev T S F H F2 H2 := h.trans k (fun _ z => z) fun _ z => z.elim
theorem Ev.then (h : Ev T S F H F1 H1) (k : Ev T S F1 H1 F2 H2) : Ev T S F H F2 H2 := h.trans k (fun _ z => z) fun _ z => .inl z
theorem Ev.to (h : Ev T S1 F H F1 H1) (c : ∀ b, S1 b → S b ∨ H b = none) : Ev T S F H F1 H1 := by
  refine ⟨h.wd, h.mono, h.fix, fun b o hs e n => h.keep b o (fun z => ?_) e n, h.old⟩
  rcases c b z with c | c
  · exact hs c
  · rw [c] at e
    cases e
theorem Ev.to0 (h : Ev T S0 F H F1 H1) : Ev T S F H F1 H1 := h.to fun _ z => z.elim
theorem tabs_upd (t : Tabs T H) (h : ∀ ps, H a ≠ some (.tbl ps)) (h2 : ∀ φ, H a ≠ some (.ext φ)) : Tabs T (upd H a o) := fun p hp => by
  obtain ⟨ps, e1, e2, e3⟩ := t p hp
  have n1 : p.1 ≠ a := fun z => h ps (by rw [← z]; exact e1)
  refine ⟨ps, by rw [upd_ne n1]; exact e1, e2, fun pos cv hc => ?_⟩
  obtain ⟨c, k1, k2⟩ := e3 pos cv hc
  refine ⟨c, k1, ?_⟩
  have n2 : c ≠ a := fun z => h2 _ (by rw [← z]; exact k2)
  rw [upd_ne n2]
  exact k2
theorem nt_upd (w : ∀ b ps, F b ≠ some (.tbl ps)) (n : ∀ ps, o ≠ .tbl ps) : ∀ b ps, upd F a o b ≠ some (.tbl ps) := fun b ps e => by
  by_cases hb : b = a
  · rw [hb, upd_same] at e
    exact n ps (Option.some.inj e)
  · rw [upd_ne hb] at e
    exact w b ps e
theorem Ev.new (w : Wd T F H) (h : H a = none) : Ev T S F H F (upd H a o) := by
  refine ⟨⟨fun b u e => ?_, tabs_upd w.tab (fun ps z => by rw [h] at z; cases z) (fun φ z => by rw [h] at z; cases z), w.nt⟩, Same.refl F, fun _ _ e => e, fun b u _ e _ => ?_, fun b e => ?_⟩
  · rw [upd_ne (ne_of_none (w.sub b u e) h)]
    exact w.sub b u e
  · rw [upd_ne (ne_of_none e h)]
    exact e
  · by_cases hb : b = a
    · rw [hb, upd_same] at e
      cases e
    · rw [upd_ne hb] at e
      exact e
theorem Ev.frz (w : Wd T F H) (h : H a = none) (nt : ∀ ps, o ≠ .tbl ps := by intro ps z; cases z) : Ev T S F H (upd F a o) (upd H a o) := by
  have n := Ev.new (S := S) (o := o) w h
  refine ⟨⟨fun b u e => ?_, n.wd.tab, nt_upd w.nt nt⟩, fun b u e => ?_, fun b e1 e2 => ?_, n.keep, n.old⟩
  · by_cases hb : b = a
    · rw [hb, upd_same] at e ⊢
      exact e
    · rw [upd_ne hb] at e ⊢
      exact w.sub b u e
  · rw [upd_ne (ne_of_none (w.sub b u e) h)]
    exact e
  · have hb : b ≠ a := fun z => e1 (by rw [z]; exact h)
    rw [upd_ne hb]
    exact e2
/-- a thing made on the way is left alone from now on -/
theorem Ev.freeze (k : Ev T S F H F1 H1) (h : H a = none) (h1 : H1 a = some o) (hf : F1 a = none) (nt : ∀ ps, o ≠ .tbl ps := by intro ps z; cases z) : Ev T S F H (upd F1 a o) H1 := by
  refine ⟨⟨fun b u e => ?_, k.wd.tab, nt_upd k.wd.nt nt⟩, fun b u e => ?_, fun b e1 e2 => ?_, k.keep, k.old⟩
  · by_cases hb : b = a
    · rw [hb, upd_same] at e
      rw [hb, h1]
      exact e
    · rw [upd_ne hb] at e
      exact k.wd.sub b u e
  · have hb : b ≠ a := fun z => by
      rw [z] at e
      have q := k.mono a u e
      rw [hf] at q
      cases q
    rw [upd_ne hb]
    exact k.mono b u e
  · have hb : b ≠ a := fun z => e1 (by rw [z]; exact h)
    rw [upd_ne hb]
    exact k.fix b e1 e2
theorem Ev.set {o' : HO} (w : Wd T F H) (h : H a = some o') (hf : F a = none) (n1 : ∀ ps, o' ≠ .tbl ps) (n2 : ∀ φ, o' ≠ .ext φ) (hs : S a) : Ev T S F H F (upd H a o) := by
  refine ⟨⟨fun b u e => ?_, tabs_upd w.tab (fun ps z => by rw [h] at z; exact n1 ps (Option.some.inj z)) (fun φ z => by rw [h] at z; exact n2 φ (Option.some.inj z)), w.nt⟩, Same.refl F, fun _ _ e => e, fun b u hn e _ => ?_, fun b e => ?_⟩
  · have hb : b ≠ a := fun z => by
      rw [z, hf] at e
      cases e
    rw [upd_ne hb]
    exact w.sub b u e
  · have hb : b ≠ a := fun z => hn (z ▸ hs)
    rw [upd_ne hb]
    exact e
  · by_cases hb : b = a
    · rw [hb, upd_same] at e
      cases e
    · rw [upd_ne hb] at e
      exact e
/-- behind a piece of work: what was none of its business -/
theorem Ev.kp (k : Ev T S F H F1 H1) (h : H a = some o) (hs : ¬ S a := by intro z; exact z.elim) (n : ∀ ps, o ≠ .tbl ps := by intro ps z; cases z) : H1 a = some o := k.keep a o hs h n
theorem Ev.nf (k : Ev T S F H F1 H1) (h : H a = some o) (hf : F a = none) : F1 a = none := k.fix a (by rw [h]; intro z; cases z) hf
theorem Ev.fr (k : Ev T S F H F1 H1) (h : H1 a = none) : H a = none := k.old a h
theorem Ev.dt {v : V} {d : PyData} (k : Ev T S F H F1 H1) (h : DT F v d) : DT F1 v d := DT.mono k.mono d v h
theorem Ev.dts {vs : List V} {ds : List PyData} (k : Ev T S F H F1 H1) (h : DTs F vs ds) : DTs F1 vs ds := DTs.mono k.mono ds vs h
theorem Ev.of_fresh (k : Ev T S F H F1 H1) (h : H1 a = none) : F1 a = none := k.wd.none h
end
end K64
/-! ## KText -/
set_option Elab.async false
set_option linter.all false
set_option maxRecDepth 100000
set_option maxHeartbeats 2000000
namespace K64
open PySem PySem.Spec PyProof.Rows L2 LamX
def top (i : Nat) : Stmt := PySem.Challenge.pw_allwordlengths_k64_whole_deeds_at_once.main.body.getD i (.Pass ⟨0, 0, 0, 0⟩)
/-- the positions in an exception's __init__ -/
def posA (a : Arguments) (i : Nat) : Pos := match a.args[i]? with | some x => x.pos | none => ⟨0, 0, 0, 0⟩
def pos0 : Pos := ⟨0, 0, 0, 0⟩
def xposOf (st : Stmt) : XPos :=
  let b := defBody st
  let c : Pos × Pos × Pos × Pos × Pos × Pos := match b with
    | .Expr (.Call (.Attribute (.Call (.Name _ p0) _ _ p1) _ p2) (.Constant _ _ p3 :: _) _ p4) p5 :: _ => (p0, p1, p2, p3, p4, p5)
    | _ => (pos0, pos0, pos0, pos0, pos0, pos0)
  let q : Pos × Pos × Pos × Pos := match b with
    | _ :: .Assign (.Attribute (.Name _ q1) _ q2 :: _) (.Name _ q3) q4 :: _ => (q1, q2, q3, q4)
    | _ => (pos0, pos0, pos0, pos0)
  ⟨posA (defArgs st) 0, posA (defArgs st) 1, c.1, c.2.1, c.2.2.1, c.2.2.2.1, c.2.2.2.2.1, c.2.2.2.2.2, q.1, q.2.1, q.2.2.1, q.2.2.2⟩
abbrev e_TooMany : Stmt := inClass (top 8) 0
abbrev e_NothingToUndo : Stmt := inClass (top 9) 0
abbrev e_BadName : Stmt := inClass (top 10) 0
abbrev e_NoName : Stmt := inClass (top 11) 0
abbrev e_NothingToRedo : Stmt := inClass (top 13) 0
theorem form_TooMany : defBody e_TooMany = [xSup "there are too many" (xposOf e_TooMany), xSto "most" (xposOf e_TooMany)] ∧ defArgs e_TooMany = xArgs "most" (xposOf e_TooMany) ∧ defScope e_TooMany = xScope "most" := ⟨rfl, rfl, rfl⟩
theorem form_BadName : defBody e_BadName = [xSup "the name is wrong" (xposOf e_BadName), xSto "name" (xposOf e_BadName)] ∧ defArgs e_BadName = xArgs "name" (xposOf e_BadName) ∧ defScope e_BadName = xScope "name" := ⟨rfl, rfl, rfl⟩
theorem form_NoName : defBody e_NoName = [xSup "the name is not there" (xposOf e_NoName), xSto "name" (xposOf e_NoName)] ∧ defArgs e_NoName = xArgs "name" (xposOf e_NoName) ∧ defScope e_NoName = xScope "name" := ⟨rfl, rfl, rfl⟩
theorem form_NothingToUndo : defBody e_NothingToUndo = [xSup "there is nothing to undo" (xposOf e_NothingToUndo)] ∧ defArgs e_NothingToUndo = xArgs0 (xposOf e_NothingToUndo) ∧ defScope e_NothingToUndo = xScope0 := ⟨rfl, rfl, rfl⟩
theorem form_NothingToRedo : defBody e_NothingToRedo = [xSup "there is nothing to do again" (xposOf e_NothingToRedo)] ∧ defArgs e_NothingToRedo = xArgs0 (xposOf e_NothingToRedo) ∧ defScope e_NothingToRedo = xScope0 := ⟨rfl, rfl, rfl⟩
theorem Z_TooMany : XForm "TooMany.__init__" "most" "there are too many" (xposOf e_TooMany) := ⟨by decide +kernel, by decide +kernel, by decide +kernel, by decide +kernel, by decide +kernel, by intros; rfl, by intros; exact ⟨_, rfl⟩, by intros; rfl, by intros; rfl⟩
theorem Z_BadName : XForm "BadName.__init__" "name" "the name is wrong" (xposOf e_BadName) := ⟨by decide +kernel, by decide +kernel, by decide +kernel, by decide +kernel, by decide +kernel, by intros; rfl, by intros; exact ⟨_, rfl⟩, by intros; rfl, by intros; rfl⟩
theorem Z_NoName : XForm "NoName.__init__" "name" "the name is not there" (xposOf e_NoName) := ⟨by decide +kernel, by decide +kernel, by decide +kernel, by decide +kernel, by decide +kernel, by intros; rfl, by intros; exact ⟨_, rfl⟩, by intros; rfl, by intros; rfl⟩
theorem Z_NothingToUndo : XForm0 "NothingToUndo.__init__" "there is nothing to undo" (xposOf e_NothingToUndo) := ⟨by intros; rfl, by intros; exact ⟨_, rfl⟩, by intros; rfl⟩
theorem Z_NothingToRedo : XForm0 "NothingToRedo.__init__" "there is nothing to do again" (xposOf e_NothingToRedo) := ⟨by intros; rfl, by intros; exact ⟨_, rfl⟩, by intros; rfl⟩
/-! ### an exception's field read in its clause -/
structure XRd (K : PySem.W.Frag) (C : Addr) (f : Str) : Prop where
  ga : PySem.W.findIn K (.ref C) "__getattribute__" = some (some (.builtin "BaseException.__getattribute__"))
  gg : PySem.W.findIn K (.ref C) "__getattr__" = some none
  exC : PySem.W.subIn K (.ref C) (.type "BaseException") = some true
  hdC : PySem.W.hasDictIn K C = true
  noN : PySem.W.findIn K (.ref C) f = some none
def tExF (C : Addr) (f : Str) (a : Addr) (cls : Value) (d : Option Addr) (te : TE) : TE := fun σ H Q => te σ H fun x H1 => x = .ref a ∧ cls = .ref C ∧ ∃ (dd : Addr) (v : V), d = some dd ∧ H1 dd = some (.xd [(f, v)]) ∧ Q v H1
theorem pe_exF {X : Cx} {C a : Addr} {f : Str} {oe : Obj} {cls : Value} {d : Option Addr} {pn : List (Addr × Obj)} {e : Expr} {te : TE} {pos : Pos} (T : XRd X.K C f) (hz : Zc cls d oe) (hf : ∃ vs, oe.data = .fields vs) (he : PE (X.suite a ((a, oe) :: pn)) e te)
    (hb : attributeBase e f X.env (eval e X.env) = eval e X.env := by rfl) : PE (X.suite a ((a, oe) :: pn)) (.Attribute e f pos) (tExF C f a cls d te) := by
  refine ⟨fun pins s σ H Q I h => ?_⟩
  refine attr_of hb (thn (he.run pins s σ H _ I h) fun u s1 ⟨x, H1, I1, rx, ex, ec, dd, v, ed, ea, q⟩ => ?_)
  subst ex ec ed
  obtain rfl : u = Value.ref a := rx
  obtain ⟨ha, _⟩ := I1.pin (a, oe) (List.mem_append_left _ List.mem_cons_self)
  obtain ⟨vs, hd⟩ := hf
  obtain ⟨mA, hns, hr⟩ := (show ObjOk X.prog X.w H1 s1.heap dd (.xd [(f, v)]) from I1.hok dd _ ea)
  obtain ⟨od, ho, hl⟩ := lookIn_ns hns
  have l : List.lookup f [(f, v)] = some v := by simp [List.lookup]
  obtain ⟨u, hu, ru⟩ := RelO.some_of (v := v) (o := mA f) (by rw [← l]; exact hr f)
  have J : PySem.W.InstAt s1.heap a oe C (some od) := ⟨ha, hz.1, by unfold PySem.W.notCls; rw [hd] <;> rfl, by rw [hz.2]; exact ho⟩
  exact HandSPX.exc_get I1.kIn J T.ga T.gg T.exC (PySem.W.findObj_own T.hdC T.noN rfl (by rw [hl, hu])) (handed_of ru) ⟨v, H1, I1.tok _, ru, q⟩
/-! ### what the written part says -/
structure Ad where
  (CB CP CS : Addr)
  (t1 t2 t3 t4 t5 t6 : Tok)
  (aPlain aShifted aShiftT : Addr)
  (xTM xBN xNN xNU xNR : Addr)
  (iTM iBN iNN iNU iNR : Addr)
structure Txt (P : Program) (K : PySem.W.Frag) (mg : Str → Option Value) (A : Ad) : Prop where
  clB : Cls K A.CB
  clP : Cls K A.CP
  clS : Cls K A.CS
  nBp : NoAttr K A.CB "programs"
  nBa : NoAttr K A.CB "past"
  nBf : NoAttr K A.CB "future"
  nPt : NoAttr K A.CP "text"
  nPs : NoAttr K A.CP "steps"
  nSt : NoAttr K A.CS "text"
  nSk : NoAttr K A.CS "kind"
  nSb : NoAttr K A.CS "by"
  nSr : NoAttr K A.CS "rest"
  fiB : ∀ f, Meth K A.CB "__getitem__" f → PySem.W.fnIn K f = true
  nsB : PySem.W.noSeq K A.CB = true
  neP : PySem.W.findIn K (.ref A.CP) "__ne__" = some (some (.builtin "object.__ne__"))
  obP : PySem.W.subIn K (.ref A.CP) (.type "object") = some true
  isP : PySem.W.kitOne K (.ref A.CP) (.ref A.CP) = some true
  isS : PySem.W.kitOne K (.ref A.CS) (.ref A.CS) = some true
  tyP : PySem.W.findIn K (.ref A.CP) "__class__" = some (some (.builtin "object.__class__"))
  tyS : PySem.W.findIn K (.ref A.CS) "__class__" = some (some (.builtin "object.__class__"))
  moP : PySem.W.mroIn K A.CP (.type "object") = some true
  moS : PySem.W.mroIn K A.CS (.type "object") = some true
  gn : PySem.W.specialIn K (.builtin "object.__class__") "__get__" = some (some (.builtin "getset_descriptor.__get__"))
  gt : PySem.W.takesIn K (.builtin "object.__class__") = some true
  g_Program : mg "Program" = some (.ref A.CP)
  g_Step : mg "Step" = some (.ref A.CS)
  g_Bench : mg "Bench" = some (.ref A.CB)
  g_MOST_STEPS : mg "MOST_STEPS" = some (.int 5 A.t1)
  g_MOST_DEALS : mg "MOST_DEALS" = some (.int 2 A.t2)
  g_MOST_NAMES : mg "MOST_NAMES" = some (.int 20 A.t3)
  g_MOST_LETTERS : mg "MOST_LETTERS" = some (.int 12 A.t4)
  g_BETWEEN : mg "BETWEEN" = some (.str " then " A.t5)
  g_LETTERS : mg "LETTERS" = some (.str "abcdefghijklmnopqrstuvwxyz" A.t6)
  g_PLAIN : mg "PLAIN" = some (.ref A.aPlain)
  g_SHIFTED : mg "SHIFTED" = some (.ref A.aShifted)
  g_SHIFT_TEXTS : mg "SHIFT_TEXTS" = some (.ref A.aShiftT)
  s_PLAIN : ∀ H, SqT K H A.aPlain (plainK.map V.str)
  s_SHIFTED : ∀ H, SqT K H A.aShifted (shiftK.map V.str)
  s_SHIFT_TEXTS : ∀ H, SqT K H A.aShiftT (shiftT.map V.str)
  z_int : mg "int" = none
  z_len : mg "len" = none
  z_str : mg "str" = none
  z_abs : mg "abs" = none
  z_range : mg "range" = none
  z_list : mg "list" = none
  z_tuple : mg "tuple" = none
  z_isinstance : mg "isinstance" = none
  z_iter : mg "iter" = none
  z_all : mg "all" = none
  z_enumerate : mg "enumerate" = none
  z_KeyError : mg "KeyError" = none
  x_TooMany : XCls P K mg "TooMany" A.xTM A.iTM "TooMany.__init__" (xArgs "most" (xposOf e_TooMany)) [xSup "there are too many" (xposOf e_TooMany), xSto "most" (xposOf e_TooMany)] (xScope "most")
  x_BadName : XCls P K mg "BadName" A.xBN A.iBN "BadName.__init__" (xArgs "name" (xposOf e_BadName)) [xSup "the name is wrong" (xposOf e_BadName), xSto "name" (xposOf e_BadName)] (xScope "name")
  x_NoName : XCls P K mg "NoName" A.xNN A.iNN "NoName.__init__" (xArgs "name" (xposOf e_NoName)) [xSup "the name is not there" (xposOf e_NoName), xSto "name" (xposOf e_NoName)] (xScope "name")
  x_NothingToUndo : XCls P K mg "NothingToUndo" A.xNU A.iNU "NothingToUndo.__init__" (xArgs0 (xposOf e_NothingToUndo)) [xSup "there is nothing to undo" (xposOf e_NothingToUndo)] xScope0
  x_NothingToRedo : XCls P K mg "NothingToRedo" A.xNR A.iNR "NothingToRedo.__init__" (xArgs0 (xposOf e_NothingToRedo)) [xSup "there is nothing to do again" (xposOf e_NothingToRedo)] xScope0
  rdT : XRd K A.xTM "most"
  rdB : XRd K A.xBN "name"
  rdN : XRd K A.xNN "name"
  mTT : PySem.W.exmOne K (.ref A.xTM) (.ref A.xTM) = some true
  mNN : PySem.W.exmOne K (.ref A.xNN) (.ref A.xNN) = some true
  mTN : PySem.W.exmOne K (.ref A.xTM) (.ref A.xNN) = some false
  mBB : PySem.W.exmOne K (.ref A.xBN) (.ref A.xBN) = some true
  mBK : PySem.W.exmOne K (.ref A.xBN) (.type "KeyError") = some false
  mKK : PySem.W.exmOne K (.type "KeyError") (.type "KeyError") = some true
  mUU : PySem.W.exmOne K (.ref A.xNU) (.ref A.xNU) = some true
  mRR : PySem.W.exmOne K (.ref A.xNR) (.ref A.xNR) = some true
  crP : ClX.CRead K A.CP (.type "type")
theorem Txt.isaP {P : Program} {K : PySem.W.Frag} {mg : Str → Option Value} {A : Ad} (T : Txt P K mg A) {H : Hp} {a dx : Addr} {fs : List (Str × V)} (e : H a = some (.ins A.CP dx fs)) : TyX K H (.ref a) (.ref A.CP) := .base (.ins e T.clP T.tyP T.gn T.gt T.moP)
theorem Txt.isaS {P : Program} {K : PySem.W.Frag} {mg : Str → Option Value} {A : Ad} (T : Txt P K mg A) {H : Hp} {a dx : Addr} {fs : List (Str × V)} (e : H a = some (.ins A.CS dx fs)) : TyX K H (.ref a) (.ref A.CS) := .base (.ins e T.clS T.tyS T.gn T.gt T.moS)
end K64
/-! ## KDef -/
set_option Elab.async false
set_option linter.all false
set_option maxRecDepth 100000
set_option maxHeartbeats 2000000
namespace K64
open PySem PySem.Spec PyProof.Rows L2 LamX
/-- a def of the module; a method; a class's __init__: where it stands -/
structure DefG (K : PySem.W.Frag) (mg : Str → Option Value) (x : Str) (st : Stmt) : Prop where
  ex : ∃ f fd, mg x = some (.ref f) ∧ L2.Fun K x x st f fd
structure DefM (K : PySem.W.Frag) (C : Addr) (m qual : Str) (st : Stmt) : Prop where
  ex : ∃ f fd, Meth K C m f ∧ L2.Fun K m qual st f fd
structure DefI (K : PySem.W.Frag) (mg : Str → Option Value) (C : Addr) (x qual : Str) (st : Stmt) : Prop where
  ex : ∃ f fd, mg x = some (.ref C) ∧ Mk K C f ∧ L2.Fun K "__init__" qual st f fd
section
variable {P : Program} {w : World} {K : PySem.W.Frag} {mg : Str → Option Value} {base : Heap} {CX : CXT} {k : Nat} {C : Addr} {x m qual : Str} {st : Stmt} {ps : List Str} {sp : Sp}
theorem DefG.mk' (D : DefG K mg x st) (hb : ∀ f fd, L2.Fun K x x st f fd → Binds K fd ps []) (h : ∀ f fd, L2.Fun K x x st f fd → FnOk P w K mg base CX k f fd ps sp) : FnG P w K mg base CX k x ps sp := by
  obtain ⟨f, fd, e, F⟩ := D.ex
  exact ⟨f, fd, e, F.kp, hb f fd F, h f fd F⟩
theorem DefM.mk' (D : DefM K C m qual st) (hb : ∀ f fd, L2.Fun K m qual st f fd → Binds K fd ps []) (h : ∀ f fd, L2.Fun K m qual st f fd → FnOk P w K mg base CX k f fd ps sp) : MtG P w K mg base CX k C m ps sp := by
  obtain ⟨f, fd, e, F⟩ := D.ex
  exact ⟨f, fd, e, hb f fd F, h f fd F⟩
theorem DefI.mk' (D : DefI K mg C x qual st) (hb : ∀ f fd, L2.Fun K "__init__" qual st f fd → Binds K fd ps []) (h : ∀ f fd, L2.Fun K "__init__" qual st f fd → FnOk P w K mg base CX k f fd ps sp) : MkG P w K mg base CX k C x ps sp := by
  obtain ⟨f, fd, e, M, F⟩ := D.ex
  exact ⟨f, fd, e, M, hb f fd F, h f fd F⟩
end
/-! ### small things for the readings -/
theorem itT {c : Bool} {A B : Prop} (hc : c = true) (h : A) : if c = true then A else B := by
  rw [if_pos hc]
  exact h
theorem itF {c : Bool} {A B : Prop} (hc : c = false) (h : B) : if c = true then A else B := by
  rw [hc, if_neg Bool.false_ne_true]
  exact h
theorem it2 {c : Bool} {A B : Prop} (h1 : c = true → A) (h2 : c = false → B) : if c = true then A else B := by
  cases c with
  | true => exact itT rfl (h1 rfl)
  | false => exact itF rfl (h2 rfl)
theorem str_ne {x y : Str} (h : x ≠ y) : decide (V.str x = V.str y) = false := decide_eq_false fun e => h (V.str.inj e)
theorem dec_str {x y : Str} : decide (V.str x = V.str y) = decide (x = y) := by
  by_cases h : x = y
  · rw [h]
    simp
  · rw [str_ne h, decide_eq_false h]
theorem dec_int {x y : Int} : decide (V.int x = V.int y) = decide (x = y) := by
  by_cases h : x = y
  · rw [h]
    simp
  · rw [decide_eq_false h]
    exact decide_eq_false fun e => h (V.int.inj e)
theorem inV_str (x : Str) : ∀ ys : List Str, L2.inV (.str x) (ys.map V.str) = decide (x ∈ ys)
  | [] => rfl
  | y :: ys => by
    have ih := inV_str x ys
    have e : L2.inV (.str x) ((y :: ys).map V.str) = ((y == x) || L2.inV (.str x) (ys.map V.str)) := rfl
    rw [e, ih]
    by_cases h : y = x
    · rw [h]
      simp
    · have h2 : (y == x) = false := beq_eq_false_iff_ne.mpr h
      rw [h2, Bool.false_or]
      have h3 : (x ∈ y :: ys) = (x ∈ ys) := propext ⟨fun z => (List.mem_cons.mp z).elim (fun q => absurd q.symm h) id, fun z => List.mem_cons_of_mem _ z⟩
      simp only [h3]
theorem flat_strs (ys : List Str) : (ys.map V.str).all flatV = true := List.all_eq_true.mpr fun v hv => by
  obtain ⟨x, _, rfl⟩ := List.mem_map.mp hv
  rfl
end K64
/-! ## KRulesK -/
set_option Elab.async false
set_option linter.all false
set_option maxRecDepth 100000
set_option maxHeartbeats 2000000
namespace K64
open PySem PySem.Spec PyProof.Rows L2
/-! ### rules whose readings speak of the written part, by its own name: a reading within a block must not speak of the block -/
section
variable {X : Cx} {K : PySem.W.Frag}
theorem ix_tupK (h : X.K = K := by rfl) : IxR X (rIxT K) := h ▸ ix_tup
theorem ix_listK (h : X.K = K := by rfl) : IxR X (rIxL K) := h ▸ ix_list
theorem ix_seqK (h : X.K = K := by rfl) : IxR X (rIx K) := h ▸ ix_seq
theorem op_in_seqK (h : X.K = K := by rfl) : OpR X (compareOp .In) (rIn K false) := h ▸ op_in_seq
theorem op_notIn_seqK (h : X.K = K := by rfl) : OpR X (compareOp .NotIn) (rIn K true) := h ▸ op_notIn_seq
theorem op_eqDK (hu : X.A.units + 64 < cLine) (h : X.K = K := by rfl) : OpR X (compareOp .Eq) (rEqD K) := h ▸ op_eqD hu
theorem op_neDK (hu : X.A.units + 64 < cLine) (h : X.K = K := by rfl) : OpR X (compareOp .NotEq) (rNeD K) := h ▸ op_neD hu
theorem pg_tupK {es : List Expr} {k : Nat} {pos : Pos} {t : TGs} {n : Nat} (h : PGs X es t) (hK : X.K = K := by rfl) (hc : X.calm = true := by rfl)
    (hn : (assignEach es X.env).length = n := by rfl) (hst : (assignEach es X.env).findIdx? (·.1) = none := by rfl) : PG X (.Tuple es k pos) (gTup K n t) := hK ▸ pg_tup hc h hn hst
theorem pi_listK {tg l : Expr} {tl : TE} (hl : PE X l tl) (h : X.K = K := by rfl) : PI X tg l (iList K tl) := h ▸ pi_list hl
theorem pi_tupK {tg l : Expr} {tl : TE} (hl : PE X l tl) (h : X.K = K := by rfl) : PI X tg l (iTup K tl) := h ▸ pi_tup hl
theorem pi_enumK {e : Expr} {ta : TA} {p pos tpos : Pos} {elts : List Expr} {kk : Nat} (hg : Gl X "enumerate") (hm : X.mg "enumerate" = none) (ha : PA X [e] ta) (h : X.K = K := by rfl) (hs : starEach [e] X.env = [(false, eval e X.env)] := by rfl) :
    PI X (.Tuple elts kk tpos) (.Call (.Name "enumerate" p) [e] [] pos) (iEnum K ta) := h ▸ pi_enum hg hm ha hs
def rLenS (K : PySem.W.Frag) : List V → Hp → VK → Prop := fun xs H Q => ∃ (p : Addr) (ys : List V), xs = [.ref p] ∧ (SqL K H p ys ∨ SqT K H p ys) ∧ Q (.int ys.length) H
theorem call_len_seqK (h : X.K = K := by rfl) : CallR X (.builtin "len") (rLenS K) := h ▸ call_len_seq
def rLen (K : PySem.W.Frag) : List V → Hp → VK → Prop := fun xs H Q => ∃ (x : V) (n : Nat), xs = [x] ∧ LenV K x H n ∧ Q (.int n) H
theorem call_lenK (h : X.K = K := by rfl) : CallR X (.builtin "len") (rLen K) := h ▸ call_len
def rListO (K : PySem.W.Frag) : List V → Hp → VK → Prop := fun xs H Q => ∃ (p : Addr) (ys : List V), xs = [.ref p] ∧ (SqL K H p ys ∨ SqT K H p ys) ∧ ∀ l, H l = none → Q (.ref l) (upd H l (.lst ys))
theorem call_list_ofK (h : X.K = K := by rfl) : CallR X (.type "list") (rListO K) := h ▸ call_list_of
def rTupO (K : PySem.W.Frag) : List V → Hp → VK → Prop := fun xs H Q => ∃ (p : Addr) (ys : List V), xs = [.ref p] ∧ ((SqL K H p ys ∧ ∀ l, H l = none → Q (.ref l) (upd H l (.tup ys))) ∨ (SqT K H p ys ∧ Q (.ref p) H))
theorem call_tuple_ofK (h : X.K = K := by rfl) : CallR X (.type "tuple") (rTupO K) := h ▸ call_tuple_of
theorem cr_allK (h : X.K = K := by rfl) (hc : X.calm = true := by rfl) : CallR X (.builtin "all") (rAll K) := h ▸ cr_all hc
theorem call_isiK (h : X.K = K := by rfl) : CallR X (.builtin "isinstance") (rIsi K) := h ▸ call_isi
theorem sl_listK (h : X.K = K := by rfl) : SlR X (rSlL K) := h ▸ sl_list
def rJoin (K : PySem.W.Frag) : V → List V → Hp → VK → Prop := fun x xs H Q => ∃ (a : Str) (p : Addr) (ys : List Str), x = .str a ∧ xs = [.ref p] ∧ (SqL K H p (ys.map V.str) ∨ SqT K H p (ys.map V.str)) ∧
  (ys.map (·.length)).sum + ys.length * a.length ≤ 16777216 ∧ Q (.str (Txt.join a ys)) H
theorem pe_joinK {o e : Expr} {to te : TE} {apos pos : Pos} (ho : PE X o to) (he : PE X e te) (h : X.K = K := by rfl) (hs : starEach [e] X.env = [(false, eval e X.env)] := by rfl) (hbase : attributeBase o "join" X.env (eval o X.env) = eval o X.env := by rfl) (hline : (apos.endLine == pos.line) = true := by rfl) :
    PE X (.Call (.Attribute o "join" apos) [e] [] pos) (tM1 (rJoin K) to te) := h ▸ pe_join ho he hs hbase hline
theorem pe_fldK {e : Expr} {f : Str} {pos : Pos} {ta : TE} (he : PE X e ta) (h : X.K = K := by rfl) (hb : attributeBase e f X.env (eval e X.env) = eval e X.env := by rfl) : PE X (.Attribute e f pos) (tFld K ta f) := h ▸ pe_fld he hb
theorem ps_fldK {o value : Expr} {f : Str} {pos pos' : Pos} {ta tv : TE} (ha : PE X o ta) (hv : PE X value tv) (h : X.K = K := by rfl) (hs : swapsWith value (some (.Attribute o f pos')) pos.line X.env = pure false := by rfl) :
    PS X (.Assign [.Attribute o f pos'] value pos) (sFld K ta tv f) := h ▸ ps_fld ha hv hs
theorem pg_fldK {o : Expr} {f : Str} {pos : Pos} {ta : TE} (ha : PE X o ta) (h : X.K = K := by rfl) : PG X (.Attribute o f pos) (gFld K ta f) := h ▸ pg_fld ha
def tTru (K : PySem.W.Frag) (ta : TE) : TT := fun σ H Q => ta σ H fun x H' => ∃ k, TruV K x H' k ∧ Q k H'
theorem pt_truthK {a : Expr} {ta : TE} (ha : PE X a ta) (h : X.K = K := by rfl) (he : ∀ whole, isTrue a X.env whole = (do let v ← whole; standAt a.pos; holding [v] (truthy v)) := by intro _; rfl) : PT X a (tTru K ta) := h ▸ pt_truth ha he
theorem pe_bmK {o e : Expr} {es : List Expr} {to : TE} {t : TA} {name : Str} {apos cpos : Pos} {T id : String} {r : V → List V → Hp → VK → Prop} (pa : PlainAttrs T) (slot : Slot T name id) (hty : typeOf (.builtin id) = pure (.type "method_descriptor")) (hm : MtR X id r) (ho : PE X o to) (ha : PA X (e :: es) t) (h : X.K = K := by rfl)
    (hbase : attributeBase o name X.env (eval o X.env) = eval o X.env := by rfl)
    (hfew : ((backTo cpos (starEach (e :: es) X.env)).all (fun x => !x.1) && (backToKw cpos (keywordEach [] X.env)).all (fun x => x.1.isSome)
      && decide ((e :: es).length + ([] : List Keyword).length + (if ([] : List Keyword).isEmpty then 0 else 1) < 30)) = true := by rfl)
    (hline : (apos.endLine == cpos.line) = true := by rfl) (hs : starEach (e :: es) X.env = (false, eval e X.env) :: starEach es X.env := by rfl) (hplain : (backTo cpos (starEach es X.env)).any (·.1) = false := by rfl) :
    PE X (.Call (.Attribute o name apos) (e :: es) [] cpos) (tBM K T r to t) := h ▸ pe_bm pa slot hty hm ho ha hbase hfew hline hs hplain
theorem pe_bm0K' {o : Expr} {to : TE} {name : Str} {apos cpos : Pos} {T id : String} {r : V → List V → Hp → VK → Prop} (pa : PlainAttrs T) (slot : Slot T name id) (hty : typeOf (.builtin id) = pure (.type "method_descriptor")) (hm : MtR X id r) (ho : PE X o to) (h : X.K = K := by rfl)
    (hbase : attributeBase o name X.env (eval o X.env) = eval o X.env := by rfl) (hline : (apos.endLine == cpos.line) = true := by rfl) : PE X (.Call (.Attribute o name apos) [] [] cpos) (tBM0 K T r to) := h ▸ pe_bm0 pa slot hty hm ho hbase hline
theorem pe_revTK {e : Expr} {te : TE} {k : Nat} {p1 p2 p3 pos : Pos} (he : PE X e te) (h : X.K = K := by rfl) : PE X (.Subscript e (.Slice none none (some (.UnaryOp .USub (.Constant (.int 1) k p1) p2)) p3) pos) (tRevT K te) := h ▸ pe_revT he
theorem pe_revLK {e : Expr} {te : TE} {k : Nat} {p1 p2 p3 pos : Pos} (he : PE X e te) (h : X.K = K := by rfl) : PE X (.Subscript e (.Slice none none (some (.UnaryOp .USub (.Constant (.int 1) k p1) p2)) p3) pos) (tRevL K te) := h ▸ pe_revL he
theorem ps_clausesK {body : List Stmt} {h₀ : ExceptHandler} {hds : List ExceptHandler} {l : List Clause} {pos : Pos} {tb : WX → TS} {Wout : WX} (hN : X.N.Nodup) (tk : Takes X Wout)
    (hb : ∀ (W : WX) (pn : List (Addr × Obj)) (xe : Value → Shared → Prop), Takes (X.tr pn xe) W → PassesOwn (model X.prog X.w) X.A X.env xe → PSs (X.tr pn xe) body (tb W))
    (hh : Clauses X (h₀ :: hds) l) (h : X.K = K := by rfl) (hs : X.stack = X.env :: X.outer := by rfl) (hf : X.env.frame = some X.env.locals := by rfl) : PS X (.Try body (h₀ :: hds) [] [] pos) (tTry K tb l Wout) := h ▸ ps_clauses hs hf hN tk hb hh
end
end K64
/-! ## KComp -/
set_option Elab.async false
set_option linter.all false
set_option maxRecDepth 100000
set_option maxHeartbeats 2000000
namespace K64
open PySem PySem.Spec PyProof.Rows L2 LamX
section
variable {T : List (Addr × Str)} {F H : Hp} {K : PySem.W.Frag}
theorem sz0 : 0 ≤ sizeLine := by decide
theorem sz1 : 1 ≤ sizeLine := by decide
theorem sz2 : 2 ≤ sizeLine := by decide
theorem sz3 : 3 ≤ sizeLine := by decide
theorem szN {n : Nat} (h : n ≤ 1000000) : n ≤ sizeLine := Nat.le_trans h (by decide)
theorem szL {n : Nat} (h : n ≤ 1000000) : n < sizeLine := Nat.lt_of_le_of_lt h (by decide)
theorem tRet_ {te : TE} {D : Ends} {σ : L2.St} {H : Hp} (h : te σ H D.rt) : tRet te D σ H := h
theorem tOp_ {r : R2} {ta tb : TE} {σ : L2.St} {H : Hp} {Q : VK} (h : ta σ H fun x H1 => tb σ H1 fun y H2 => r x y H2 Q) : tOp r ta tb σ H Q := h
theorem tAsg_ {te : TE} {g : TG} {D : Ends} {σ : L2.St} {H : Hp} (h : te σ H fun x H1 => g x σ H1 D.nx) : tAsg te g D σ H := h
theorem tPar_ {i j : Nat} {ta : TA} {D : Ends} {σ : L2.St} {H : Hp} (h : ta σ H fun vs H1 => ∃ v w, vs = [v, w] ∧ D.nx ((σ.set i (some v)).set j (some w)) H1) : tPar i j ta D σ H := h
theorem tCons_ {ta : TE} {tr : TA} {σ : L2.St} {H : Hp} {Q : List V → Hp → Prop} (h : ta σ H fun x H1 => tr σ H1 fun xs H2 => Q (x :: xs) H2) : tCons ta tr σ H Q := h
theorem tSeq_ {t u : TS} {D : Ends} {σ : L2.St} {H : Hp} (h : t { D with nx := u D } σ H) : tSeq t u D σ H := h
theorem tDrop_ {te : TE} {D : Ends} {σ : L2.St} {H : Hp} (h : te σ H fun _ H1 => D.nx σ H1) : tDrop te D σ H := h
theorem tIfS_ {c : TT} {t u : TS} {D : Ends} {σ : L2.St} {H : Hp} (h : c σ H fun b H1 => if b = true then t D σ H1 else u D σ H1) : tIfS c t u D σ H := h
theorem tTest_ {t : TE} {σ : L2.St} {H : Hp} {Q : Bool → Hp → Prop} (h : t σ H fun x H' => ∃ k, x = .bl k ∧ Q k H') : tTest t σ H Q := h
theorem tCB_ {r : List V → Hp → VK → Prop} {t : TA} {σ : L2.St} {H : Hp} {Q : VK} (h : t σ H fun vs H1 => r vs H1 Q) : tCB r t σ H Q := h
theorem tCallS_ {sp : Sp} {E : L2.St → XK} {t : TA} {σ : L2.St} {H : Hp} {Q : VK} (h : t σ H fun vs H1 => sp vs H1 Q (E σ)) : tCallS sp E t σ H Q := h
theorem tTup_ {t : TA} {σ : L2.St} {H : Hp} {Q : VK} (h : t σ H fun xs H1 => xs.length ≤ sizeLine ∧ ∀ p, H1 p = none → Q (.ref p) (upd H1 p (.tup xs))) : tTup t σ H Q := h
theorem yes_ {σ : L2.St} {H : Hp} {te : TE} {R : V → Hp → Prop} {R0 : Hp → Prop} (h : te σ H R) : tYes σ H (fun b H4 => if b = true then te σ H4 R else R0 H4) := by
  show if true = true then te σ H R else R0 H
  exact itT rfl h
/-- if a and b: the two asked change nothing -/
theorem tIf_and {ta tb : TT} {A B : TS} {D : Ends} {σ : L2.St} {H : Hp} {b1 b2 : Bool} (h1 : ∀ Q : Bool → Hp → Prop, Q b1 H → ta σ H Q) (h2 : b1 = true → ∀ Q : Bool → Hp → Prop, Q b2 H → tb σ H Q)
    (hA : b1 = true → b2 = true → A D σ H) (hB : (b1 && b2) = false → B D σ H) : tIfS (tAnd ta tb) A B D σ H := by
  refine h1 _ ?_
  cases b1 with
  | true =>
    refine itT rfl (h2 rfl _ ?_)
    cases b2 with
    | true => exact itT rfl (hA rfl rfl)
    | false => exact itF rfl (hB rfl)
  | false => exact itF rfl (itF rfl (hB rfl))
/-- what stands at the i-th of a list of data -/
theorem dts_get {α : Type} {enc : α → PyData} {F : Hp} {xs : List V} {zs : List α} {i : Nat} {x : V} (h : DTs F xs (zs.map enc)) (e : xs[i]? = some x) : ∃ z, zs[i]? = some z ∧ DT F x (enc z) := by
  obtain ⟨d, h1, h2⟩ := h.get e
  rw [List.getElem?_map] at h1
  cases q : zs[i]? with
  | none =>
    rw [q] at h1
    cases h1
  | some z =>
    rw [q] at h1
    exact ⟨z, rfl, by rw [Option.some.inj h1]; exact h2⟩
theorem take_fm {α β : Type} (f : α → Option β) {zs : List α} {i : Nat} {z : α} (h : zs[i]? = some z) : (zs.take (i + 1)).filterMap f = (zs.take i).filterMap f ++ (match f z with | some y => [y] | none => []) := by
  rw [List.take_add_one, h]
  show (zs.take i ++ [z]).filterMap f = _
  rw [List.filterMap_append]
  congr 1
  cases q : f z with
  | none => simp [q]
  | some y => simp [q]
/-- where the words of a comprehension's reading meet: any source that walks xs, whose items are the data zs -/
theorem lc_walk {α : Type} (enc : α → PyData) (zs : List α) (f : α → Option PyData) {S : Addr → Prop} {σ : L2.St} {a : Addr} {xs : List V} {g : TG} {tt : TT} {te : TE} {vs : List Nat} {H1 F1 : Hp} {Qd : Hp → Prop} {D : Addr} (hS : ¬ S a) (e1 : Ev T S F H F1 H1) (hF : H1 a = some (.lst xs)) (hd : DTs F1 xs (zs.map enc)) (hl : xs.length ≤ 100000) (hD : H1 D = none)
    (turn : ∀ x z F2 H2 (R : V → Hp → Prop) (R0 : Hp → Prop), z ∈ zs → Ev T S0 F1 H1 F2 H2 → DT F2 x (enc z) →
      (∀ F3 H3 y d, f z = some d → Ev T S0 F2 H2 F3 H3 → DT F3 y d → R y H3) → (∀ F3 H3, f z = none → Ev T S0 F2 H2 F3 H3 → R0 H3) →
      g x (wipe σ vs) H2 fun σ2 H3 => wipe σ2 vs = wipe σ vs ∧ tt σ2 H3 fun b H4 => if b = true then te σ2 H4 R else R0 H4)
    (k : ∀ F2 H2, Ev T S0 F1 H1 F2 H2 → DT F2 (.ref D) (.list (zs.filterMap f)) → Qd H2) :
    ∃ W : Nat → Nat → Hp → Prop, (∃ m, W 0 m (upd H1 D (.lst []))) ∧ ∀ i m H, W i m H →
      ((Itl K a).stop i H ∧ Qd H) ∨ ((Itl K a).go i H ∧ ∃ Nx : Hp → Prop, (∀ H', Nx H' → ∃ m', m' < m ∧ W (i + 1) m' H') ∧ ∀ x H', (Itl K a).yld i H x H' → g x (wipe σ vs) H' fun σ2 H2 => wipe σ2 vs = wipe σ vs ∧ tt σ2 H2 fun b H3 =>
        if b = true then te σ2 H3 fun y H4 => ∃ acc, H4 D = some (.lst acc) ∧ acc.length < sizeLine ∧ Nx (upd H4 D (.lst (acc ++ [y]))) else Nx H3) := by
  have hlz : xs.length = zs.length := by rw [hd.length, List.length_map]
  have fD : F1 D = none := e1.wd.none hD
  refine lc_list (K := K) (a := a) (xs := xs) (fun i H' => ∃ F2 acc, Ev T S0 F1 H1 F2 H' ∧ H' D = some (.lst acc) ∧ F2 D = none ∧ DTs F2 acc ((zs.take i).filterMap f)) ?_ ?_ ?_ ?_
  · exact ⟨F1, [], Ev.new e1.wd hD, upd_same, fD, .nil⟩
  · rintro i H' _ ⟨F2, acc, e2, _⟩
    exact SqL.of (e2.kp hF)
  · rintro i x H' hx ⟨F2, acc, e2, hacc, fD2, hds⟩
    obtain ⟨z, hz, hdz⟩ := dts_get hd hx
    have hi : i < xs.length := (List.getElem?_eq_some_iff.mp hx).1
    have la : acc.length ≤ i := by
      rw [hds.length]
      refine Nat.le_trans (List.length_filterMap_le _ _) ?_
      rw [List.length_take]
      omega
    have step := take_fm f hz
    refine turn x z F2 H' _ _ (List.mem_of_getElem? hz) e2 (e2.dt hdz) (fun F3 H3 y d hf e3 hy => ?_) (fun F3 H3 hf e3 => ?_)
    · have hacc3 := e3.kp hacc
      have fD3 := e3.nf hacc fD2
      have e4 : Ev T (· = D) F3 H3 F3 (upd H3 D (.lst (acc ++ [y]))) := Ev.set e3.wd hacc3 fD3 (fun _ z => by cases z) (fun _ z => by cases z) rfl
      refine ⟨acc, hacc3, Nat.lt_of_le_of_lt (show acc.length ≤ 100000 by omega) (by decide), F3, acc ++ [y], ?_, upd_same, fD3, ?_⟩
      · exact (e2.trans0 e3).trans e4 (fun _ z => z) fun b hb => .inr (by rw [hb]; exact hD)
      · rw [step, hf]
        exact (e3.dts hds).snoc hy
    · refine ⟨F3, acc, e2.trans0 e3, e3.kp hacc, e3.nf hacc fD2, ?_⟩
      rw [step, hf, List.append_nil]
      exact e3.dts hds
  · rintro H' ⟨F2, acc, e2, hacc, fD2, hds⟩
    rw [hlz, List.take_length] at hds
    have e3 := e2.freeze hD hacc fD2
    refine k _ H' e3 (.lst upd_same ?_)
    have m : Same F2 (upd F2 D (.lst acc)) := fun b u e => by
      rw [upd_ne (ne_of_none e fD2)]
      exact e
    exact DTs.mono m _ _ hds
/-- [e for x in the i-th slot if t] -/
theorem lcD {α : Type} (enc : α → PyData) (zs : List α) (f : α → Option PyData) {σ : L2.St} {i : Nat} {v : V} {g : TG} {tt : TT} {te : TE} {vs : List Nat} {Q : VK} (w0 : Wd T F H) (hσ : σ[i]? = some (some v)) (hv : DT F v (.list (zs.map enc))) (hl : zs.length ≤ 100000)
    (turn : ∀ x z F2 H2 (R : V → Hp → Prop) (R0 : Hp → Prop), z ∈ zs → Ev T S0 F H F2 H2 → DT F2 x (enc z) →
      (∀ F3 H3 y d, f z = some d → Ev T S0 F2 H2 F3 H3 → DT F3 y d → R y H3) → (∀ F3 H3, f z = none → Ev T S0 F2 H2 F3 H3 → R0 H3) →
      g x (wipe σ vs) H2 fun σ2 H3 => wipe σ2 vs = wipe σ vs ∧ tt σ2 H3 fun b H4 => if b = true then te σ2 H4 R else R0 H4)
    (k : ∀ D F2 H2, Ev T S0 F H F2 H2 → DT F2 (.ref D) (.list (zs.filterMap f)) → Q (.ref D) H2) :
    tLc (iList K (tVar i)) g tt te vs σ H Q := by
  obtain ⟨a, xs, rfl, hF, hd⟩ := hv.lstV
  refine ⟨_, hσ, a, rfl, ⟨xs, SqL.of (w0.sub _ _ hF)⟩, fun D hD => ?_⟩
  refine lc_walk enc zs f (S := S0) (a := a) (xs := xs) (fun z => z) (Ev.refl w0) (w0.sub _ _ hF) hd (by rw [hd.length, List.length_map]; exact hl) hD turn (fun F2 H2 e2 hr => k D F2 H2 e2 hr)
theorem fm_some {α β : Type} (h : α → β) (zs : List α) : zs.filterMap (fun z => some (h z)) = zs.map h := by
  rw [← List.filterMap_eq_map] <;> rfl
theorem new_tup {S : Addr → Prop} {p : Addr} {xs : List V} {ds : List PyData} (w : Wd T F H) (hp : H p = none) (h : DTs F xs ds) : Ev T S F H (upd F p (.tup xs)) (upd H p (.tup xs)) ∧ DT (upd F p (.tup xs)) (.ref p) (.tuple ds) := by
  have e : Ev T S F H (upd F p (.tup xs)) (upd H p (.tup xs)) := Ev.frz w hp
  exact ⟨e, .tup upd_same (e.dts h)⟩
theorem new_lst {S : Addr → Prop} {p : Addr} {xs : List V} {ds : List PyData} (w : Wd T F H) (hp : H p = none) (h : DTs F xs ds) : Ev T S F H (upd F p (.lst xs)) (upd H p (.lst xs)) ∧ DT (upd F p (.lst xs)) (.ref p) (.list ds) := by
  have e : Ev T S F H (upd F p (.lst xs)) (upd H p (.lst xs)) := Ev.frz w hp
  exact ⟨e, .lst upd_same (e.dts h)⟩
/-- [row[0] for row in state] -/
theorem lc_names {st : Bst} {σ : L2.St} {i j : Nat} {v : V} {Q : VK} (w0 : Wd T F H) (hσ : σ[i]? = some (some v)) (hv : DT F v (bstD st)) (hl : st.length ≤ 20) (h1 : ∀ x, ((wipe σ [j]).set j (some x))[j]? = some (some x)) (h2 : ∀ x, wipe ((wipe σ [j]).set j (some x)) [j] = wipe σ [j])
    (k : ∀ D F2 H2, Ev T S0 F H F2 H2 → F2 D = some (.lst ((names st).map V.str)) → Q (.ref D) H2) :
    tLc (iList K (tVar i)) (gName j) tYes (tOp (rIxT K) (tVar j) (tC (.int 0))) [j] σ H Q := by
  refine lcD rowD st (fun r => some (.str r.1)) w0 hσ hv (by omega) (fun x r F2 H2 R R0 hr e2 hx hk hn => ?_) fun D F1 H1 e1 hr => ?_
  · obtain ⟨a, y, z, rfl, ha, hy, hz⟩ := DT.pair hx
    exact ⟨h2 _, yes_ ⟨_, h1 _, a, _, 0, _, rfl, rfl, SqT.of (e2.wd.sub _ _ ha), rfl, hk F2 H2 y _ rfl (Ev.refl e2.wd) hy⟩⟩
  · obtain ⟨D', xs, e, hD, hxs⟩ := hr.lstV
    cases e
    rw [fm_some] at hxs
    have q : xs = (names st).map V.str := by
      refine DTs.strs (F := F1) ?_
      unfold names
      rw [List.map_map]
      exact hxs
    exact k D F1 H1 e1 (by rw [← q]; exact hD)
end
end K64
/-! ## KD1 -/
set_option Elab.async false
set_option linter.all false
set_option maxRecDepth 100000
set_option maxHeartbeats 2000000
namespace K64
open PySem PySem.Spec PyProof.Rows L2 LamX
section
variable {P : Program} {w : World} {K : PySem.W.Frag} {mg : Str → Option Value} {base : Heap} {A : Ad} {Tb : List (Addr × Str)}
abbrev s__law_put_in : Stmt := top 52
abbrev N__law_put_in : List Str := [("_law_state" : Str), ("_law_name" : Str), ("_law_steps_here" : Str), ("_law_row" : Str), ("_law_other" : Str), ("_law_told" : Str)]
abbrev P__law_put_in : List Str := [("_law_state" : Str), ("_law_name" : Str), ("_law_steps_here" : Str)]
theorem sc__law_put_in : FnScope N__law_put_in P__law_put_in (defScope s__law_put_in) := ⟨rfl, rfl, rfl, by decide +kernel, rfl, by decide +kernel, by decide +kernel⟩
theorem bd__law_put_in {K : PySem.W.Frag} {f : Addr} {fd : FuncData} (F : L2.Fun K "_law_put_in" "_law_put_in" s__law_put_in f fd) : Binds K fd P__law_put_in [] := F.binds fun _ _ _ _ _ _ us hl => match us, hl with | [_, _, _], _ => rfl

def spPutIn (Tb : List (Addr × Str)) : Sp := fun vs H Q _ => ∃ (F : Hp) (v w : V) (st : Bst) (n : Str) (p : List Stp), vs = [v, .str n, w] ∧ Wd Tb F H ∧ DT F v (bstD st) ∧ DT F w (prD p) ∧ st.length ≤ 20 ∧
  ∀ F' H' r, Ev Tb S0 F H F' H' → DT F' r (bstD (putIn st n p)) → Q r H'
theorem ok_put_in {f : Addr} {fd : FuncData} (F : L2.Fun K "_law_put_in" "_law_put_in" s__law_put_in f fd) (T : Txt P K mg A) : FnOk P w K mg base CX0 1 f fd P__law_put_in (spPutIn Tb) := by
  have sc := sc__law_put_in
  refine F.ok sc (fun vs H Q E h => ?_) (fun cdv AA outer s H vs Q E hr h => ?_)
  · obtain ⟨F, v, w, st, n, p, rfl, _⟩ := h
    rfl
  · obtain ⟨F, v, w, st, n, p, rfl, W0, hv, hw, hl, k⟩ := h
    refine ⟨_, (pss_cons (ps_if (pt_cmpR (op_in_seqK (K := K)) (pv 1) (pe_lc (own := [("_law_row", 3)]) rfl sc.nd (pi_listK (K := K) (pv 0)) (blkOk_by (own := [("_law_row", 3)]) (N := N__law_put_in) (sc := defScope s__law_put_in) (by decide +kernel)) (fun _ _ _ _ _ => by exact (pg_name (i := 3) sc.nd rfl (Or.inl rfl))) (fun _ _ _ _ _ => by exact pts_nil) (fun _ _ _ _ _ => by exact (pe_ix (ix_tupK (K := K)) (pv 3) pe_int (fun _ _ => rfl)))) (by with_unfolding_all rfl)) (pss_one (ps_ret (pe_lc (own := [("_law_other", 4), ("_law_told", 5)]) rfl sc.nd (pi_listK (K := K) (pv 0)) (blkOk_by (own := [("_law_other", 4), ("_law_told", 5)]) (N := N__law_put_in) (sc := defScope s__law_put_in) (by decide +kernel)) (fun _ _ _ _ _ => by exact (pg_tupK (K := K) (n := 2) (pgs_cons (pg_name (i := 4) sc.nd rfl (Or.inl rfl)) (pgs_cons (pg_name (i := 5) sc.nd rfl (Or.inl rfl)) pgs_nil)))) (fun _ _ _ _ _ => by exact pts_nil) (fun _ _ _ _ _ => by exact (pe_tup (pa_cons (pv 4) (pa_cons (pe_ifExp (pt_cmpR op_eq (pv 4) (pv 1) (nomark _)) (pv 2) (pv 5)) pa_nil))))))) pss_nil)
      (pss_one (ps_ret (pe_op op_cat (pv 0) (pe_lst (pa_cons (pe_tup (pa_cons (pv 1) (pa_cons (pv 2) pa_nil))) pa_nil)))))), ?_⟩
    refine ⟨_, rfl, lc_names W0 rfl hv hl (fun _ => rfl) (fun _ => rfl) fun D F1 H1 e1 hD => ?_⟩
    refine ⟨D, _, rfl, .inl (SqL.of (e1.wd.sub _ _ hD)), rfl, flat_strs _, _, rfl, ?_⟩
    show if (L2.inV (.str n) ((names st).map V.str)) = true then _ else _
    rw [inV_str]
    refine it2 (fun hn => ?_) (fun hn => ?_)
    · refine lcD rowD st (fun r => some (rowD (r.1, if r.1 = n then p else r.2))) e1.wd rfl (e1.dt hv) (by omega) (fun x r F2 H2 R R0 hr e2 hx hk hn => ?_) fun D F2 H2 e2 hr => ?_
      · obtain ⟨a, y, z, rfl, ha, hy, hz⟩ := DT.pair hx
        obtain rfl := hy.strV
        refine ⟨a, _, rfl, SqT.of (e2.wd.sub _ _ ha), rfl, _, _, rfl, _, _, rfl, rfl, rfl, yes_ ⟨_, rfl, _, rfl, _, rfl, rfl, _, rfl, ?_⟩⟩
        have fin : ∀ q, DT F2 q (prD (if r.1 = n then p else r.2)) → (2 ≤ sizeLine ∧ ∀ t, H2 t = none → R (.ref t) (upd H2 t (.tup [.str r.1, q]))) := fun q hq => ⟨by decide, fun t ht => by
          obtain ⟨e3, h3⟩ := new_tup (S := S0) e2.wd ht (.cons (.str r.1) (.cons hq .nil))
          exact hk _ _ _ _ rfl e3 h3⟩
        show if (decide (V.str r.1 = V.str n)) = true then _ else _
        rw [dec_str]
        refine it2 (fun h => ?_) (fun h => ?_)
        · exact ⟨_, rfl, fin w (by rw [if_pos (of_decide_eq_true h)]; exact (e1.trans0 e2).dt hw)⟩
        · exact ⟨_, rfl, fin z (by rw [if_neg (of_decide_eq_false h)]; exact hz)⟩
      · refine k F2 H2 _ (e1.trans0 e2) ?_
        rw [fm_some] at hr
        unfold putIn
        rw [if_pos (of_decide_eq_true hn)]
        unfold bstD
        rw [List.map_map]
        exact hr
    · obtain ⟨a, xs, rfl, ha, hxs⟩ := (e1.dt hv).lstV
      refine ⟨_, rfl, _, rfl, _, rfl, sz2, fun t ht => ⟨sz1, fun l hl2 => ?_⟩⟩
      obtain ⟨e2, h2⟩ := new_tup (S := S0) e1.wd ht (.cons (.str n) (.cons (e1.dt hw) .nil))
      have ha2 : upd (upd H1 t (.tup [.str n, w])) l (.lst [.ref t]) a = some (.lst xs) := by
        rw [upd_ne (ne_of_none (e2.wd.sub _ _ (e2.mono _ _ ha)) hl2)]
        exact e2.wd.sub _ _ (e2.mono _ _ ha)
      have e3 := Ev.new (S := S0) (o := .lst [.ref t]) e2.wd hl2
      have lx : xs.length ≤ 20 := by rw [hxs.length, List.length_map]; exact hl
      refine ⟨a, l, xs, [.ref t], rfl, rfl, ha2, upd_same, Nat.le_trans (show xs.length + 1 ≤ 21 by omega) (by decide), fun D2 hD2 => ?_⟩
      obtain ⟨e4, h4⟩ := new_lst (S := S0) e3.wd hD2 ((e2.dts hxs).snoc h2)
      refine k _ _ _ (((e1.trans0 e2).trans0 e3).trans0 e4) ?_
      unfold putIn
      rw [if_neg (of_decide_eq_false hn)]
      unfold bstD
      rw [List.map_append]
      exact h4
abbrev s__law_steps_of : Stmt := top 53
abbrev N__law_steps_of : List Str := [("_law_state" : Str), ("_law_name" : Str), ("_law_row" : Str)]
abbrev P__law_steps_of : List Str := [("_law_state" : Str), ("_law_name" : Str)]
theorem sc__law_steps_of : FnScope N__law_steps_of P__law_steps_of (defScope s__law_steps_of) := ⟨rfl, rfl, rfl, by decide +kernel, rfl, by decide +kernel, by decide +kernel⟩
theorem bd__law_steps_of {K : PySem.W.Frag} {f : Addr} {fd : FuncData} (F : L2.Fun K "_law_steps_of" "_law_steps_of" s__law_steps_of f fd) : Binds K fd P__law_steps_of [] := F.binds fun _ _ _ _ _ _ us hl => match us, hl with | [_, _], _ => rfl

theorem fm_steps (n : Str) : ∀ st : Bst, st.filterMap (fun r => if r.1 = n then some (prD r.2) else none) = ((st.filter fun r => decide (r.1 = n)).map (·.2)).map prD
  | [] => rfl
  | r :: st => by
    have ih := fm_steps n st
    by_cases h : r.1 = n
    · rw [List.filterMap_cons, List.filter_cons, if_pos h, if_pos (decide_eq_true h), List.map_cons, List.map_cons, ih]
    · rw [List.filterMap_cons, List.filter_cons, if_neg h, if_neg (by simp [h]), ih]
theorem steps_cons {st : Bst} {n : Str} (h : n ∈ names st) : ∃ r, (st.filter fun r => decide (r.1 = n)).map (·.2) = stepsOf st n :: r := by
  obtain ⟨z, hz, e⟩ := List.mem_map.mp h
  have hf : z ∈ st.filter fun r => decide (r.1 = n) := List.mem_filter.mpr ⟨hz, decide_eq_true e⟩
  unfold stepsOf
  cases q : st.filter fun r => decide (r.1 = n) with
  | nil =>
    rw [q] at hf
    cases hf
  | cons y ys => exact ⟨ys.map (·.2), rfl⟩
def spStepsOf (Tb : List (Addr × Str)) : Sp := fun vs H Q _ => ∃ (F : Hp) (v : V) (st : Bst) (n : Str), vs = [v, .str n] ∧ Wd Tb F H ∧ DT F v (bstD st) ∧ n ∈ names st ∧ st.length ≤ 20 ∧
  ∀ F' H' r, Ev Tb S0 F H F' H' → DT F' r (prD (stepsOf st n)) → Q r H'
theorem ok_steps_of {f : Addr} {fd : FuncData} (F : L2.Fun K "_law_steps_of" "_law_steps_of" s__law_steps_of f fd) (T : Txt P K mg A) : FnOk P w K mg base CX0 1 f fd P__law_steps_of (spStepsOf Tb) := by
  have sc := sc__law_steps_of
  refine F.ok sc (fun vs H Q E h => ?_) (fun cdv AA outer s H vs Q E hr h => ?_)
  · obtain ⟨F, v, st, n, rfl, _⟩ := h
    rfl
  · obtain ⟨F, v, st, n, rfl, W0, hv, hn, hl, k⟩ := h
    refine ⟨_, (pss_one (ps_ret (pe_ix (ix_listK (K := K)) (pe_lc (own := [("_law_row", 2)]) rfl sc.nd (pi_listK (K := K) (pv 0)) (blkOk_by (own := [("_law_row", 2)]) (N := N__law_steps_of) (sc := defScope s__law_steps_of) (by decide +kernel)) (fun _ _ _ _ _ => by exact (pg_name (i := 2) sc.nd rfl (Or.inl rfl))) (fun _ _ _ _ _ => by exact (pts_one (pt_cmpR op_eq (pe_ix (ix_tupK (K := K)) (pv 2) pe_int (fun _ _ => rfl)) (pv 1) (nomark _)))) (fun _ _ _ _ _ => by exact (pe_ix (ix_tupK (K := K)) (pv 2) pe_int (fun _ _ => rfl)))) pe_int (fun _ _ => rfl)))), ?_⟩
    refine tRet_ (tOp_ ?_)
    refine lcD rowD st (fun r => if r.1 = n then some (prD r.2) else none) W0 rfl hv (by omega) (fun x r F2 H2 R R0 hr e2 hx hk hn => ?_) fun D F1 H1 e1 hr => ?_
    · obtain ⟨a, y, z, rfl, ha, hy, hz⟩ := DT.pair hx
      obtain rfl := hy.strV
      refine ⟨rfl, _, rfl, a, _, 0, _, rfl, rfl, SqT.of (e2.wd.sub _ _ ha), rfl, _, rfl, rfl, _, rfl, ?_⟩
      rw [dec_str]
      refine it2 (fun h => ?_) (fun h => ?_)
      · exact ⟨_, rfl, a, _, 1, _, rfl, rfl, SqT.of (e2.wd.sub _ _ ha), rfl, hk F2 H2 z _ (by rw [if_pos (of_decide_eq_true h)]) (Ev.refl e2.wd) hz⟩
      · exact hn F2 H2 (by rw [if_neg (of_decide_eq_false h)]) (Ev.refl e2.wd)
    · rw [fm_steps] at hr
      obtain ⟨r, e⟩ := steps_cons hn
      rw [e] at hr
      obtain ⟨D', xs, q, hD, hxs⟩ := hr.lstV
      cases q
      cases hxs with
      | cons h t => exact ⟨D, _, 0, _, rfl, rfl, SqL.of (e1.wd.sub _ _ hD), atI_nat (j := 0) rfl, k F1 H1 _ e1 h⟩
abbrev s__law_text : Stmt := top 66
abbrev N__law_text : List Str := [("_law_step_here" : Str), ("_law_text_here" : Str), ("_law_kind" : Str), ("_law_by" : Str), ("_law_rest" : Str)]
abbrev P__law_text : List Str := [("_law_step_here" : Str)]
theorem sc__law_text : FnScope N__law_text P__law_text (defScope s__law_text) := ⟨rfl, rfl, rfl, by decide +kernel, rfl, by decide +kernel, by decide +kernel⟩
theorem bd__law_text {K : PySem.W.Frag} {f : Addr} {fd : FuncData} (F : L2.Fun K "_law_text" "_law_text" s__law_text f fd) : Binds K fd P__law_text [] := F.binds fun _ _ _ _ _ _ us hl => match us, hl with | [_], _ => rfl

def spText (Tb : List (Addr × Str)) : Sp := fun vs H Q _ => ∃ (F : Hp) (v : V) (s : Stp), vs = [v] ∧ Wd Tb F H ∧ DT F v (stpD s) ∧ s ∈ allStps ∧ Q (.str (stpText s)) H
theorem log_small {i : Int} (h : i.natAbs ≤ 100) : i.natAbs.log2 < 1920 := Nat.lt_of_le_of_lt (Nat.log2_le_self _) (by omega)
theorem ok_text {f : Addr} {fd : FuncData} (F : L2.Fun K "_law_text" "_law_text" s__law_text f fd) (T : Txt P K mg A) : FnOk P w K mg base CX0 1 f fd P__law_text (spText Tb) := by
  have sc := sc__law_text
  refine F.ok sc (fun vs H Q E h => ?_) (fun cdv AA outer s H vs Q E hr h => ?_)
  · obtain ⟨F, v, s, rfl, _⟩ := h
    rfl
  · obtain ⟨F, v, z, rfl, W0, hv, hz, k⟩ := h
    refine ⟨_, (pss_cons (ps_asg (pv 0) (pg_tupK (K := K) (n := 3) (pgs_cons (pg_name (i := 2) sc.nd rfl (Or.inl rfl)) (pgs_cons (pg_name (i := 3) sc.nd rfl (Or.inl rfl)) (pgs_cons (pg_name (i := 4) sc.nd rfl (Or.inl rfl)) pgs_nil)))))
      (pss_cons (ps_set (i := 1) sc.nd rfl (Or.inl rfl) (pv 2))
      (pss_cons (ps_if (pt_cmpR op_notN (pv 3) pe_non (nomark _)) (pss_one (ps_set (i := 1) sc.nd rfl (Or.inl rfl) (pe_op op_add_str (pe_op op_add_str (pv 1) pe_str) (pe_callTy call_str_int (by rfl) T.z_str (by decide +kernel) (pa_cons (pv 3) pa_nil))))) pss_nil)
      (pss_cons (ps_if (pt_cmpR op_isN (pv 4) pe_non (nomark _)) (pss_one (ps_ret (pv 1))) pss_nil)
      (pss_cons (ps_if (pt_cmpR op_ne (pv 2) pe_str (nomark _)) (pss_one (ps_set (i := 1) sc.nd rfl (Or.inl rfl) (pe_op op_add_str (pv 1) pe_str))) pss_nil)
      (pss_one (ps_ret (pe_op op_add_str (pe_op op_add_str (pe_op op_add_str (pe_op op_add_str (pv 1) pe_str) (pe_callTy call_str_int (by rfl) T.z_str (by decide +kernel) (pa_cons (pe_ix (ix_tupK (K := K)) (pv 4) pe_int (fun _ _ => rfl)) pa_nil))) pe_str) (pe_callTy call_str_int (by rfl) T.z_str (by decide +kernel) (pa_cons (pe_ix (ix_tupK (K := K)) (pv 4) pe_int (fun _ _ => rfl)) pa_nil)))))))))), ?_⟩
    obtain ⟨a, v1, v2, v3, rfl, ha, h1, h2, h3⟩ := DT.trip hv
    obtain rfl := h1.strV
    have L := (stpF hz).len
    refine ⟨_, rfl, a, _, rfl, SqT.of (W0.sub _ _ ha), rfl, _, _, rfl, _, _, rfl, _, _, rfl, rfl, ?_⟩
    refine ⟨_, rfl, ?_⟩
    obtain ⟨kd, b, r⟩ := z
    cases shp hz with
    | plain hb hr m kk w0 ws e n =>
      cases hb
      cases hr
      obtain rfl := h2.nonV
      obtain rfl := h3.nonV
      exact ⟨_, rfl, rfl, _, rfl, itF rfl ⟨_, rfl, rfl, _, rfl, itT rfl ⟨_, rfl, k⟩⟩⟩
    | two i hb hr m e kk hs ni i0 i1 =>
      cases hb
      cases hr
      obtain rfl := h2.intV
      obtain rfl := h3.nonV
      have li : i.natAbs ≤ 100 := by omega
      simp only [stpText, iS, len_app] at L
      refine ⟨_, rfl, rfl, _, rfl, itT rfl ⟨_, rfl, _, _, rfl, rfl, szN (by first | omega | (simp only [len_app]; omega) | (dsimp only; omega) | (dsimp only; simp only [len_app]; omega)), _, rfl, _, rfl, log_small li, _, _, rfl, rfl, szN (by first | omega | (simp only [len_app]; omega) | (dsimp only; omega) | (dsimp only; simp only [len_app]; omega)), ?_⟩⟩
      exact ⟨_, rfl, rfl, _, rfl, itT rfl ⟨_, rfl, k⟩⟩
    | flip x y hb hr m kk e ho ha' na nb a0 ab b4 =>
      cases hb
      cases hr
      obtain rfl := h2.nonV
      obtain ⟨a3, x1, y1, rfl, ha3, hx, hy⟩ := DT.pair h3
      obtain rfl := hx.intV
      obtain rfl := hy.intV
      have q : kd = ("flip" : Str) := kk
      simp only [stpText, iS, len_app, if_pos q] at L k
      refine ⟨_, rfl, rfl, _, rfl, itF rfl ⟨_, rfl, rfl, _, rfl, itF rfl ⟨_, rfl, rfl, _, rfl, ?_⟩⟩⟩
      rw [dec_str, decide_eq_true q]
      refine itF rfl ?_
      refine ⟨_, rfl, _, _, rfl, rfl, szN (by first | omega | (simp only [len_app]; omega) | (dsimp only; omega) | (dsimp only; simp only [len_app]; omega)), _, rfl, a3, _, 0, _, rfl, rfl, SqT.of (W0.sub _ _ ha3), rfl, _, rfl, log_small (by omega), _, _, rfl, rfl, szN (by first | omega | (simp only [len_app]; omega) | (dsimp only; omega) | (dsimp only; simp only [len_app]; omega)), _, _, rfl, rfl, szN (by first | omega | (simp only [len_app]; omega) | (dsimp only; omega) | (dsimp only; simp only [len_app]; omega)), ?_⟩
      exact ⟨_, rfl, a3, _, 1, _, rfl, rfl, SqT.of (W0.sub _ _ ha3), rfl, _, rfl, log_small (by omega), _, _, rfl, rfl, szN (by first | omega | (simp only [len_app]; omega) | (dsimp only; omega) | (dsimp only; simp only [len_app]; omega)), k⟩
    | six i x y hb hr m e kk kr hs ni i0 i1 ho ha' na nb a0 ab b4 ns =>
      cases hb
      cases hr
      obtain rfl := h2.intV
      obtain ⟨a3, x1, y1, rfl, ha3, hx, hy⟩ := DT.pair h3
      obtain rfl := hx.intV
      obtain rfl := hy.intV
      have q : ¬ kd = ("flip" : Str) := fun z => by
        have kk' : kd ∈ shiftK := kk
        rw [z] at kk'
        exact absurd kk' (by decide +kernel)
      simp only [stpText, iS, len_app, if_neg q] at L k
      refine ⟨_, rfl, rfl, _, rfl, itT rfl ⟨_, rfl, _, _, rfl, rfl, szN (by first | omega | (simp only [len_app]; omega) | (dsimp only; omega) | (dsimp only; simp only [len_app]; omega)), _, rfl, _, rfl, log_small (by omega), _, _, rfl, rfl, szN (by first | omega | (simp only [len_app]; omega) | (dsimp only; omega) | (dsimp only; simp only [len_app]; omega)), ?_⟩⟩
      refine ⟨_, rfl, rfl, _, rfl, itF rfl ⟨_, rfl, rfl, _, rfl, ?_⟩⟩
      rw [dec_str, decide_eq_false q]
      refine itT rfl ⟨_, rfl, _, _, rfl, rfl, szN (by first | omega | (simp only [len_app]; omega) | (dsimp only; omega) | (dsimp only; simp only [len_app]; omega)), ?_⟩
      refine ⟨_, rfl, _, _, rfl, rfl, szN (by first | omega | (simp only [len_app]; omega) | (dsimp only; omega) | (dsimp only; simp only [len_app]; omega)), _, rfl, a3, _, 0, _, rfl, rfl, SqT.of (W0.sub _ _ ha3), rfl, _, rfl, log_small (by omega), _, _, rfl, rfl, szN (by first | omega | (simp only [len_app]; omega) | (dsimp only; omega) | (dsimp only; simp only [len_app]; omega)), _, _, rfl, rfl, szN (by first | omega | (simp only [len_app]; omega) | (dsimp only; omega) | (dsimp only; simp only [len_app]; omega)), ?_⟩
      exact ⟨_, rfl, a3, _, 1, _, rfl, rfl, SqT.of (W0.sub _ _ ha3), rfl, _, rfl, log_small (by omega), _, _, rfl, rfl, szN (by first | omega | (simp only [len_app]; omega) | (dsimp only; omega) | (dsimp only; simp only [len_app]; omega)), k⟩
end
end K64
/-! ## KD2 -/
set_option Elab.async false
set_option linter.all false
set_option maxRecDepth 100000
set_option maxHeartbeats 2000000
namespace K64
open PySem PySem.Spec PyProof.Rows L2 LamX
section
variable {P : Program} {w : World} {K : PySem.W.Frag} {mg : Str → Option Value} {base : Heap} {A : Ad} {Tb : List (Addr × Str)}
abbrev s__law_program_text : Stmt := top 67
abbrev N__law_program_text : List Str := [("_law_steps_here" : Str), ("_law_step_here" : Str)]
abbrev P__law_program_text : List Str := [("_law_steps_here" : Str)]
theorem sc__law_program_text : FnScope N__law_program_text P__law_program_text (defScope s__law_program_text) := ⟨rfl, rfl, rfl, by decide +kernel, rfl, by decide +kernel, by decide +kernel⟩
theorem bd__law_program_text {K : PySem.W.Frag} {f : Addr} {fd : FuncData} (F : L2.Fun K "_law_program_text" "_law_program_text" s__law_program_text f fd) : Binds K fd P__law_program_text [] := F.binds fun _ _ _ _ _ _ us hl => match us, hl with | [_], _ => rfl

def spProgText (Tb : List (Addr × Str)) : Sp := fun vs H Q _ => ∃ (F : Hp) (v : V) (p : List Stp), vs = [v] ∧ Wd Tb F H ∧ DT F v (prD p) ∧ okStps p ∧ p.length ≤ 100 ∧ ∀ F' H', Ev Tb S0 F H F' H' → Q (.str (progText p)) H'
theorem ok_program_text {f : Addr} {fd : FuncData} (F : L2.Fun K "_law_program_text" "_law_program_text" s__law_program_text f fd) (T : Txt P K mg A) (F__law_text : FnG P w K mg base CX0 1 "_law_text" P__law_text (spText Tb)) : FnOk P w K mg base CX0 2 f fd P__law_program_text (spProgText Tb) := by
  have sc := sc__law_program_text
  refine F.ok sc (fun vs H Q E h => ?_) (fun cdv AA outer s H vs Q E hr h => ?_)
  · obtain ⟨F, v, p, rfl, _⟩ := h
    rfl
  · obtain ⟨F, v, p, rfl, W0, hv, hp, hl, k⟩ := h
    refine ⟨_, (pss_one (ps_ret (pe_joinK (K := K) pe_str (pe_lc (own := [("_law_step_here", 1)]) rfl sc.nd (pi_listK (K := K) (pv 0)) (blkOk_by (own := [("_law_step_here", 1)]) (N := N__law_program_text) (sc := defScope s__law_program_text) (by decide +kernel)) (fun _ _ _ _ _ => by exact (pg_name (i := 1) sc.nd rfl (Or.inl rfl))) (fun _ _ _ _ _ => by exact pts_nil) (fun _ _ _ _ _ => by exact (pe_fn0 F__law_text hr (pa_cons (pv 1) pa_nil))))))), ?_⟩
    refine ⟨⟨_, rfl⟩, ?_⟩
    refine lcD stpD p (fun s => some (.str (stpText s))) W0 rfl hv (by omega) (fun x z F2 H2 R R0 hz e2 hx hk hn => ?_) fun D F1 H1 e1 hr => ?_
    · exact ⟨rfl, yes_ ⟨_, rfl, F2, x, z, rfl, e2.wd, hx, hp z hz, hk F2 H2 _ _ rfl (Ev.refl e2.wd) (.str _)⟩⟩
    · rw [fm_some] at hr
      obtain ⟨D', xs, q, hD, hxs⟩ := hr.lstV
      cases q
      have q : xs = (p.map stpText).map V.str := DTs.strs (F := F1) (by rw [List.map_map]; exact hxs)
      have l1 := texts_sum hp
      refine ⟨_, D, p.map stpText, rfl, rfl, .inl (SqL.of (by rw [← q]; exact e1.wd.sub _ _ hD)), ?_, k F1 H1 e1⟩
      rw [then_len, List.length_map]
      omega
abbrev s__law_inverse : Stmt := top 68
abbrev N__law_inverse : List Str := [("_law_step_here" : Str), ("_law_kind" : Str), ("_law_by" : Str), ("_law_rest" : Str)]
abbrev P__law_inverse : List Str := [("_law_step_here" : Str)]
theorem sc__law_inverse : FnScope N__law_inverse P__law_inverse (defScope s__law_inverse) := ⟨rfl, rfl, rfl, by decide +kernel, rfl, by decide +kernel, by decide +kernel⟩
theorem bd__law_inverse {K : PySem.W.Frag} {f : Addr} {fd : FuncData} (F : L2.Fun K "_law_inverse" "_law_inverse" s__law_inverse f fd) : Binds K fd P__law_inverse [] := F.binds fun _ _ _ _ _ _ us hl => match us, hl with | [_], _ => rfl

def spInverse (Tb : List (Addr × Str)) : Sp := fun vs H Q _ => ∃ (F : Hp) (v : V) (s : Stp), vs = [v] ∧ Wd Tb F H ∧ DT F v (stpD s) ∧ s ∈ allStps ∧ ∀ F' H' r, Ev Tb S0 F H F' H' → DT F' r (stpD (invStp s)) → Q r H'
theorem ok_inverse {f : Addr} {fd : FuncData} (F : L2.Fun K "_law_inverse" "_law_inverse" s__law_inverse f fd) (T : Txt P K mg A) : FnOk P w K mg base CX0 1 f fd P__law_inverse (spInverse Tb) := by
  have sc := sc__law_inverse
  refine F.ok sc (fun vs H Q E h => ?_) (fun cdv AA outer s H vs Q E hr h => ?_)
  · obtain ⟨F, v, p, rfl, _⟩ := h
    rfl
  · obtain ⟨F, v, z, rfl, W0, hv, hz, k⟩ := h
    refine ⟨_, (pss_cons (ps_asg (pv 0) (pg_tupK (K := K) (n := 3) (pgs_cons (pg_name (i := 1) sc.nd rfl (Or.inl rfl)) (pgs_cons (pg_name (i := 2) sc.nd rfl (Or.inl rfl)) (pgs_cons (pg_name (i := 3) sc.nd rfl (Or.inl rfl)) pgs_nil)))))
      (pss_cons (ps_if (pt_cmpR op_eq (pv 1) pe_str (nomark _)) (pss_one (ps_ret (pe_tup (pa_cons pe_str (pa_cons pe_non (pa_cons pe_non pa_nil)))))) pss_nil)
      (pss_cons (ps_if (pt_cmpR op_eq (pv 1) pe_str (nomark _)) (pss_one (ps_ret (pe_tup (pa_cons pe_str (pa_cons pe_non (pa_cons pe_non pa_nil)))))) pss_nil)
      (pss_cons (ps_if (pt_cmpR op_eq (pv 1) pe_str (nomark _)) (pss_one (ps_ret (pe_tup (pa_cons pe_str (pa_cons (pe_un un_neg (pv 2)) (pa_cons pe_non pa_nil)))))) pss_nil)
      (pss_cons (ps_if (pt_cmpR op_eq (pv 1) pe_str (nomark _)) (pss_one (ps_ret (pe_tup (pa_cons pe_str (pa_cons (pv 2) (pa_cons (pv 3) pa_nil)))))) pss_nil)
      (pss_cons (ps_if (PW.pt (pw_and (pt_cmpR op_eq (pv 1) pe_str (nomark _)) (pw_and1 (PW.pt (pw_or (pt_cmpR op_isN (pv 3) pe_non (nomark _)) (pw_or1 (pt_cmpR op_eq (pe_op op_modN (pe_callTy call_int1 (by rfl) T.z_int (by decide +kernel) (pa_cons (pv 2) pa_nil)) (pe_ix (ix_tupK (K := K)) (pv 3) pe_int (fun _ _ => rfl))) pe_int (nomark _)))))))) (pss_one (ps_ret (pe_tup (pa_cons pe_str (pa_cons (pv 2) (pa_cons (pv 3) pa_nil)))))) pss_nil)
      (pss_one (ps_ret (pv 0))))))))), ?_⟩
    obtain ⟨a, v1, v2, v3, rfl, ha, h1, h2, h3⟩ := DT.trip hv
    obtain rfl := h1.strV
    refine ⟨_, rfl, a, _, rfl, SqT.of (W0.sub _ _ ha), rfl, _, _, rfl, _, _, rfl, _, _, rfl, rfl, ?_⟩
    have mk : ∀ (kd : Str) (x y : V) (b : Option Int) (r : Option (Int × Int)), DT F x (optI b) → DT F y (optR r) → invStp z = ⟨kd, b, r⟩ → 3 ≤ sizeLine ∧ ∀ p, H p = none → Q (.ref p) (upd H p (.tup [.str kd, x, y])) := fun kd x y b r hx hy e => ⟨sz3, fun p hp => by
      obtain ⟨e1, h1⟩ := new_tup (S := S0) W0 hp (.cons (.str kd) (.cons hx (.cons hy .nil)))
      exact k _ _ _ e1 (by rw [e]; exact h1)⟩
    have same : invStp z = z → Q (.ref a) H := fun e => k F H _ (Ev.refl W0) (by rw [e]; exact hv)
    obtain ⟨kd, b, r⟩ := z
    refine ⟨_, rfl, rfl, _, rfl, ?_⟩
    rw [dec_str]
    refine it2 (fun c1 => ?_) (fun c1 => ?_)
    · exact mk "undeal" .non .non none none .non .non (by unfold invStp; rw [if_pos (of_decide_eq_true c1)])
    refine ⟨_, rfl, rfl, _, rfl, ?_⟩
    rw [dec_str]
    refine it2 (fun c2 => ?_) (fun c2 => ?_)
    · exact mk "deal" .non .non none none .non .non (by unfold invStp; rw [if_neg (of_decide_eq_false c1), if_pos (of_decide_eq_true c2)])
    refine ⟨_, rfl, rfl, _, rfl, ?_⟩
    rw [dec_str]
    refine it2 (fun c3 => ?_) (fun c3 => ?_)
    · have hk : kd = ("roll" : Str) := of_decide_eq_true c3
      have inv : invStp ⟨kd, b, r⟩ = ⟨"roll", b.map fun i => -i, none⟩ := by unfold invStp; rw [if_neg (of_decide_eq_false c1), if_neg (of_decide_eq_false c2), if_pos hk]
      cases shp hz with
      | two i hb hr m e kk hs ni i0 i1 =>
        cases hb
        cases hr
        obtain rfl := h2.intV
        exact ⟨_, rfl, _, rfl, mk "roll" (.int (-i)) .non (some (-i)) none (.int _) .non inv⟩
      | plain hb hr m kk w0 ws e n => 
        exfalso
        have e2 : kd = stpText ⟨kd, b, r⟩ := kk
        rw [← e2, hk] at m
        exact absurd m (by decide +kernel)
      | flip x y hb hr m kk e ho ha' na nb a0 ab b4 =>
        exfalso
        have e2 : kd = ("flip" : Str) := kk
        rw [hk] at e2
        exact absurd e2 (by decide +kernel)
      | six i x y hb hr m e kk kr hs ni i0 i1 ho ha' na nb a0 ab b4 ns => exact absurd hk kr
    refine ⟨_, rfl, rfl, _, rfl, ?_⟩
    rw [dec_str]
    refine it2 (fun c4 => ?_) (fun c4 => ?_)
    · exact ⟨_, rfl, _, rfl, mk "near" v2 v3 b r h2 h3 (by unfold invStp; rw [if_neg (of_decide_eq_false c1), if_neg (of_decide_eq_false c2), if_neg (of_decide_eq_false c3), if_pos (of_decide_eq_true c4)])⟩
    have inv : invStp ⟨kd, b, r⟩ = if kd = ("near" : Str) ∧ nearSum ⟨kd, b, r⟩ = true then ⟨"sum", b, r⟩ else ⟨kd, b, r⟩ := by
      unfold invStp
      rw [if_neg (of_decide_eq_false c1), if_neg (of_decide_eq_false c2), if_neg (of_decide_eq_false c3), if_neg (of_decide_eq_false c4)]
    refine ⟨_, rfl, rfl, _, rfl, ?_⟩
    rw [dec_str]
    refine it2 (fun c5 => ?_) (fun c5 => ?_)
    · have hk : kd = ("near" : Str) := of_decide_eq_true c5
      have yes : nearSum ⟨kd, b, r⟩ = true → 3 ≤ sizeLine ∧ ∀ p, H p = none → Q (.ref p) (upd H p (.tup [.str "sum", v2, v3])) := fun q => mk "sum" v2 v3 b r h2 h3 (by rw [inv, if_pos ⟨hk, q⟩])
      have no : nearSum ⟨kd, b, r⟩ = false → Q (.ref a) H := fun q => same (by rw [inv, if_neg (fun z => by rw [q] at z; exact Bool.false_ne_true z.2)])
      cases r with
      | none =>
        obtain rfl := h3.nonV
        have yes := yes (by cases b <;> rfl)
        exact ⟨_, rfl, rfl, _, rfl, itT rfl ⟨_, rfl, _, rfl, yes⟩⟩
      | some xy =>
        obtain ⟨x, y⟩ := xy
        obtain ⟨a3, x1, y1, rfl, ha3, hx, hy⟩ := DT.pair h3
        obtain rfl := hx.intV
        obtain rfl := hy.intV
        cases shp hz with
        | plain hb hr m kk w0 ws e n => cases hr
        | two i hb hr m e kk hs ni i0 i1 => cases hr
        | flip x y hb hr m kk e ho ha' na nb a0 ab b4 =>
          exfalso
          have e2 : kd = ("flip" : Str) := kk
          rw [hk] at e2
          exact absurd e2 (by decide +kernel)
        | six i x y hb hr m e kk kr hs ni i0 i1 ho ha' na nb a0 ab b4 ns =>
          cases hb
          cases hr
          obtain rfl := h2.intV
          refine ⟨_, rfl, rfl, _, rfl, itF rfl ?_⟩
          refine ⟨_, rfl, .inl ⟨_, rfl, _, rfl, a3, _, 1, _, rfl, rfl, SqT.of (W0.sub _ _ ha3), rfl, _, _, rfl, rfl, (by omega), rfl, _, rfl, ?_⟩⟩
          rw [dec_int]
          refine it2 (fun c6 => ?_) (fun c6 => ?_)
          · exact ⟨_, rfl, _, rfl, yes (by unfold nearSum; exact c6)⟩
          · exact ⟨_, rfl, no (by unfold nearSum; exact c6)⟩
    · exact ⟨_, rfl, same (by rw [inv, if_neg (fun z => (of_decide_eq_false c5) z.1)])⟩
abbrev s__law_inverted : Stmt := top 69
abbrev N__law_inverted : List Str := [("_law_steps_here" : Str), ("_law_step_here" : Str)]
abbrev P__law_inverted : List Str := [("_law_steps_here" : Str)]
theorem sc__law_inverted : FnScope N__law_inverted P__law_inverted (defScope s__law_inverted) := ⟨rfl, rfl, rfl, by decide +kernel, rfl, by decide +kernel, by decide +kernel⟩
theorem bd__law_inverted {K : PySem.W.Frag} {f : Addr} {fd : FuncData} (F : L2.Fun K "_law_inverted" "_law_inverted" s__law_inverted f fd) : Binds K fd P__law_inverted [] := F.binds fun _ _ _ _ _ _ us hl => match us, hl with | [_], _ => rfl

def spInverted (Tb : List (Addr × Str)) : Sp := fun vs H Q _ => ∃ (F : Hp) (v : V) (p : List Stp), vs = [v] ∧ Wd Tb F H ∧ DT F v (prD p) ∧ okStps p ∧ p.length ≤ 100 ∧ ∀ F' H' r, Ev Tb S0 F H F' H' → DT F' r (prD (invP p)) → Q r H'
theorem ok_inverted_l {f : Addr} {fd : FuncData} (F : L2.Fun K "_law_inverted" "_law_inverted" s__law_inverted f fd) (T : Txt P K mg A) (F__law_inverse : FnG P w K mg base CX0 1 "_law_inverse" P__law_inverse (spInverse Tb)) : FnOk P w K mg base CX0 2 f fd P__law_inverted (spInverted Tb) := by
  have sc := sc__law_inverted
  refine F.ok sc (fun vs H Q E h => ?_) (fun cdv AA outer s H vs Q E hr h => ?_)
  · obtain ⟨F, v, p, rfl, _⟩ := h
    rfl
  · obtain ⟨F, v, p, rfl, W0, hv, hp, hl, k⟩ := h
    refine ⟨_, (pss_one (ps_ret (pe_lc (own := [("_law_step_here", 1)]) rfl sc.nd (pi_listK (K := K) (pe_revLK (K := K) (pv 0))) (blkOk_by (own := [("_law_step_here", 1)]) (N := N__law_inverted) (sc := defScope s__law_inverted) (by decide +kernel)) (fun _ _ _ _ _ => by exact (pg_name (i := 1) sc.nd rfl (Or.inl rfl))) (fun _ _ _ _ _ => by exact pts_nil) (fun _ _ _ _ _ => by exact (pe_fn0 F__law_inverse hr (pa_cons (pv 1) pa_nil)))))), ?_⟩
    obtain ⟨a, xs, rfl, ha, hxs⟩ := hv.lstV
    refine ⟨_, rfl, a, xs, rfl, SqL.of (W0.sub _ _ ha), fun r hr => ?_⟩
    obtain ⟨e1, h1⟩ := new_lst (S := S0) W0 hr hxs.reverse
    refine ⟨r, rfl, ⟨_, SqL.of upd_same⟩, fun D hD => ?_⟩
    have lx : xs.length = p.length := by rw [hxs.length, List.length_map]
    refine lc_walk (K := K) (S := S0) stpD p.reverse (fun s => some (stpD (invStp s))) (xs := xs.reverse) (fun z => z) e1 upd_same (by rw [List.map_reverse]; exact e1.dts hxs.reverse) (by rw [List.length_reverse]; omega) hD (fun x z F2 H2 R R0 hz e2 hx hk hn => ?_) fun F2 H2 e2 hr => ?_
    · exact ⟨rfl, yes_ ⟨_, rfl, F2, x, z, rfl, e2.wd, hx, hp z (List.mem_reverse.mp hz), fun F3 H3 r e3 hr => hk F3 H3 r _ rfl e3 hr⟩⟩
    · rw [fm_some] at hr
      refine k F2 H2 _ (e1.trans0 e2) ?_
      unfold prD invP
      rw [List.map_map]
      exact hr
abbrev s__law_state_text : Stmt := top 58
abbrev N__law_state_text : List Str := [("_law_state" : Str), ("_law_name" : Str), ("_law_steps_here" : Str)]
abbrev P__law_state_text : List Str := [("_law_state" : Str)]
theorem sc__law_state_text : FnScope N__law_state_text P__law_state_text (defScope s__law_state_text) := ⟨rfl, rfl, rfl, by decide +kernel, rfl, by decide +kernel, by decide +kernel⟩
theorem bd__law_state_text {K : PySem.W.Frag} {f : Addr} {fd : FuncData} (F : L2.Fun K "_law_state_text" "_law_state_text" s__law_state_text f fd) : Binds K fd P__law_state_text [] := F.binds fun _ _ _ _ _ _ us hl => match us, hl with | [_], _ => rfl

def spStateText (Tb : List (Addr × Str)) : Sp := fun vs H Q _ => ∃ (F : Hp) (v : V) (st : Bst), vs = [v] ∧ Wd Tb F H ∧ DT F v (bstD st) ∧ SV st ∧ ∀ F' H', Ev Tb S0 F H F' H' → Q (.str (stText st)) H'
theorem ok_state_text {f : Addr} {fd : FuncData} (F : L2.Fun K "_law_state_text" "_law_state_text" s__law_state_text f fd) (T : Txt P K mg A) (F__law_program_text : FnG P w K mg base CX0 2 "_law_program_text" P__law_program_text (spProgText Tb)) : FnOk P w K mg base CX0 3 f fd P__law_state_text (spStateText Tb) := by
  have sc := sc__law_state_text
  refine F.ok sc (fun vs H Q E h => ?_) (fun cdv AA outer s H vs Q E hr h => ?_)
  · obtain ⟨F, v, p, rfl, _⟩ := h
    rfl
  · obtain ⟨F, v, st, rfl, W0, hv, hs, k⟩ := h
    refine ⟨_, (pss_one (ps_ret (pe_joinK (K := K) pe_str (pe_lc (own := [("_law_name", 1), ("_law_steps_here", 2)]) rfl sc.nd (pi_listK (K := K) (pv 0)) (blkOk_by (own := [("_law_name", 1), ("_law_steps_here", 2)]) (N := N__law_state_text) (sc := defScope s__law_state_text) (by decide +kernel)) (fun _ _ _ _ _ => by exact (pg_tupK (K := K) (n := 2) (pgs_cons (pg_name (i := 1) sc.nd rfl (Or.inl rfl)) (pgs_cons (pg_name (i := 2) sc.nd rfl (Or.inl rfl)) pgs_nil)))) (fun _ _ _ _ _ => by exact pts_nil) (fun _ _ _ _ _ => by exact (pe_op op_add_str (pe_op op_add_str (pv 1) pe_str) (pe_fn0 F__law_program_text hr (pa_cons (pv 2) pa_nil)))))))), ?_⟩
    refine ⟨⟨_, rfl⟩, ?_⟩
    refine lcD rowD st (fun r => some (.str (rowText r))) W0 rfl hv (by have := hs.len; omega) (fun x r F2 H2 R R0 hr e2 hx hk hn => ?_) fun D F1 H1 e1 hr => ?_
    · obtain ⟨a, y, z, rfl, ha, hy, hz⟩ := DT.pair hx
      obtain rfl := hy.strV
      obtain ⟨hn1, hn2⟩ := hs.row r hr
      have l1 := row_len hn1 hn2
      unfold rowText at l1
      simp only [len_app] at l1
      refine ⟨a, _, rfl, SqT.of (e2.wd.sub _ _ ha), rfl, _, _, rfl, _, _, rfl, rfl, rfl, yes_ ⟨_, rfl, _, _, rfl, rfl, szN (by omega), _, rfl, F2, z, r.2, rfl, e2.wd, hz, hn2.st, by have := hn2.len; omega, fun F3 H3 e3 => ?_⟩⟩
      exact ⟨_, _, rfl, rfl, szN (by simp only [len_app]; omega), hk F3 H3 _ _ rfl e3 (.str _)⟩
    · rw [fm_some] at hr
      obtain ⟨D', xs, q, hD, hxs⟩ := hr.lstV
      cases q
      have q : xs = (st.map rowText).map V.str := DTs.strs (F := F1) (by rw [List.map_map]; exact hxs)
      have l1 := rows_sum hs
      have l2 := hs.len
      refine ⟨_, D, st.map rowText, rfl, rfl, .inl (SqL.of (by rw [← q]; exact e1.wd.sub _ _ hD)), ?_, k F1 H1 e1⟩
      rw [nl_len, List.length_map]
      omega
end
end K64
/-! ## KD3 -/
set_option Elab.async false
set_option linter.all false
set_option maxRecDepth 100000
set_option maxHeartbeats 2000000
namespace K64
open PySem PySem.Spec PyProof.Rows L2 LamX
/-- what a due's answer is as data -/
def dueD (r : Option Bst × Obs) : PyData := .tuple [match r.1 with | none => .none | some st => bstD st, obsD r.2]
theorem collect_cons (st : Bst) (n : Str) (ns : List Str) : collect st (n :: ns) = if n ∈ names st then (match collect st ns with | .ok p => .ok (stepsOf st n ++ p) | .error e => .error e) else .error n := rfl
theorem collect_app (st : Bst) : ∀ (l r : List Str), collect st (l ++ r) = match collect st l with | .error e => .error e | .ok p => (match collect st r with | .ok q => .ok (p ++ q) | .error e => .error e)
  | [], r => by
    have e : collect st [] = .ok [] := rfl
    rw [List.nil_append, e]
    cases q : collect st r with
    | error e => simp [q]
    | ok p => simp [q]
  | n :: l, r => by
    have ih := collect_app st l r
    rw [List.cons_append, collect_cons, collect_cons, ih]
    by_cases h : n ∈ names st
    · rw [if_pos h, if_pos h]
      cases q1 : collect st l with
      | error e => rfl
      | ok p =>
        cases q2 : collect st r with
        | error e => simp [q2]
        | ok q => simp [q2, List.append_assoc]
    · rw [if_neg h, if_neg h]
theorem collect_at {st : Bst} {ns : List Str} {i : Nat} {x : Str} {p : List Stp} (h : ns[i]? = some x) (e : collect st (ns.take i) = .ok p) : collect st (ns.take (i + 1)) = if x ∈ names st then .ok (p ++ stepsOf st x) else .error x := by
  rw [List.take_add_one, h]
  show collect st (ns.take i ++ [x]) = _
  rw [collect_app, e]
  by_cases hx : x ∈ names st
  · rw [if_pos hx]
    simp [collect, hx]
  · rw [if_neg hx]
    simp [collect, hx]
theorem collect_err {st : Bst} {ns : List Str} {i : Nat} {x : Str} (e : collect st (ns.take i) = .error x) : collect st ns = .error x := by
  have q := collect_app st (ns.take i) (ns.drop i)
  rw [List.take_append_drop, e] at q
  exact q
theorem fm_deals : ∀ p : List Stp, (p.filterMap fun s => if dealK s = true then some (stpD s) else none).length = deals p
  | [] => rfl
  | s :: p => by
    have ih := fm_deals p
    unfold deals at ih ⊢
    by_cases h : dealK s = true
    · rw [List.filterMap_cons, List.filter_cons, if_pos h, if_pos h, List.length_cons, List.length_cons, ih]
    · rw [List.filterMap_cons, List.filter_cons, if_neg h, if_neg h, ih]
theorem in_deals (x : Str) : L2.inV (.str x) [V.str "deal", V.str "undeal"] = (decide (x = ("deal" : Str)) || decide (x = ("undeal" : Str))) := by
  have e : L2.inV (.str x) [V.str "deal", V.str "undeal"] = decide (x ∈ [("deal" : Str), ("undeal" : Str)]) := inV_str x ["deal", "undeal"]
  rw [e]
  by_cases h1 : x = ("deal" : Str)
  · simp [h1]
  · by_cases h2 : x = ("undeal" : Str)
    · simp [h1, h2]
    · simp [h1, h2]
section
variable {P : Program} {w : World} {K : PySem.W.Frag} {mg : Str → Option Value} {base : Heap} {A : Ad} {Tb : List (Addr × Str)}
/-- (None, (x, y)), (a state, (x, y)) -/
theorem due_pair {F H : Hp} {Q : VK} {x y : V} {r : Option Bst × Obs} (W0 : Wd Tb F H) (k : ∀ F' H' v, Ev Tb S0 F H F' H' → DT F' v (dueD r) → Q v H') {t : V} (ht : DT F t (match r.1 with | none => PyData.none | some st => bstD st)) (d e : PyData) (hx : DT F x d) (hy : DT F y e) (eo : obsD r.2 = .tuple [d, e]) :
    2 ≤ sizeLine ∧ ∀ p, H p = none → (2 ≤ sizeLine ∧ ∀ q, upd H p (.tup [x, y]) q = none → Q (.ref q) (upd (upd H p (.tup [x, y])) q (.tup [t, .ref p]))) := by
  refine ⟨sz2, fun p hp => ⟨sz2, fun q hq => ?_⟩⟩
  obtain ⟨e1, h1⟩ := new_tup (S := S0) W0 hp (.cons hx (.cons hy .nil))
  obtain ⟨e2, h2⟩ := new_tup (S := S0) e1.wd hq (.cons (e1.dt ht) (.cons h1 .nil))
  refine k _ _ _ (e1.trans0 e2) ?_
  unfold dueD
  rw [eo]
  exact h2
abbrev s__law_chain_due : Stmt := top 54
abbrev N__law_chain_due : List Str := [("_law_state" : Str), ("_law_name" : Str), ("_law_names" : Str), ("_law_part" : Str), ("_law_known" : Str), ("_law_steps_here" : Str), ("_law_row" : Str), ("_law_step_here" : Str)]
abbrev P__law_chain_due : List Str := [("_law_state" : Str), ("_law_name" : Str), ("_law_names" : Str)]
theorem sc__law_chain_due : FnScope N__law_chain_due P__law_chain_due (defScope s__law_chain_due) := ⟨rfl, rfl, rfl, by decide +kernel, rfl, by decide +kernel, by decide +kernel⟩
theorem bd__law_chain_due {K : PySem.W.Frag} {f : Addr} {fd : FuncData} (F : L2.Fun K "_law_chain_due" "_law_chain_due" s__law_chain_due f fd) : Binds K fd P__law_chain_due [] := F.binds fun _ _ _ _ _ _ us hl => match us, hl with | [_, _, _], _ => rfl

def spChainDue (Tb : List (Addr × Str)) : Sp := fun vs H Q _ => ∃ (F : Hp) (v w : V) (st : Bst) (n : Str) (ns : List Str), vs = [v, .str n, w] ∧ Wd Tb F H ∧ DT F v (bstD st) ∧ DT F w (.list (ns.map .str)) ∧ SV st ∧ ns.length ≤ 3 ∧
  ∀ F' H' r, Ev Tb S0 F H F' H' → DT F' r (dueD (due st (.chain n ns))) → Q r H'
theorem ok_chain_due {f : Addr} {fd : FuncData} (F : L2.Fun K "_law_chain_due" "_law_chain_due" s__law_chain_due f fd) (T : Txt P K mg A) (F__law_steps_of : FnG P w K mg base CX0 1 "_law_steps_of" P__law_steps_of (spStepsOf Tb)) (F__law_put_in : FnG P w K mg base CX0 1 "_law_put_in" P__law_put_in (spPutIn Tb)) :
    FnOk P w K mg base CX0 2 f fd P__law_chain_due (spChainDue Tb) := by
  have sc := sc__law_chain_due
  refine F.ok sc (fun vs H Q E h => ?_) (fun cdv AA outer s H vs Q E hr h => ?_)
  · obtain ⟨F, v, w, st, n, ns, rfl, _⟩ := h
    rfl
  · obtain ⟨F, v, w, st, n, ns, rfl, W0, hv, hw, hs, hl, k⟩ := h
    refine ⟨_, (pss_cons (ps_par (i := 4) (j := 5) rfl sc.nd rfl rfl (by decide) rfl rfl (pa_cons (pe_lc (own := [("_law_row", 6)]) rfl sc.nd (pi_listK (K := K) (pv 0)) (blkOk_by (own := [("_law_row", 6)]) (N := N__law_chain_due) (sc := defScope s__law_chain_due) (by decide +kernel)) (fun _ _ _ _ _ => by exact (pg_name (i := 6) sc.nd rfl (Or.inl rfl))) (fun _ _ _ _ _ => by exact pts_nil) (fun _ _ _ _ _ => by exact (pe_ix (ix_tupK (K := K)) (pv 6) pe_int (fun _ _ => rfl)))) (pa_cons (pe_lst pa_nil) pa_nil)) rfl)
      (pss_cons (ps_for PassesOwn.never rfl (pi_listK (K := K) (pv 2)) (pg_name (i := 3) sc.nd rfl (Or.inl rfl))
      (pss_cons (ps_if (pt_cmpR (op_notIn_seqK (K := K)) (pv 3) (pv 4) (by with_unfolding_all rfl)) (pss_one (ps_ret (pe_tup (pa_cons pe_non (pa_cons (pe_tup (pa_cons pe_str (pa_cons (pv 3) pa_nil))) pa_nil))))) pss_nil)
      (pss_one (ps_set (i := 5) sc.nd rfl (Or.inl rfl) (pe_op op_cat (pv 5) (pe_fn0 F__law_steps_of hr (pa_cons (pv 0) (pa_cons (pv 3) pa_nil))))))))
      (pss_cons (ps_if (pt_cmpR op_gt (pe_callB (call_len_seqK (K := K)) (by rfl) T.z_len PySem.boot_len (pa_cons (pv 5) pa_nil)) pe_int (nomark _)) (pss_one (ps_ret (pe_tup (pa_cons pe_non (pa_cons (pe_tup (pa_cons pe_str (pa_cons pe_int pa_nil))) pa_nil))))) pss_nil)
      (pss_cons (ps_if (pt_cmpR op_gt (pe_callB (call_len_seqK (K := K)) (by rfl) T.z_len PySem.boot_len (pa_cons (pe_lc (own := [("_law_step_here", 7)]) rfl sc.nd (pi_listK (K := K) (pv 5)) (blkOk_by (own := [("_law_step_here", 7)]) (N := N__law_chain_due) (sc := defScope s__law_chain_due) (by decide +kernel)) (fun _ _ _ _ _ => by exact (pg_name (i := 7) sc.nd rfl (Or.inl rfl))) (fun _ _ _ _ _ => by exact (pts_one (pt_cmpR (op_in_seqK (K := K)) (pe_ix (ix_tupK (K := K)) (pv 7) pe_int (fun _ _ => rfl)) (pe_tup (pa_cons pe_str (pa_cons pe_str pa_nil))) (by with_unfolding_all rfl)))) (fun _ _ _ _ _ => by exact (pv 7))) pa_nil)) pe_int (nomark _)) (pss_one (ps_ret (pe_tup (pa_cons pe_non (pa_cons (pe_tup (pa_cons pe_str (pa_cons pe_int pa_nil))) pa_nil))))) pss_nil)
      (pss_cons (ps_if (PW.pt (pw_and (pt_cmpR (op_notIn_seqK (K := K)) (pv 1) (pv 4) (by with_unfolding_all rfl)) (pw_and1 (pt_cmpR op_ge (pe_callB (call_len_seqK (K := K)) (by rfl) T.z_len PySem.boot_len (pa_cons (pv 4) pa_nil)) pe_int (nomark _))))) (pss_one (ps_ret (pe_tup (pa_cons pe_non (pa_cons (pe_tup (pa_cons pe_str (pa_cons pe_int pa_nil))) pa_nil))))) pss_nil)
      (pss_one (ps_ret (pe_tup (pa_cons (pe_fn0 F__law_put_in hr (pa_cons (pv 0) (pa_cons (pv 1) (pa_cons (pv 5) pa_nil)))) (pa_cons (pe_tup (pa_cons pe_str (pa_cons pe_non pa_nil))) pa_nil)))))))))), ?_⟩
    have l20 := hs.len
    refine tSeq_ (tPar_ (tCons_ (lc_names W0 rfl hv l20 (fun _ => rfl) (fun _ => rfl) fun D F1 H1 e1 hD => ?_)))
    refine ⟨sz0, fun l hl0 => ?_⟩
    refine ⟨_, _, rfl, ?_⟩
    obtain ⟨e2, h2⟩ := new_lst (S := S0) (xs := []) (ds := []) e1.wd hl0 .nil
    have e12 := e1.trans0 e2
    obtain ⟨a, xs, rfl, ha, hxs⟩ := hw.lstV
    obtain rfl := hxs.strs
    refine ⟨_, rfl, a, rfl, ⟨_, SqL.of (e12.wd.sub _ _ (e12.mono _ _ ha))⟩, ?_⟩
    have hD2 := e2.mono _ _ hD
    refine for_list (K := K) (a := a) (xs := ns.map V.str) (fun i σ H' => ∃ (F' : Hp) (r : V) (p : List Stp) (c : Option V), σ = [some v, some (.str n), some (.ref a), c, some (.ref D), some r, none, none] ∧ Ev Tb S0 F H F' H' ∧ F' D = some (.lst ((names st).map V.str)) ∧ DT F' r (prD p) ∧ collect st (ns.take i) = .ok p)
      ⟨_, _, [], none, rfl, e12, hD2, h2, rfl⟩ (fun i σ H' _ ⟨F', r, p, c, _, e3, _⟩ => SqL.of (e3.wd.sub _ _ (e3.mono _ _ ha))) ?_ ?_
    · rintro i y σ H' hy ⟨F', r, p, c, rfl, e3, hD3, hr3, hp⟩
      rw [List.getElem?_map] at hy
      obtain ⟨x, hx, rfl⟩ : ∃ x, ns[i]? = some x ∧ y = .str x := by
        cases q : ns[i]? with
        | none => rw [q] at hy; cases hy
        | some x => rw [q] at hy; exact ⟨x, rfl, (Option.some.inj hy).symm⟩
      have step := collect_at hx hp
      have hok := collect_ok hs hp
      have hlen := collect_len hs hp
      refine ⟨_, rfl, _, rfl, D, _, rfl, .inl (SqL.of (e3.wd.sub _ _ hD3)), rfl, flat_strs _, _, rfl, ?_⟩
      show if (!L2.inV (.str x) ((names st).map V.str)) = true then _ else _
      rw [inV_str]
      by_cases hn : x ∈ names st
      · rw [decide_eq_true hn]
        rw [if_pos hn] at step
        refine itF rfl ?_
        refine ⟨_, rfl, _, rfl, _, rfl, F', v, st, x, rfl, e3.wd, e3.dt hv, hn, l20, fun F4 H4 r4 e4 hr4 => ?_⟩
        obtain ⟨a1, x1, rfl, ha1, hx1⟩ := (e4.dt hr3).lstV
        obtain ⟨a2, x2, rfl, ha2, hx2⟩ := hr4.lstV
        have l1 : x1.length ≤ 15 := by
          rw [hx1.length, List.length_map]
          have : (ns.take i).length ≤ 3 := by rw [List.length_take]; omega
          omega
        have l2 : x2.length ≤ 5 := by rw [hx2.length, List.length_map]; exact (hs.okP hn).len
        refine ⟨a1, a2, x1, x2, rfl, rfl, e4.wd.sub _ _ ha1, e4.wd.sub _ _ ha2, szN (by omega), fun D5 hD5 => ?_⟩
        obtain ⟨e5, h5⟩ := new_lst (S := S0) e4.wd hD5 (hx1.append hx2)
        refine ⟨_, .ref D5, p ++ stepsOf st x, _, rfl, (e3.trans0 e4).trans0 e5, e5.mono _ _ (e4.mono _ _ hD3), ?_, step⟩
        unfold prD
        rw [List.map_append]
        exact h5
      · rw [decide_eq_false hn]
        rw [if_neg hn] at step
        refine itT rfl ?_
        have res : due st (.chain n ns) = noName x := by
          simp only [due, collect_err step]
        exact ⟨_, rfl, due_pair (r := noName x) e3.wd (fun F5 H5 q e5 h5 => k F5 H5 q (e3.trans0 e5) (by rw [res]; exact h5)) .non (.str "NoName") (.str x) (.str _) (.str _) rfl⟩
    · rintro σ H' ⟨F', r, p, c, rfl, e3, hD3, hr3, hp⟩
      rw [List.length_map, List.take_length] at hp
      have hok := collect_ok hs hp
      have hlen := collect_len hs hp
      have res : due st (.chain n ns) = chained st n p := by simp only [due, hp]
      have kk : ∀ F5 H5 q (e5 : Ev Tb S0 F' H' F5 H5), DT F5 q (dueD (chained st n p)) → Q q H5 := fun F5 H5 q e5 h5 => k F5 H5 q (e3.trans0 e5) (by rw [res]; exact h5)
      obtain ⟨a1, x1, rfl, ha1, hx1⟩ := hr3.lstV
      have l1 : x1.length = p.length := by rw [hx1.length, List.length_map]
      refine ⟨_, rfl, a1, x1, rfl, .inl (SqL.of (e3.wd.sub _ _ ha1)), _, _, rfl, rfl, _, rfl, ?_⟩
      rw [l1]
      refine it2 (fun h => ?_) (fun h => ?_)
      · have h5 : 5 < p.length := by have := of_decide_eq_true h; omega
        exact due_pair (r := tooMany 5) e3.wd (fun F5 H5 q e5 hh => kk F5 H5 q e5 (by unfold chained; rw [if_pos h5]; exact hh)) .non (.str "TooMany") (.int 5) (.str _) (.int _) rfl
      have h5 : ¬ 5 < p.length := by have := of_decide_eq_false h; omega
      unfold tNext
      dsimp only
      refine tSeq_ ?_
      refine tIfS_ (tTest_ (tOp_ (tCB_ (tCons_ ?_))))
      refine lcD stpD p (fun s => if dealK s = true then some (stpD s) else none) e3.wd rfl hr3 (by omega) (fun x z F2 H2 R R0 hz e4 hx hk hn => ?_) fun D2 F2 H2 e4 hr4 => ?_
      · obtain ⟨a3, v1, v2, v3, rfl, ha3, g1, g2, g3⟩ := DT.trip hx
        obtain rfl := g1.strV
        refine ⟨rfl, _, rfl, a3, _, 0, _, rfl, rfl, SqT.of (e4.wd.sub _ _ ha3), rfl, sz2, fun t ht => ?_⟩
        obtain ⟨e5, h5⟩ := new_tup (S := S0) e4.wd ht (.cons (.str "deal") (.cons (.str "undeal") .nil))
        refine ⟨t, _, rfl, .inr (SqT.of upd_same), rfl, rfl, _, rfl, ?_⟩
        show if (L2.inV (.str z.kind) [V.str "deal", V.str "undeal"]) = true then _ else _
        rw [in_deals]
        refine it2 (fun h => ?_) (fun h => ?_)
        · exact ⟨_, rfl, hk _ _ _ _ (by unfold dealK; rw [if_pos h]) e5 (e5.dt hx)⟩
        · exact hn _ _ (by unfold dealK; rw [if_neg (by rw [h]; exact Bool.false_ne_true)]) e5
      obtain ⟨D2', xs2, q2, hD2', hxs2⟩ := hr4.lstV
      cases q2
      have ld : xs2.length = deals p := by rw [hxs2.length, fm_deals]
      refine ⟨D2, xs2, rfl, .inl (SqL.of (e4.wd.sub _ _ hD2')), _, _, rfl, rfl, _, rfl, ?_⟩
      rw [ld]
      refine it2 (fun h => ?_) (fun h => ?_)
      · have h2 : 2 < deals p := by have := of_decide_eq_true h; omega
        exact due_pair (r := tooMany 2) e4.wd (fun F5 H5 q e5 hh => kk F5 H5 q (e4.trans0 e5) (by unfold chained; rw [if_neg h5, if_pos h2]; exact hh)) .non (.str "TooMany") (.int 2) (.str _) (.int _) rfl
      have h2 : ¬ 2 < deals p := by have := of_decide_eq_false h; omega
      have hD4 := e4.mono _ _ hD3
      refine ⟨_, rfl, _, rfl, D, _, rfl, .inl (SqL.of (e4.wd.sub _ _ hD4)), rfl, flat_strs _, _, rfl, ?_⟩
      show if (!L2.inV (.str n) ((names st).map V.str)) = true then _ else _
      rw [inV_str]
      have ln : ((names st).map V.str).length = st.length := by unfold names; rw [List.length_map, List.length_map]
      have put : ¬ (n ∉ names st ∧ 20 ≤ st.length) → (tRet (tTup (tCons (tCallS (spPutIn Tb) (fun _ => E0) (tCons (tVar 0) (tCons (tVar 1) (tCons (tVar 5) tNil)))) (tCons (tTup (tCons (tC (.str "ok")) (tCons (tC .non) tNil))) tNil))) { nx := fun x H' => Q V.non H', rt := Q } [some v, some (.str n), some (.ref a), c, some (.ref D), some (.ref a1), none, none] H2) := fun hq => by
        refine ⟨_, rfl, _, rfl, _, rfl, F2, v, .ref a1, st, n, p, rfl, e4.wd, (e3.trans0 e4).dt hv, e4.dt hr3, l20, fun F6 H6 r6 e6 hr6 => ?_⟩
        exact due_pair (r := (some (putIn st n p), okO)) e6.wd (fun F5 H5 q e5 hh => kk F5 H5 q ((e4.trans0 e6).trans0 e5) (by unfold chained; rw [if_neg h5, if_neg h2, if_neg hq]; exact hh)) hr6 (.str "ok") .none (.str _) .non rfl
      by_cases hn : n ∈ names st
      · rw [decide_eq_true hn]
        exact itF rfl (itF rfl (put fun z => z.1 hn))
      · rw [decide_eq_false hn]
        refine itT rfl ⟨_, rfl, D, _, rfl, .inl (SqL.of (e4.wd.sub _ _ hD4)), _, _, rfl, rfl, _, rfl, ?_⟩
        rw [ln]
        refine it2 (fun h => ?_) (fun h => ?_)
        · have h20 : n ∉ names st ∧ 20 ≤ st.length := ⟨hn, by have := of_decide_eq_true h; omega⟩
          exact due_pair (r := tooMany 20) e4.wd (fun F5 H5 q e5 hh => kk F5 H5 q (e4.trans0 e5) (by unfold chained; rw [if_neg h5, if_neg h2, if_pos h20]; exact hh)) .non (.str "TooMany") (.int 20) (.str _) (.int _) rfl
        · exact put fun z => by have := of_decide_eq_false h; omega
end
end K64
/-! ## KPen -/
set_option Elab.async false
set_option linter.all false
set_option maxRecDepth 100000
set_option maxHeartbeats 2000000
namespace K64
open PySem PySem.Spec PyProof.Rows L2 LamX
/-! ### a dict of three written keys -/
def d3 (a b c : Str) (x y z : V) : List (Key × V) := [(.inr a, x), (.inr b, y), (.inr c, z)]
section
variable {a b c : Str} {x y z u : V}
theorem inr_ne {a b : Str} (h : a ≠ b) : ¬ (Sum.inr a : Key) = Sum.inr b := fun e => h (Sum.inr.inj e)
theorem d3_g1 : valV (d3 a b c x y z) (.inr a) = some x := by simp [d3, valV]
theorem d3_g2 (h : a ≠ b) : valV (d3 a b c x y z) (.inr b) = some y := by simp [d3, valV, inr_ne h, h]
theorem d3_g3 (h : a ≠ c) (h2 : b ≠ c) : valV (d3 a b c x y z) (.inr c) = some z := by simp [d3, valV, inr_ne h, inr_ne h2, h, h2]
theorem d3_p1 (h : a ≠ b) (h2 : a ≠ c) : putK (d3 a b c x y z) (.inr a) u = d3 a b c u y z := by simp [d3, putK, Ne.symm h, Ne.symm h2]
theorem d3_p2 (h : a ≠ b) (h2 : b ≠ c) : putK (d3 a b c x y z) (.inr b) u = d3 a b c x u z := by simp [d3, putK, h, Ne.symm h2]
theorem d3_p3 (h : a ≠ c) (h2 : b ≠ c) : putK (d3 a b c x y z) (.inr c) u = d3 a b c x y u := by simp [d3, putK, h, h2]
theorem d3_m (h : a ≠ b) (h1 : a ≠ c) (h2 : b ≠ c) : mergeK [] (d3 a b c x y z) = d3 a b c x y z := by simp [d3, mergeK, putK, h, h1, h2, Ne.symm h, Ne.symm h1, Ne.symm h2]
end
abbrev penL (c : Addr) (n : Nat) (l : Int) : List (Key × V) := d3 "cells" "at" "left" (.ref c) (.int n) (.int l)
theorem k_ca : ("cells" : Str) ≠ "at" := by decide +kernel
theorem k_cl : ("cells" : Str) ≠ "left" := by decide +kernel
theorem k_al : ("at" : Str) ≠ "left" := by decide +kernel
/-- the pen at q: the script's numbers, how many were taken -/
def PenAt (F H : Hp) (q : Addr) (cells : List Int) (n : Nat) : Prop := ∃ (c : Addr) (l : Int), H q = some (.dK (penL c n l)) ∧ F q = none ∧ F c = some (.lst (cells.map .int))
section
variable {T : List (Addr × Str)} {S : Addr → Prop} {F H F1 H1 : Hp} {q : Addr} {cells : List Int} {n : Nat}
theorem PenAt.ev (h : PenAt F H q cells n) (e : Ev T S F H F1 H1) (hs : ¬ S q) : PenAt F1 H1 q cells n := by
  obtain ⟨c, l, h1, h2, h3⟩ := h
  exact ⟨c, l, e.kp h1 hs, e.nf h1 h2, e.mono _ _ h3⟩
/-- a number of the pen is written -/
theorem pen_set {c : Addr} {l : Int} {n' : Nat} {l' : Int} (w : Wd T F H) (h1 : H q = some (.dK (penL c n l))) (h2 : F q = none) (h3 : F c = some (.lst (cells.map .int))) :
    Ev T (· = q) F H F (upd H q (.dK (penL c n' l'))) ∧ PenAt F (upd H q (.dK (penL c n' l'))) q cells n' :=
  ⟨Ev.set w h1 h2 (fun _ z => by cases z) (fun _ z => by cases z) rfl, c, l', upd_same, h2, h3⟩
end
theorem shaped_ints (xs : List Int) : SeqAt.shaped (.list (xs.map PyData.int)) = true := by
  have h1 : ∀ xs : List Int, PyData.canLayAll0 (xs.map PyData.int) = true := by
    intro xs
    induction xs with
    | nil => rfl
    | cons x xs ih =>
      rw [List.map_cons, PyData.canLayAll0, ih]
      rfl
  have h2 : ∀ xs : List Int, PyData.depthAll (xs.map PyData.int) = 0 := by
    intro xs
    induction xs with
    | nil => rfl
    | cons x xs ih =>
      rw [List.map_cons, PyData.depthAll, ih]
      rfl
  unfold SeqAt.shaped
  rw [PyData.canLay0, PyData.depth, h1, h2]
  rfl
theorem eqv_nil (ds : List PyData) : PyData.eqv (.list ds) (.list []) = ds.isEmpty := by
  cases ds with
  | nil => rfl
  | cons d ds => rfl
theorem shaped_nil : SeqAt.shaped (.list []) = true := rfl
theorem fmod_lt {i m : Int} (h : 0 < m) : 0 ≤ i.fmod m ∧ i.fmod m < m := by
  rw [Int.fmod_eq_emod_of_nonneg i (by omega)]
  exact ⟨Int.emod_nonneg _ (by omega), Int.emod_lt_of_pos _ h⟩
theorem fmod_nat {n l : Nat} (h : 0 < l) : (n : Int).fmod (l : Int) = ((n % l : Nat) : Int) := by
  rw [Int.fmod_eq_emod_of_nonneg _ (by omega)]
  exact (Int.natCast_emod n l).symm
end K64
/-! ## KD4 -/
set_option Elab.async false
set_option linter.all false
set_option maxRecDepth 100000
set_option maxHeartbeats 2000000
namespace K64
open PySem PySem.Spec PyProof.Rows L2 LamX
section
variable {P : Program} {w : World} {K : PySem.W.Frag} {mg : Str → Option Value} {base : Heap} {A : Ad} {Tb : List (Addr × Str)}
abbrev s__law_due : Stmt := top 55
abbrev N__law_due : List Str := [("_law_state" : Str), ("_law_deed_here" : Str), ("_law_known" : Str), ("_law_steps_here" : Str), ("_law_kind" : Str), ("_law_name" : Str), ("_law_row" : Str)]
abbrev P__law_due : List Str := [("_law_state" : Str), ("_law_deed_here" : Str)]
theorem sc__law_due : FnScope N__law_due P__law_due (defScope s__law_due) := ⟨rfl, rfl, rfl, by decide +kernel, rfl, by decide +kernel, by decide +kernel⟩
theorem bd__law_due {K : PySem.W.Frag} {f : Addr} {fd : FuncData} (F : L2.Fun K "_law_due" "_law_due" s__law_due f fd) : Binds K fd P__law_due [] := F.binds fun _ _ _ _ _ _ us hl => match us, hl with | [_, _], _ => rfl

def spDue (Tb : List (Addr × Str)) : Sp := fun vs H Q _ => ∃ (F : Hp) (v w : V) (st : Bst) (d : Deed), vs = [v, w] ∧ Wd Tb F H ∧ DT F v (bstD st) ∧ DT F w (deedD d) ∧ SV st ∧ DeedOk d ∧ ∀ F' H' r, Ev Tb S0 F H F' H' → DT F' r (dueD (due st d)) → Q r H'
theorem fm_drop (n : Str) : ∀ st : Bst, st.filterMap (fun r => if r.1 ≠ n then some (rowD r) else none) = (st.filter fun r => decide (r.1 ≠ n)).map rowD
  | [] => rfl
  | r :: st => by
    have ih := fm_drop n st
    by_cases h : r.1 ≠ n
    · rw [List.filterMap_cons, List.filter_cons, if_pos h, if_pos (decide_eq_true h), List.map_cons, ih]
    · rw [List.filterMap_cons, List.filter_cons, if_neg h, if_neg (by simpa using h), ih]
theorem deed_head {F : Hp} {w : V} {d : Deed} (h : DT F w (deedD d)) : ∃ a xs kd, w = .ref a ∧ F a = some (.tup xs) ∧ xs[0]? = some (.str kd) ∧ xs[1]? = some (.str d.name) ∧ kd = (match d with | .put _ _ => ("put" : Str) | .drop _ => ("drop" : Str) | .turn _ => ("turn" : Str) | .chain _ _ => ("chain" : Str)) := by
  cases d with
  | put n p =>
    obtain ⟨a, x, y, z, rfl, ha, h1, h2, h3⟩ := DT.trip h
    obtain rfl := h1.strV
    obtain rfl := h2.strV
    exact ⟨a, _, _, rfl, ha, rfl, rfl, rfl⟩
  | chain n ns =>
    obtain ⟨a, x, y, z, rfl, ha, h1, h2, h3⟩ := DT.trip h
    obtain rfl := h1.strV
    obtain rfl := h2.strV
    exact ⟨a, _, _, rfl, ha, rfl, rfl, rfl⟩
  | drop n =>
    obtain ⟨a, x, y, rfl, ha, h1, h2⟩ := DT.pair h
    obtain rfl := h1.strV
    obtain rfl := h2.strV
    exact ⟨a, _, _, rfl, ha, rfl, rfl, rfl⟩
  | turn n =>
    obtain ⟨a, x, y, rfl, ha, h1, h2⟩ := DT.pair h
    obtain rfl := h1.strV
    obtain rfl := h2.strV
    exact ⟨a, _, _, rfl, ha, rfl, rfl, rfl⟩
theorem ok_due {f : Addr} {fd : FuncData} (F : L2.Fun K "_law_due" "_law_due" s__law_due f fd) (T : Txt P K mg A) (F__law_steps_of : FnG P w K mg base CX0 1 "_law_steps_of" P__law_steps_of (spStepsOf Tb)) (F__law_put_in : FnG P w K mg base CX0 1 "_law_put_in" P__law_put_in (spPutIn Tb))
    (F__law_chain_due : FnG P w K mg base CX0 2 "_law_chain_due" P__law_chain_due (spChainDue Tb)) (F__law_program_text : FnG P w K mg base CX0 2 "_law_program_text" P__law_program_text (spProgText Tb)) (F__law_inverted : FnG P w K mg base CX0 2 "_law_inverted" P__law_inverted (spInverted Tb)) :
    FnOk P w K mg base CX0 3 f fd P__law_due (spDue Tb) := by
  have sc := sc__law_due
  refine F.ok sc (fun vs H Q E h => ?_) (fun cdv AA outer s H vs Q E hr h => ?_)
  · obtain ⟨F, v, w, st, d, rfl, _⟩ := h
    rfl
  · obtain ⟨F, v, w, st, d, rfl, W0, hv, hw, hs, hd, k⟩ := h
    refine ⟨_, (pss_cons (ps_asg (pe_tup (pa_cons (pe_ix (ix_tupK (K := K)) (pv 1) pe_int (fun _ _ => rfl)) (pa_cons (pe_ix (ix_tupK (K := K)) (pv 1) pe_int (fun _ _ => rfl)) pa_nil))) (pg_tupK (K := K) (n := 2) (pgs_cons (pg_name (i := 4) sc.nd rfl (Or.inl rfl)) (pgs_cons (pg_name (i := 5) sc.nd rfl (Or.inr rfl)) pgs_nil))))
      (pss_cons (ps_setLc (i := 2) (own := [("_law_row", 6)]) rfl sc.nd rfl rfl (sw_true rfl rfl rfl (by decide +kernel)) (pi_listK (K := K) (pv 0)) (blkOk_by (own := [("_law_row", 6)]) (N := N__law_due) (sc := defScope s__law_due) (by decide +kernel)) (fun _ _ _ _ _ => by exact (pg_name (i := 6) sc.nd rfl (Or.inl rfl))) (fun _ _ _ _ _ => by exact pts_nil) (fun _ _ _ _ _ => by exact (pe_ix (ix_tupK (K := K)) (pv 6) pe_int (fun _ _ => rfl))))
      (pss_cons (ps_if (pt_cmpR op_eq (pv 4) pe_str (nomark _)) (pss_one (ps_ret (pe_fn0 F__law_chain_due hr (pa_cons (pv 0) (pa_cons (pv 5) (pa_cons (pe_ix (ix_tupK (K := K)) (pv 1) pe_int (fun _ _ => rfl)) pa_nil)))))) pss_nil)
      (pss_cons (ps_if (pt_cmpR op_eq (pv 4) pe_str (nomark _)) (pss_cons (ps_if (PW.pt (pw_and (pt_cmpR (op_notIn_seqK (K := K)) (pv 5) (pv 2) (by with_unfolding_all rfl)) (pw_and1 (pt_cmpR op_ge (pe_callB (call_len_seqK (K := K)) (by rfl) T.z_len PySem.boot_len (pa_cons (pv 2) pa_nil)) pe_int (nomark _))))) (pss_one (ps_ret (pe_tup (pa_cons pe_non (pa_cons (pe_tup (pa_cons pe_str (pa_cons pe_int pa_nil))) pa_nil))))) pss_nil)
      (pss_one (ps_ret (pe_tup (pa_cons (pe_fn0 F__law_put_in hr (pa_cons (pv 0) (pa_cons (pv 5) (pa_cons (pe_ix (ix_tupK (K := K)) (pv 1) pe_int (fun _ _ => rfl)) pa_nil)))) (pa_cons (pe_tup (pa_cons pe_str (pa_cons pe_non pa_nil))) pa_nil)))))) pss_nil)
      (pss_cons (ps_if (pt_cmpR (op_notIn_seqK (K := K)) (pv 5) (pv 2) (by with_unfolding_all rfl)) (pss_one (ps_ret (pe_tup (pa_cons pe_non (pa_cons (pe_tup (pa_cons pe_str (pa_cons (pv 5) pa_nil))) pa_nil))))) pss_nil)
      (pss_cons (ps_set (i := 3) sc.nd rfl (Or.inl rfl) (pe_fn0 F__law_steps_of hr (pa_cons (pv 0) (pa_cons (pv 5) pa_nil))))
      (pss_cons (ps_if (pt_cmpR op_eq (pv 4) pe_str (nomark _)) (pss_one (ps_ret (pe_tup (pa_cons (pe_lc (own := [("_law_row", 6)]) rfl sc.nd (pi_listK (K := K) (pv 0)) (blkOk_by (own := [("_law_row", 6)]) (N := N__law_due) (sc := defScope s__law_due) (by decide +kernel)) (fun _ _ _ _ _ => by exact (pg_name (i := 6) sc.nd rfl (Or.inl rfl))) (fun _ _ _ _ _ => by exact (pts_one (pt_cmpR op_ne (pe_ix (ix_tupK (K := K)) (pv 6) pe_int (fun _ _ => rfl)) (pv 5) (nomark _)))) (fun _ _ _ _ _ => by exact (pv 6))) (pa_cons (pe_tup (pa_cons pe_str (pa_cons (pe_fn0 F__law_program_text hr (pa_cons (pv 3) pa_nil)) pa_nil))) pa_nil))))) pss_nil)
      (pss_one (ps_ret (pe_tup (pa_cons (pe_fn0 F__law_put_in hr (pa_cons (pv 0) (pa_cons (pv 5) (pa_cons (pe_fn0 F__law_inverted hr (pa_cons (pv 3) pa_nil)) pa_nil)))) (pa_cons (pe_tup (pa_cons pe_str (pa_cons pe_non pa_nil))) pa_nil)))))))))))), ?_⟩
    have l20 := hs.len
    obtain ⟨a, xs, kd, rfl, ha, x0, x1, ekd⟩ := deed_head hw
    refine ⟨_, rfl, a, _, 0, _, rfl, rfl, SqT.of (W0.sub _ _ ha), atI_nat (j := 0) x0, _, rfl, a, _, 1, _, rfl, rfl, SqT.of (W0.sub _ _ ha), atI_nat (j := 1) x1, sz2, fun t ht => ?_⟩
    obtain ⟨e0, h0⟩ := new_tup (S := S0) W0 ht (.cons (.str kd) (.cons (.str d.name) .nil))
    refine ⟨t, _, rfl, SqT.of upd_same, rfl, _, _, rfl, _, _, rfl, rfl, ?_⟩
    refine tSeq_ (tAsg_ (lc_names e0.wd rfl (e0.dt hv) l20 (fun _ => rfl) (fun _ => rfl) fun D F1 H1 e1 hD => ?_))
    have e01 := e0.trans0 e1
    have kk : ∀ F5 H5 q (e5 : Ev Tb S0 F1 H1 F5 H5), DT F5 q (dueD (due st d)) → Q q H5 := fun F5 H5 q e5 h5 => k F5 H5 q (e01.trans0 e5) h5
    have ha1 := e01.wd.sub _ _ (e01.mono _ _ ha)
    have hv1 := e01.dt hv
    have hw1 := e01.dt hw
    have ln : ((names st).map V.str).length = st.length := by unfold names; rw [List.length_map, List.length_map]
    refine ⟨_, rfl, rfl, _, rfl, ?_⟩
    rw [dec_str]
    cases d with
    | chain n ns =>
      have ek : kd = ("chain" : Str) := ekd
      rw [decide_eq_true ek]
      refine itT rfl ?_
      obtain ⟨a', x', y', z', q, ha', g1, g2, g3⟩ := DT.trip hw1
      cases q
      exact ⟨_, rfl, _, rfl, _, rfl, a, _, 2, _, rfl, rfl, SqT.of (e01.wd.sub _ _ ha'), rfl, F1, v, z', st, n, ns, rfl, e01.wd, hv1, g3, hs, hd.2.1, fun F5 H5 r e5 h5 => kk F5 H5 r e5 h5⟩
    | put n p =>
      have ek : kd = ("put" : Str) := ekd
      rw [decide_eq_false (by rw [ek]; decide +kernel)]
      refine itF rfl ?_
      refine ⟨_, rfl, rfl, _, rfl, ?_⟩
      rw [dec_str, decide_eq_true ek]
      refine itT rfl ?_
      obtain ⟨a', x', y', z', q, ha', g1, g2, g3⟩ := DT.trip hw1
      cases q
      refine ⟨_, rfl, _, rfl, D, _, rfl, .inl (SqL.of (e01.wd.sub _ _ hD)), rfl, flat_strs _, _, rfl, ?_⟩
      show if (!L2.inV (.str n) ((names st).map V.str)) = true then _ else _
      rw [inV_str]
      have put : ¬ (n ∉ names st ∧ 20 ≤ st.length) → (tRet (tTup (tCons (tCallS (spPutIn Tb) (fun _ => E0) (tCons (tVar 0) (tCons (tVar 5) (tCons (tOp (rIxT K) (tVar 1) (tC (.int 2))) tNil)))) (tCons (tTup (tCons (tC (.str "ok")) (tCons (tC .non) tNil))) tNil))) { nx := fun x H' => Q V.non H', rt := Q } [some v, some (.ref a), some (.ref D), none, some (.str kd), some (.str n), none] H1) := fun hq => by
        refine ⟨_, rfl, _, rfl, _, rfl, a, _, 2, _, rfl, rfl, SqT.of (e01.wd.sub _ _ ha'), rfl, F1, v, z', st, n, p, rfl, e01.wd, hv1, g3, l20, fun F6 H6 r6 e6 hr6 => ?_⟩
        exact due_pair (r := (some (putIn st n p), okO)) e6.wd (fun F5 H5 q e5 hh => kk F5 H5 q (e6.trans0 e5) (by simp only [due, if_neg hq]; exact hh)) hr6 (.str "ok") .none (.str _) .non rfl
      by_cases hn : n ∈ names st
      · rw [decide_eq_true hn]
        exact itF rfl (itF rfl (put fun z => z.1 hn))
      · rw [decide_eq_false hn]
        refine itT rfl ⟨_, rfl, D, _, rfl, .inl (SqL.of (e01.wd.sub _ _ hD)), _, _, rfl, rfl, _, rfl, ?_⟩
        rw [ln]
        refine it2 (fun h => ?_) (fun h => ?_)
        · have h20 : n ∉ names st ∧ 20 ≤ st.length := ⟨hn, by have := of_decide_eq_true h; omega⟩
          exact due_pair (r := tooMany 20) e01.wd (fun F5 H5 q e5 hh => kk F5 H5 q e5 (by simp only [due, if_pos h20]; exact hh)) .non (.str "TooMany") (.int 20) (.str _) (.int _) rfl
        · exact put fun z => by have := of_decide_eq_false h; omega
    | drop n =>
      have ek : kd = ("drop" : Str) := ekd
      rw [decide_eq_false (by rw [ek]; decide +kernel)]
      refine itF rfl ?_
      refine ⟨_, rfl, rfl, _, rfl, ?_⟩
      rw [dec_str, decide_eq_false (by rw [ek]; decide +kernel)]
      refine itF rfl ?_
      refine ⟨_, rfl, _, rfl, D, _, rfl, .inl (SqL.of (e01.wd.sub _ _ hD)), rfl, flat_strs _, _, rfl, ?_⟩
      show if (!L2.inV (.str n) ((names st).map V.str)) = true then _ else _
      rw [inV_str]
      by_cases hn : n ∈ names st
      · rw [decide_eq_true hn]
        refine itF rfl ?_
        refine ⟨_, rfl, _, rfl, F1, v, st, n, rfl, e01.wd, hv1, hn, l20, fun F2 H2 r2 e2 hr2 => ?_⟩
        refine ⟨_, rfl, rfl, _, rfl, ?_⟩
        rw [dec_str, decide_eq_true ek]
        refine itT rfl ?_
        refine tRet_ (tTup_ (tCons_ ?_))
        refine lcD rowD st (fun r => if r.1 ≠ n then some (rowD r) else none) e2.wd rfl (e2.dt hv1) (by omega) (fun x r F3 H3 R R0 hr e3 hx hk hn' => ?_) fun D3 F3 H3 e3 hr3 => ?_
        · obtain ⟨a4, y, z, rfl, ha4, hy, hz⟩ := DT.pair hx
          obtain rfl := hy.strV
          refine ⟨rfl, _, rfl, a4, _, 0, _, rfl, rfl, SqT.of (e3.wd.sub _ _ ha4), rfl, _, rfl, rfl, _, rfl, ?_⟩
          rw [dec_str]
          refine it2 (fun h => ?_) (fun h => ?_)
          · have hne : r.1 ≠ n := of_decide_eq_false (by have q : (!decide (r.1 = n)) = true := h; revert q; cases decide (r.1 = n) <;> simp)
            exact ⟨_, rfl, hk F3 H3 _ _ (by rw [if_pos hne]) (Ev.refl e3.wd) hx⟩
          · have hne : r.1 = n := of_decide_eq_true (by have q : (!decide (r.1 = n)) = false := h; revert q; cases decide (r.1 = n) <;> simp)
            exact hn' F3 H3 (by rw [if_neg (fun z => z hne)]) (Ev.refl e3.wd)
        · refine ⟨_, rfl, F3, r2, stepsOf st n, rfl, e3.wd, e3.dt hr2, (hs.okP hn).st, by have := (hs.okP hn).len; omega, fun F4 H4 e4 => ?_⟩
          rw [fm_drop] at hr3
          exact due_pair (r := (some (st.filter fun r => decide (r.1 ≠ n)), .prS "ok" (progText (stepsOf st n)))) e4.wd (fun F5 H5 q e5 hh => kk F5 H5 q (((e2.trans0 e3).trans0 e4).trans0 e5) (by simp only [due, if_pos hn]; exact hh)) (e4.dt hr3) (.str "ok") (.str _) (.str _) (.str _) rfl
      · rw [decide_eq_false hn]
        refine itT rfl ?_
        exact ⟨_, rfl, due_pair (r := noName n) e01.wd (fun F5 H5 q e5 h5 => kk F5 H5 q e5 (by simp only [due, if_neg hn]; exact h5)) .non (.str "NoName") (.str n) (.str _) (.str _) rfl⟩
    | turn n =>
      have ek : kd = ("turn" : Str) := ekd
      rw [decide_eq_false (by rw [ek]; decide +kernel)]
      refine itF rfl ?_
      refine ⟨_, rfl, rfl, _, rfl, ?_⟩
      rw [dec_str, decide_eq_false (by rw [ek]; decide +kernel)]
      refine itF rfl ?_
      refine ⟨_, rfl, _, rfl, D, _, rfl, .inl (SqL.of (e01.wd.sub _ _ hD)), rfl, flat_strs _, _, rfl, ?_⟩
      show if (!L2.inV (.str n) ((names st).map V.str)) = true then _ else _
      rw [inV_str]
      by_cases hn : n ∈ names st
      · rw [decide_eq_true hn]
        refine itF rfl ?_
        refine ⟨_, rfl, _, rfl, F1, v, st, n, rfl, e01.wd, hv1, hn, l20, fun F2 H2 r2 e2 hr2 => ?_⟩
        refine ⟨_, rfl, rfl, _, rfl, ?_⟩
        rw [dec_str, decide_eq_false (by rw [ek]; decide +kernel)]
        refine itF rfl ?_
        have hp := hs.okP hn
        refine ⟨_, rfl, _, rfl, _, rfl, F2, r2, stepsOf st n, rfl, e2.wd, hr2, hp.st, by have := hp.len; omega, fun F3 H3 r3 e3 hr3 => ?_⟩
        refine ⟨F3, v, r3, st, n, invP (stepsOf st n), rfl, e3.wd, (e2.trans0 e3).dt hv1, hr3, l20, fun F4 H4 r4 e4 hr4 => ?_⟩
        exact due_pair (r := (some (putIn st n (invP (stepsOf st n))), okO)) e4.wd (fun F5 H5 q e5 hh => kk F5 H5 q (((e2.trans0 e3).trans0 e4).trans0 e5) (by simp only [due, if_pos hn]; exact hh)) hr4 (.str "ok") .none (.str _) .non rfl
      · rw [decide_eq_false hn]
        refine itT rfl ?_
        exact ⟨_, rfl, due_pair (r := noName n) e01.wd (fun F5 H5 q e5 h5 => kk F5 H5 q e5 (by simp only [due, if_neg hn]; exact h5)) .non (.str "NoName") (.str n) (.str _) (.str _) rfl⟩
end
end K64
/-! ## KD5 -/
set_option Elab.async false
set_option linter.all false
set_option maxRecDepth 100000
set_option maxHeartbeats 2000000
namespace K64
open PySem PySem.Spec PyProof.Rows L2 LamX
section
variable {P : Program} {w : World} {K : PySem.W.Frag} {mg : Str → Option Value} {base : Heap} {A : Ad} {Tb : List (Addr × Str)}
abbrev s__law_draw : Stmt := top 61
abbrev N__law_draw : List Str := [("_law_pen_here" : Str), ("_law_many" : Str), ("_law_spot" : Str), ("_law_cell" : Str), ("_law_mixed" : Str), ("_law_digit" : Str)]
abbrev P__law_draw : List Str := [("_law_pen_here" : Str), ("_law_many" : Str)]
theorem sc__law_draw : FnScope N__law_draw P__law_draw (defScope s__law_draw) := ⟨rfl, rfl, rfl, by decide +kernel, rfl, by decide +kernel, by decide +kernel⟩
theorem bd__law_draw {K : PySem.W.Frag} {f : Addr} {fd : FuncData} (F : L2.Fun K "_law_draw" "_law_draw" s__law_draw f fd) : Binds K fd P__law_draw [] := F.binds fun _ _ _ _ _ _ us hl => match us, hl with | [_, _], _ => rfl

def spDraw (Tb : List (Addr × Str)) : Sp := fun vs H Q _ => ∃ (F : Hp) (q : Addr) (cells : List Int) (n : Nat) (m : Int), vs = [.ref q, .int m] ∧ Wd Tb F H ∧ PenAt F H q cells n ∧ n ≤ 1000000 ∧ 0 < m ∧ m ≤ 100000 ∧
  ∀ F' H' (r : Int) n', Ev Tb (· = q) F H F' H' → PenAt F' H' q cells n' → n' ≤ n + 1 → 0 ≤ r → r < m → Q (.int r) H'
theorem ok_draw {f : Addr} {fd : FuncData} (F : L2.Fun K "_law_draw" "_law_draw" s__law_draw f fd) (T : Txt P K mg A) : FnOk P w K mg base CX0 1 f fd P__law_draw (spDraw Tb) := by
  have sc := sc__law_draw
  refine F.ok sc (fun vs H Q E h => ?_) (fun cdv AA outer s H vs Q E hr h => ?_)
  · obtain ⟨F, q, cells, n, m, rfl, _⟩ := h
    rfl
  · obtain ⟨F, q, cells, n, m, rfl, W0, ⟨c, l, h1, h2, h3⟩, hn, m0, m1, k⟩ := h
    refine ⟨_, (pss_cons (ps_if (pt_cmpR op_ge (pe_dget (hu_of hr) (pv 0) pe_str (fun _ _ => rfl)) (pv 1) (nomark _)) (pss_cons (ps_set (i := 5) sc.nd rfl (Or.inl rfl) (pe_op op_modN (pe_callTy call_int1 (by rfl) T.z_int (by decide +kernel) (pa_cons (pe_dget (hu_of hr) (pv 0) pe_str (fun _ _ => rfl)) pa_nil)) (pv 1)))
      (pss_cons (ps_dput (hu_of hr) (pv 0) pe_str (pe_op op_fdivW (pe_dget (hu_of hr) (pv 0) pe_str (fun _ _ => rfl)) (pv 1)) rfl)
      (pss_one (ps_ret (pv 5))))) pss_nil)
      (pss_cons (ps_set (i := 2) sc.nd rfl (Or.inl rfl) (pe_dget (hu_of hr) (pv 0) pe_str (fun _ _ => rfl)))
      (pss_cons (ps_dput (hu_of hr) (pv 0) pe_str (pe_op op_add (pv 2) pe_int) rfl)
      (pss_cons (ps_if (pt_cmpR (op_eqDK (K := K) hr.units) (pe_dget (hu_of hr) (pv 0) pe_str (fun _ _ => rfl)) (pe_lst pa_nil) (nomark _)) (pss_one (ps_ret (pe_op op_modN (pe_callTy call_int1 (by rfl) T.z_int (by decide +kernel) (pa_cons (pe_op op_add (pe_op op_mul pe_int (pv 2)) pe_int) pa_nil)) (pv 1)))) pss_nil)
      (pss_cons (ps_set (i := 3) sc.nd rfl (Or.inl rfl) (pe_ix (ix_listK (K := K)) (pe_dget (hu_of hr) (pv 0) pe_str (fun _ _ => rfl)) (pe_op op_modN (pe_callTy call_int1 (by rfl) T.z_int (by decide +kernel) (pa_cons (pv 2) pa_nil)) (pe_callB (call_len_seqK (K := K)) (by rfl) T.z_len PySem.boot_len (pa_cons (pe_dget (hu_of hr) (pv 0) pe_str (fun _ _ => rfl)) pa_nil))) (fun _ _ => rfl)))
      (pss_cons (ps_if (PW.pt (pw_and (pt_cmpR op_lt (pv 2) (pe_callB (call_len_seqK (K := K)) (by rfl) T.z_len PySem.boot_len (pa_cons (pe_dget (hu_of hr) (pv 0) pe_str (fun _ _ => rfl)) pa_nil)) (nomark _)) (pw_and1 (pt_cmpR op_ge (pv 3) (pe_op op_pow pe_int pe_int) (nomark _))))) (pss_cons (ps_dput (hu_of hr) (pv 0) pe_str (pe_op op_fdivW (pe_op op_sub (pv 3) (pe_op op_pow pe_int pe_int)) (pv 1)) rfl)
      (pss_one (ps_ret (pe_op op_modN (pe_callTy call_int1 (by rfl) T.z_int (by decide +kernel) (pa_cons (pe_op op_sub (pv 3) (pe_op op_pow pe_int pe_int)) pa_nil)) (pv 1))))) pss_nil)
      (pss_cons (ps_set (i := 4) sc.nd rfl (Or.inl rfl) (pe_op op_add (pe_op op_add (pe_op op_mul (pe_op op_add (pe_op op_modN (pe_callTy call_int1 (by rfl) T.z_int (by decide +kernel) (pa_cons (pv 3) pa_nil)) pe_int) pe_int) (pe_op op_add (pe_op op_mul pe_int (pv 2)) pe_int)) (pe_op op_mul (pe_op op_mul pe_int (pv 2)) (pv 2))) pe_int))
      (pss_cons (ps_set (i := 4) sc.nd rfl (Or.inl rfl) (pe_op op_modN (pe_callTy call_int1 (by rfl) T.z_int (by decide +kernel) (pa_cons (pv 4) pa_nil)) pe_int))
      (pss_cons (ps_set (i := 4) sc.nd rfl (Or.inl rfl) (pe_op op_modN (pe_callTy call_int1 (by rfl) T.z_int (by decide +kernel) (pa_cons (pe_op op_mul (pv 4) (pe_op op_add (pv 4) pe_int)) pa_nil)) pe_int))
      (pss_cons (ps_set (i := 4) sc.nd rfl (Or.inl rfl) (pe_op op_modN (pe_callTy call_int1 (by rfl) T.z_int (by decide +kernel) (pa_cons (pe_op op_mul (pv 4) (pv 4)) pa_nil)) pe_int))
      (pss_one (ps_ret (pe_op op_modN (pe_callTy call_int1 (by rfl) T.z_int (by decide +kernel) (pa_cons (pe_op op_fdivW (pv 4) pe_int) pa_nil)) (pv 1)))))))))))))), ?_⟩
    have g1 : ∀ {H : Hp} {n : Nat} {l : Int}, H q = some (.dK (penL c n l)) → DGet H q (.str "cells") (some (.ref c)) := fun {H n l} h => .inl ⟨_, .inr "cells", .inl h, rfl, (d3_g1).symm⟩
    have g2 : ∀ {H : Hp} {n : Nat} {l : Int}, H q = some (.dK (penL c n l)) → DGet H q (.str "at") (some (.int n)) := fun {H n l} h => .inl ⟨_, .inr "at", .inl h, rfl, (d3_g2 k_ca).symm⟩
    have g3 : ∀ {H : Hp} {n : Nat} {l : Int}, H q = some (.dK (penL c n l)) → DGet H q (.str "left") (some (.int l)) := fun {H n l} h => .inl ⟨_, .inr "left", .inl h, rfl, (d3_g3 k_cl k_al).symm⟩
    have p2 : ∀ {H : Hp} {n : Nat} {l : Int} (n' : Nat), H q = some (.dK (penL c n l)) → DPut H q (.str "at") (.int n') (upd H q (.dK (penL c n' l))) := fun {H n l} n' h => .inl ⟨_, .inr "at", h, rfl, szL (n := 3) (by decide), by rw [d3_p2 k_ca k_al]⟩
    have p3 : ∀ {H : Hp} {n : Nat} {l : Int} (l' : Int), H q = some (.dK (penL c n l)) → DPut H q (.str "left") (.int l') (upd H q (.dK (penL c n l'))) := fun {H n l} l' h => .inl ⟨_, .inr "left", h, rfl, szL (n := 3) (by decide), by rw [d3_p3 k_cl k_al]⟩
    have dv : ∀ i : Int, CDivW i m := fun i => wide_div (b := 20) m0 (by omega) (by decide) (by decide)
    have mz : m ≠ 0 := by omega
    refine ⟨_, rfl, q, _, rfl, g3 h1, _, rfl, _, _, rfl, rfl, _, rfl, ?_⟩
    refine it2 (fun hc => ?_) (fun hc => ?_)
    · refine ⟨_, rfl, q, _, rfl, g3 h1, .inl ⟨_, rfl, _, rfl, _, _, rfl, rfl, mz, ?_⟩⟩
      refine ⟨_, rfl, q, _, rfl, g3 h1, _, rfl, _, _, rfl, rfl, dv _, _, rfl, q, _, rfl, p3 _ h1, ?_⟩
      obtain ⟨e1, hp1⟩ := pen_set (n' := n) (l' := l / m) W0 h1 h2 h3
      obtain ⟨r0, r1⟩ := fmod_lt (i := l) m0
      exact ⟨_, rfl, k _ _ _ n e1 hp1 (by omega) r0 r1⟩
    refine ⟨_, rfl, q, _, rfl, g2 h1, ?_⟩
    refine ⟨_, rfl, _, _, rfl, rfl, _, rfl, q, _, rfl, p2 (n + 1) h1, ?_⟩
    obtain ⟨e1, hp1⟩ := pen_set (n' := n + 1) (l' := l) W0 h1 h2 h3
    have u1 : upd H q (.dK (penL c (n + 1) l)) q = some (.dK (penL c (n + 1) l)) := upd_same
    have hc1 : upd H q (.dK (penL c (n + 1) l)) c = some (.lst (cells.map .int)) := e1.wd.sub _ _ h3
    have fin : ∀ i : Int, Q (.int (i.fmod m)) (upd H q (.dK (penL c (n + 1) l))) := fun i => k _ _ _ (n + 1) e1 hp1 (by omega) (fmod_lt m0).1 (fmod_lt m0).2
    have dc : Dp K (upd H q (.dK (penL c (n + 1) l))) (.ref c) (.list (cells.map .int)) := DT.dp e1.wd.sub _ _ (.lst h3 (DTs.ofInts _))
    refine ⟨_, rfl, q, _, rfl, g1 u1, sz0, fun z hz => ?_⟩
    have hzq : q ≠ z := ne_of_none u1 hz
    have hzc : c ≠ z := ne_of_none hc1 hz
    have u2 : upd (upd H q (.dK (penL c (n + 1) l))) z (.lst []) q = some (.dK (penL c (n + 1) l)) := by rw [upd_ne hzq]; exact u1
    have hc2 : upd (upd H q (.dK (penL c (n + 1) l))) z (.lst []) c = some (.lst (cells.map .int)) := by rw [upd_ne hzc]; exact hc1
    have e2 : Ev Tb S0 F (upd H q (.dK (penL c (n + 1) l))) F (upd (upd H q (.dK (penL c (n + 1) l))) z (.lst [])) := Ev.new e1.wd hz
    have e12 := e1.trans0 e2
    have fin2 : ∀ i : Int, Q (.int (i.fmod m)) (upd (upd H q (.dK (penL c (n + 1) l))) z (.lst [])) := fun i => k _ _ _ (n + 1) e12 (hp1.ev e2 (fun z => z)) (by omega) (fmod_lt m0).1 (fmod_lt m0).2
    refine ⟨.list (cells.map .int), .list [], DT.dp e12.wd.sub _ _ (.lst h3 (DTs.ofInts _)), .lst (SqL.of upd_same) .nil, shaped_ints _, shaped_nil, _, rfl, ?_⟩
    rw [eqv_nil]
    cases ec : cells with
    | nil =>
      refine itT rfl ?_
      exact ⟨_, rfl, _, _, rfl, rfl, .inl ⟨by decide, by decide⟩, _, _, rfl, rfl, .inl ⟨_, rfl, _, rfl, _, _, rfl, rfl, mz, fin2 _⟩⟩
    | cons c0 cs =>
      refine itF rfl ?_
      clear e2
      have hpos : 0 < cells.length := by rw [ec]; exact Nat.succ_pos _
      clear ec
      have hlm : (cells.map V.int).length = cells.length := List.length_map _
      have hj : n % cells.length < cells.length := Nat.mod_lt _ hpos
      obtain ⟨cell, hcell⟩ : ∃ x, cells[n % cells.length]? = some x := ⟨_, List.getElem?_eq_getElem hj⟩
      have hix : atI (cells.map V.int) ((n : Int).fmod ((cells.map V.int).length : Int)) = some (.int cell) := by
        rw [hlm, fmod_nat hpos]
        exact atI_nat (by rw [List.getElem?_map, hcell]; rfl)
      refine ⟨_, rfl, q, _, rfl, g1 u2, _, rfl, .inl ⟨_, rfl, _, rfl, q, _, rfl, g1 u2, c, _, rfl, .inl (SqL.of hc2), _, _, rfl, rfl, (by rw [hlm]; omega), c, _, _, _, rfl, rfl, SqL.of hc2, hix, ?_⟩⟩
      unfold tNext
      dsimp only
      refine tSeq_ (tIf_and (b1 := decide ((n : Int) < ((cells.map V.int).length : Int))) (b2 := decide (10 ^ (18 : Int).toNat ≤ cell)) (fun Q' hq => ⟨_, rfl, _, rfl, q, _, rfl, g1 u2, c, _, rfl, .inl (SqL.of hc2), _, _, rfl, rfl, _, rfl, hq⟩) (fun _ Q' hq => ⟨_, rfl, _, _, rfl, rfl, ⟨by decide, by decide, by decide⟩, _, _, rfl, rfl, _, rfl, hq⟩) (fun _ _ => ?_) (fun _ => ?_))
      · refine ⟨_, rfl, _, _, rfl, rfl, ⟨by decide, by decide, by decide⟩, _, _, rfl, rfl, _, rfl, _, _, rfl, rfl, dv _, _, rfl, q, _, rfl, p3 _ u2, ?_⟩
        refine ⟨_, rfl, _, _, rfl, rfl, ⟨by decide, by decide, by decide⟩, _, _, rfl, rfl, .inl ⟨_, rfl, _, rfl, _, _, rfl, rfl, mz, ?_⟩⟩
        obtain ⟨e3, hp3⟩ := pen_set (n' := n + 1) (l' := (cell - 10 ^ (18 : Int).toNat) / m) e12.wd u2 h2 h3
        exact k _ _ _ (n + 1) (e12.then e3) hp3 (by omega) (fmod_lt m0).1 (fmod_lt m0).2
      · have f1 := fmod_lt (i := cell) (m := 2147483629) (by decide)
        refine ⟨_, rfl, .inl ⟨_, rfl, _, _, rfl, rfl, (by show (2147483629 : Int) ≠ 0; decide), _, _, rfl, rfl, _, rfl, _, _, rfl, rfl, .inl ⟨by decide, by decide⟩, _, _, rfl, rfl, _, _, rfl, rfl, .inl ⟨by omega, by omega⟩, ?_⟩⟩
        refine ⟨_, rfl, _, _, rfl, rfl, .inl ⟨by decide, by decide⟩, _, rfl, _, _, rfl, rfl, .inl ⟨by omega, by omega⟩, _, _, rfl, rfl, _, _, rfl, rfl, ?_⟩
        refine ⟨_, rfl, .inl ⟨_, rfl, _, _, rfl, rfl, (by show (2147483647 : Int) ≠ 0; decide), ?_⟩⟩
        have f2 := fmod_lt (i := (cell.fmod 2147483629 + 1) * (97 * (n : Int) + 40693) + 69623 * (n : Int) * (n : Int) + 11) (m := 2147483647) (by decide)
        refine ⟨_, rfl, _, rfl, _, _, rfl, rfl, _, _, rfl, rfl, .inl ⟨by omega, by omega⟩, .inl ⟨_, rfl, _, _, rfl, rfl, (by show (2147483587 : Int) ≠ 0; decide), ?_⟩⟩
        have f3 := fmod_lt (i := (((cell.fmod 2147483629 + 1) * (97 * (n : Int) + 40693) + 69623 * (n : Int) * (n : Int) + 11).fmod 2147483647) * (((cell.fmod 2147483629 + 1) * (97 * (n : Int) + 40693) + 69623 * (n : Int) * (n : Int) + 11).fmod 2147483647 + 16811)) (m := 2147483587) (by decide)
        refine ⟨_, rfl, _, rfl, _, _, rfl, rfl, .inl ⟨by omega, by omega⟩, .inl ⟨_, rfl, _, _, rfl, rfl, (by show (2147483563 : Int) ≠ 0; decide), ?_⟩⟩
        exact ⟨_, rfl, _, _, rfl, rfl, wide_div (b := 20) (by decide) (by decide) (by decide) (by decide), .inl ⟨_, rfl, _, rfl, _, _, rfl, rfl, mz, fin2 _⟩⟩
end
end K64
/-! ## KD6 -/
set_option Elab.async false
set_option linter.all false
set_option maxRecDepth 100000
set_option maxHeartbeats 2000000
namespace K64
open PySem PySem.Spec PyProof.Rows L2 LamX
theorem Ev.sql {T : List (Addr × Str)} {S : Addr → Prop} {F H F1 H1 : Hp} {K : PySem.W.Frag} {a : Addr} {xs : List V} (e : Ev T S F H F1 H1) (h : SqL K H a xs) (hs : ¬ S a) : SqL K H1 a xs := by
  rcases h with (h | ⟨o, h⟩) | h
  · exact .inl (.inl (e.keep _ _ hs h (fun _ z => by cases z)))
  · exact .inl (.inr ⟨o, e.keep _ _ hs h (fun _ z => by cases z)⟩)
  · exact .inr h
/-- what may be picked from: a list of data, a text -/
def Pk (F : Hp) (v : V) (R : PyData → Prop) : Prop :=
  (∃ xs : List PyData, DT F v (.list xs) ∧ 0 < xs.length ∧ xs.length ≤ 100 ∧ ∀ d, d ∈ xs → R d) ∨ (∃ z : Str, v = .str z ∧ 0 < z.length ∧ z.length ≤ 100 ∧ ∀ c, c ∈ TL.tl z → R (.str ⟨#[c]⟩))
def kindL : List Str := ["turn", "roll", "deal", "undeal", "swap", "near", "sum", "near at", "sum at", "gather", "spread", "flip", "flip first", "flip last"]
section
variable {P : Program} {w : World} {K : PySem.W.Frag} {mg : Str → Option Value} {base : Heap} {A : Ad} {Tb : List (Addr × Str)}
abbrev s__law_pick : Stmt := top 62
abbrev N__law_pick : List Str := [("_law_pen_here" : Str), ("_law_some" : Str)]
abbrev P__law_pick : List Str := [("_law_pen_here" : Str), ("_law_some" : Str)]
theorem sc__law_pick : FnScope N__law_pick P__law_pick (defScope s__law_pick) := ⟨rfl, rfl, rfl, by decide +kernel, rfl, by decide +kernel, by decide +kernel⟩
theorem bd__law_pick {K : PySem.W.Frag} {f : Addr} {fd : FuncData} (F : L2.Fun K "_law_pick" "_law_pick" s__law_pick f fd) : Binds K fd P__law_pick [] := F.binds fun _ _ _ _ _ _ us hl => match us, hl with | [_, _], _ => rfl

def spPick (Tb : List (Addr × Str)) : Sp := fun vs H Q _ => ∃ (F : Hp) (q : Addr) (cells : List Int) (n : Nat) (v : V) (R : PyData → Prop), vs = [.ref q, v] ∧ Wd Tb F H ∧ PenAt F H q cells n ∧ n ≤ 1000000 ∧ Pk F v R ∧
  ∀ F' H' r d n', Ev Tb (· = q) F H F' H' → PenAt F' H' q cells n' → n' ≤ n + 1 → R d → DT F' r d → Q r H'
theorem ok_pick {f : Addr} {fd : FuncData} (F : L2.Fun K "_law_pick" "_law_pick" s__law_pick f fd) (T : Txt P K mg A) (F__law_draw : FnG P w K mg base CX0 1 "_law_draw" P__law_draw (spDraw Tb)) : FnOk P w K mg base CX0 2 f fd P__law_pick (spPick Tb) := by
  have sc := sc__law_pick
  refine F.ok sc (fun vs H Q E h => ?_) (fun cdv AA outer s H vs Q E hr h => ?_)
  · obtain ⟨F, q, cells, n, v, R, rfl, _⟩ := h
    rfl
  · obtain ⟨F, q, cells, n, v, R, rfl, W0, hp, hn, hk, k⟩ := h
    refine ⟨_, (pss_one (ps_ret (pe_ix (ix_seqK (K := K)) (pv 1) (pe_fn0 F__law_draw hr (pa_cons (pv 0) (pa_cons (pe_callB (call_lenK (K := K)) (by rfl) T.z_len PySem.boot_len (pa_cons (pv 1) pa_nil)) pa_nil))) (fun _ _ => rfl)))), ?_⟩
    rcases hk with ⟨xs, hv, l0, l1, hR⟩ | ⟨z, rfl, l0, l1, hR⟩
    · obtain ⟨a, vs, rfl, ha, hvs⟩ := hv.lstV
      have lv := hvs.length
      have na : a ≠ q := fun e => by
        obtain ⟨_, _, _, h2, _⟩ := hp
        rw [e, h2] at ha
        cases ha
      refine ⟨_, rfl, _, rfl, _, rfl, _, vs.length, rfl, .inl ⟨vs, SqL.of (W0.sub _ _ ha), rfl⟩, F, q, cells, n, _, rfl, W0, hp, hn, by omega, by omega, fun F1 H1 r n1 e1 hp1 hn1 r0 r1 => ?_⟩
      have hlt : r.toNat < vs.length := by omega
      obtain ⟨x, hx⟩ : ∃ x, vs[r.toNat]? = some x := ⟨_, List.getElem?_eq_getElem hlt⟩
      obtain ⟨d, hd, hxd⟩ := hvs.get hx
      have er : r = (r.toNat : Int) := by omega
      refine .inl ⟨a, vs, r, x, rfl, rfl, SqL.of (e1.wd.sub _ _ (e1.mono _ _ ha)), by rw [er]; exact atI_nat hx, ?_⟩
      exact k F1 H1 x d n1 e1 hp1 hn1 (hR d (List.mem_of_getElem? hd)) (e1.dt hxd)
    · refine ⟨_, rfl, _, rfl, _, rfl, _, z.length, rfl, ⟨szN (by omega), rfl⟩, F, q, cells, n, _, rfl, W0, hp, hn, by omega, by omega, fun F1 H1 r n1 e1 hp1 hn1 r0 r1 => ?_⟩
      have hlt : r.toNat < z.cps.toList.length := by
        have q : z.length = z.cps.toList.length := TL.len_tl z
        omega
      obtain ⟨c, hc⟩ : ∃ c, z.cps.toList[r.toNat]? = some c := ⟨_, List.getElem?_eq_getElem hlt⟩
      have er : r = (r.toNat : Int) := by omega
      refine .inr (.inr ⟨z, r, c, rfl, rfl, szN (by omega), by rw [er]; exact atI_nat hc, ?_⟩)
      exact k F1 H1 _ _ n1 e1 hp1 hn1 (hR c (List.mem_of_getElem? hc)) (.str _)
abbrev s__law_kinds : Stmt := top 63
abbrev N__law_kinds : List Str := []
abbrev P__law_kinds : List Str := []
theorem sc__law_kinds : FnScope N__law_kinds P__law_kinds (defScope s__law_kinds) := ⟨rfl, rfl, rfl, by decide +kernel, rfl, by decide +kernel, by decide +kernel⟩
theorem bd__law_kinds {K : PySem.W.Frag} {f : Addr} {fd : FuncData} (F : L2.Fun K "_law_kinds" "_law_kinds" s__law_kinds f fd) : Binds K fd P__law_kinds [] := F.binds fun _ _ _ _ _ _ us hl => match us, hl with | [], _ => rfl

def spKinds (Tb : List (Addr × Str)) : Sp := fun vs H Q _ => ∃ (F : Hp), vs = [] ∧ Wd Tb F H ∧ ∀ F' H' r, Ev Tb S0 F H F' H' → DT F' r (.list (kindL.map .str)) → Q r H'
theorem ok_kinds {f : Addr} {fd : FuncData} (F : L2.Fun K "_law_kinds" "_law_kinds" s__law_kinds f fd) (T : Txt P K mg A) : FnOk P w K mg base CX0 1 f fd P__law_kinds (spKinds Tb) := by
  have sc := sc__law_kinds
  refine F.ok sc (fun vs H Q E h => ?_) (fun cdv AA outer s H vs Q E hr h => ?_)
  · obtain ⟨F, rfl, _⟩ := h
    rfl
  · obtain ⟨F, rfl, W0, k⟩ := h
    refine ⟨_, (pss_one (ps_ret (pe_lst (pa_cons pe_str (pa_cons pe_str (pa_cons pe_str (pa_cons pe_str (pa_cons pe_str (pa_cons pe_str (pa_cons pe_str (pa_cons pe_str (pa_cons pe_str (pa_cons pe_str (pa_cons pe_str (pa_cons pe_str (pa_cons pe_str (pa_cons pe_str pa_nil))))))))))))))))), ?_⟩
    refine ⟨szN (n := 14) (by decide), fun l hl => ?_⟩
    obtain ⟨e1, h1⟩ := new_lst (S := S0) W0 hl (DTs.ofStrs (F := F) kindL)
    exact k _ _ _ e1 h1
abbrev s__law_pen : Stmt := top 60
abbrev N__law_pen : List Str := [("_law_script" : Str)]
abbrev P__law_pen : List Str := [("_law_script" : Str)]
theorem sc__law_pen : FnScope N__law_pen P__law_pen (defScope s__law_pen) := ⟨rfl, rfl, rfl, by decide +kernel, rfl, by decide +kernel, by decide +kernel⟩
theorem bd__law_pen {K : PySem.W.Frag} {f : Addr} {fd : FuncData} (F : L2.Fun K "_law_pen" "_law_pen" s__law_pen f fd) : Binds K fd P__law_pen [] := F.binds fun _ _ _ _ _ _ us hl => match us, hl with | [_], _ => rfl

def spPen (K : PySem.W.Frag) (Tb : List (Addr × Str)) : Sp := fun vs H Q _ => ∃ (F : Hp) (a : Addr) (ns : List Int), vs = [.ref a] ∧ Wd Tb F H ∧ SqL K H a (ns.map V.int) ∧ ∀ F' H' q cells, Ev Tb S0 F H F' H' → H q = none → PenAt F' H' q cells 0 → Q (.ref q) H'
theorem ok_pen {f : Addr} {fd : FuncData} (F : L2.Fun K "_law_pen" "_law_pen" s__law_pen f fd) (T : Txt P K mg A) : FnOk P w K mg base CX0 1 f fd P__law_pen (spPen K Tb) := by
  have sc := sc__law_pen
  refine F.ok sc (fun vs H Q E h => ?_) (fun cdv AA outer s H vs Q E hr h => ?_)
  · obtain ⟨F, a, ns, rfl, _⟩ := h
    rfl
  · obtain ⟨F, a, ns, rfl, W0, ha, k⟩ := h
    refine ⟨_, (pss_one (ps_ret (pe_disp (pps_cons pe_str (pe_callTy (call_list_ofK (K := K)) (by rfl) T.z_list (by decide +kernel) (pa_cons (pe_slice (sl_listK (K := K)) (pv 0) po_none (po_some pe_int)) pa_nil)) (pps_cons pe_str pe_int (pps_cons pe_str pe_int pps_nil))) (by rfl) (by rfl) (fun z => by cases z) (by decide)))), ?_⟩
    intro q hq
    have e1 : Ev Tb S0 F H F (upd H q (.dK [])) := Ev.new W0 hq
    refine ⟨_, rfl, 63, rfl, a, _, rfl, e1.sql ha (fun z => z), fun l1 hl1 => ?_⟩
    have e2 : Ev Tb S0 F (upd H q (.dK [])) F (upd (upd H q (.dK [])) l1 (.lst (cutV (ns.map V.int) none (some 63)))) := Ev.new e1.wd hl1
    refine ⟨l1, _, rfl, .inl (SqL.of upd_same), fun l2 hl2 => ?_⟩
    have ecut : cutV (ns.map V.int) none (some 63) = ((ns.drop (HT.sIx (ns.map V.int).length 0 none)).take (HT.sIx (ns.map V.int).length (ns.map V.int).length (some 63) - HT.sIx (ns.map V.int).length 0 none)).map V.int := by
      unfold cutV
      rw [List.map_take, List.map_drop]
    rw [ecut]
    rw [ecut] at e2 hl2
    generalize (ns.drop (HT.sIx (ns.map V.int).length 0 none)).take (HT.sIx (ns.map V.int).length (ns.map V.int).length (some 63) - HT.sIx (ns.map V.int).length 0 none) = cells at e2 hl2 ⊢
    have e3 : Ev Tb S0 F (upd (upd H q (.dK [])) l1 (.lst (cells.map V.int))) (upd F l2 (.lst (cells.map V.int))) (upd (upd (upd H q (.dK [])) l1 (.lst (cells.map V.int))) l2 (.lst (cells.map V.int))) := Ev.frz e2.wd hl2
    have e123 := (e1.trans0 e2).trans0 e3
    have q1 : upd H q (.dK []) q = some (.dK []) := upd_same
    have q3 := e3.kp (e2.kp q1)
    have fq := e3.nf (e2.kp q1) (e2.nf q1 (W0.none hq))
    refine ⟨q3, [(.inr "cells", .ref l2), (.inr "at", .int 0), (.inr "left", .int 0)], rfl, by show 3 ≤ 15; decide, ?_⟩
    have em : mergeK [] [((.inr "cells" : Key), V.ref l2), (.inr "at", .int 0), (.inr "left", .int 0)] = penL l2 0 0 := d3_m k_ca k_cl k_al
    rw [em]
    have e4 : Ev Tb (· = q) _ _ _ (upd (upd (upd (upd H q (.dK [])) l1 (.lst (cells.map V.int))) l2 (.lst (cells.map V.int))) q (.dK (penL l2 0 0))) := Ev.set e123.wd q3 fq (fun _ z => by cases z) (fun _ z => by cases z) rfl
    exact k _ _ q cells (e123.trans e4 (fun _ z => z.elim) fun b hb => .inr (by rw [hb]; exact hq)) hq ⟨l2, 0, upd_same, fq, upd_same⟩
abbrev s__law_word : Stmt := top 50
abbrev N__law_word : List Str := [("_law_pen_here" : Str), ("_law_turn" : Str), ("_law_many" : Str), ("_law_letters" : Str)]
abbrev P__law_word : List Str := [("_law_pen_here" : Str)]
theorem sc__law_word : FnScope N__law_word P__law_word (defScope s__law_word) := ⟨rfl, rfl, rfl, by decide +kernel, rfl, by decide +kernel, by decide +kernel⟩
theorem bd__law_word {K : PySem.W.Frag} {f : Addr} {fd : FuncData} (F : L2.Fun K "_law_word" "_law_word" s__law_word f fd) : Binds K fd P__law_word [] := F.binds fun _ _ _ _ _ _ us hl => match us, hl with | [_], _ => rfl

def spWord (Tb : List (Addr × Str)) : Sp := fun vs H Q _ => ∃ (F : Hp) (q : Addr) (cells : List Int) (n : Nat), vs = [.ref q] ∧ Wd Tb F H ∧ PenAt F H q cells n ∧ n ≤ 900000 ∧
  ∀ F' H' x n', Ev Tb (· = q) F H F' H' → PenAt F' H' q cells n' → n' ≤ n + 13 → NmOk x → Q (.str x) H'
theorem abc_ok : ∀ c ∈ TL.tl ("abcdefghijklmnopqrstuvwxyz" : Str), 97 ≤ c ∧ c ≤ 122 := by decide +kernel
theorem abc_len : ("abcdefghijklmnopqrstuvwxyz" : Str).length = 26 := by decide +kernel
theorem ok_word {f : Addr} {fd : FuncData} (F : L2.Fun K "_law_word" "_law_word" s__law_word f fd) (T : Txt P K mg A) (F__law_pick : FnG P w K mg base CX0 2 "_law_pick" P__law_pick (spPick Tb)) : FnOk P w K mg base CX0 3 f fd P__law_word (spWord Tb) := by
  have sc := sc__law_word
  refine F.ok sc (fun vs H Q E h => ?_) (fun cdv AA outer s H vs Q E hr h => ?_)
  · obtain ⟨F, q, cells, n, rfl, _⟩ := h
    rfl
  · obtain ⟨F, q, cells, n, rfl, W0, hp, hn, k⟩ := h
    refine ⟨_, (pss_cons (ps_par (i := 2) (j := 3) rfl sc.nd rfl rfl (by decide) rfl rfl (pa_cons (pe_fn0 F__law_pick hr (pa_cons (pv 0) (pa_cons (pe_lst (pa_cons pe_int (pa_cons pe_int (pa_cons pe_int (pa_cons pe_int (pa_cons pe_int pa_nil)))))) pa_nil))) (pa_cons pe_str pa_nil)) rfl)
      (pss_cons (ps_for PassesOwn.never rfl (pi_range1 (by rfl) T.z_range (pa_cons (pv 2) pa_nil)) (pg_name (i := 1) sc.nd rfl (Or.inl rfl))
      (pss_one (ps_set (i := 3) sc.nd rfl (Or.inl rfl) (pe_op op_add_str (pv 3) (pe_fn0 F__law_pick hr (pa_cons (pv 0) (pa_cons pe_str pa_nil)))))))
      (pss_one (ps_ret (pv 3))))), ?_⟩
    refine ⟨_, rfl, szN (n := 5) (by decide), fun l hl => ?_⟩
    obtain ⟨e1, h1⟩ := new_lst (S := S0) W0 hl (DTs.ofInts (F := F) [1, 2, 2, 3, 12])
    refine ⟨_, q, cells, n, .ref l, (fun d => ∃ i : Int, d = .int i ∧ 1 ≤ i ∧ i ≤ 12), rfl, e1.wd, hp.ev e1 (fun z => z), by omega, .inl ⟨_, h1, by decide, by decide, fun d hd => ?_⟩, fun F2 H2 r d n2 e2 hp2 hn2 hR hr => ?_⟩
    · have : d ∈ [PyData.int 1, .int 2, .int 2, .int 3, .int 12] := hd
      simp only [List.mem_cons, List.not_mem_nil, or_false] at this
      rcases this with rfl | rfl | rfl | rfl | rfl <;> exact ⟨_, rfl, by decide, by decide⟩
    obtain ⟨i, rfl, i1, i2⟩ := hR
    obtain rfl := hr.intV
    have e12 : Ev Tb (· = q) F H F2 H2 := (e1.to0).then e2
    refine ⟨_, _, rfl, _, rfl, i, rfl, by omega, by omega, ?_⟩
    refine for_range (lo := 0) (n := i.toNat) (fun j σ H' => ∃ (F' : Hp) (x : Str) (c : Option V) (n' : Nat), σ = [some (.ref q), c, some (.int i), some (.str x)] ∧ Ev Tb (· = q) F H F' H' ∧ PenAt F' H' q cells n' ∧ n' ≤ n + 1 + j ∧ x.length = j ∧ ∀ c ∈ TL.tl x, 97 ≤ c ∧ c ≤ 122)
      ⟨F2, "", none, n2, rfl, e12, hp2, by omega, rfl, fun c hc => by have : c ∈ ([] : List Nat) := hc; cases this⟩ ?_ ?_
    · rintro j σ H' hj ⟨F', x, c, n', rfl, e3, hp3, hn3, hx, hxc⟩
      refine ⟨_, rfl, _, rfl, F', q, cells, n', _, (fun d => ∃ c, d = .str ⟨#[c]⟩ ∧ 97 ≤ c ∧ c ≤ 122), rfl, e3.wd, hp3, by omega, .inr ⟨_, rfl, by rw [abc_len]; decide, by rw [abc_len]; decide, fun c hc => ⟨c, rfl, abc_ok c hc⟩⟩, fun F4 H4 r d n4 e4 hp4 hn4 hR hr => ?_⟩
      obtain ⟨c', rfl, c1, c2⟩ := hR
      obtain rfl := hr.strV
      refine ⟨_, _, rfl, rfl, szN (by show x.length + 1 ≤ 1000000; omega), ?_⟩
      refine ⟨F4, _, _, n4, rfl, e3.then e4, hp4, by omega, ?_, ?_⟩
      · rw [len_app, hx]
        rfl
      · intro d hd
        rw [TL.tl_append] at hd
        rcases List.mem_append.mp hd with hd | hd
        · exact hxc d hd
        · have : d ∈ [c'] := hd
          rw [List.mem_singleton.mp this]
          exact ⟨c1, c2⟩
    · rintro σ H' ⟨F', x, c, n', rfl, e3, hp3, hn3, hx, hxc⟩
      exact ⟨_, rfl, k F' H' x n' e3 hp3 (by omega) ⟨by omega, by omega, hxc⟩⟩
abbrev s__law_pool : Stmt := top 51
abbrev N__law_pool : List Str := [("_law_pen_here" : Str), ("_law_pool_here" : Str)]
abbrev P__law_pool : List Str := [("_law_pen_here" : Str)]
theorem sc__law_pool : FnScope N__law_pool P__law_pool (defScope s__law_pool) := ⟨rfl, rfl, rfl, by decide +kernel, rfl, by decide +kernel, by decide +kernel⟩
theorem bd__law_pool {K : PySem.W.Frag} {f : Addr} {fd : FuncData} (F : L2.Fun K "_law_pool" "_law_pool" s__law_pool f fd) : Binds K fd P__law_pool [] := F.binds fun _ _ _ _ _ _ us hl => match us, hl with | [_], _ => rfl

def spPool (Tb : List (Addr × Str)) : Sp := fun vs H Q _ => ∃ (F : Hp) (q : Addr) (cells : List Int) (n : Nat), vs = [.ref q] ∧ Wd Tb F H ∧ PenAt F H q cells n ∧ n ≤ 800000 ∧
  ∀ F' H' r (xs : List Str) n', Ev Tb (· = q) F H F' H' → PenAt F' H' q cells n' → n' ≤ n + 39 → xs.length = 5 → (∀ x ∈ xs, NmOk x) → DT F' r (.list (xs.map .str)) → Q r H'
theorem cut11 {x : Str} (h : NmOk x) : (cutS x none (some 11)).length ≤ 11 ∧ ∀ c ∈ TL.tl (cutS x none (some 11)), 97 ≤ c ∧ c ≤ 122 := by
  have e : TL.tl (cutS x none (some 11)) = (TL.tl x).take (min 11 x.length) := by
    show ((x.cps.toList.drop (HT.sIx x.length 0 none)).take (HT.sIx x.length x.length (some ((11 : Nat) : Int)) - HT.sIx x.length 0 none)) = _
    rw [HT.sIx_none, HT.sIx_nat, List.drop_zero, Nat.sub_zero]
  refine ⟨?_, fun c hc => ?_⟩
  · rw [TL.len_tl, e, List.length_take]
    omega
  · rw [e] at hc
    exact h.lt c (List.mem_of_mem_take hc)
theorem ok_pool {f : Addr} {fd : FuncData} (F : L2.Fun K "_law_pool" "_law_pool" s__law_pool f fd) (T : Txt P K mg A) (F__law_word : FnG P w K mg base CX0 3 "_law_word" P__law_word (spWord Tb)) : FnOk P w K mg base CX0 4 f fd P__law_pool (spPool Tb) := by
  have sc := sc__law_pool
  refine F.ok sc (fun vs H Q E h => ?_) (fun cdv AA outer s H vs Q E hr h => ?_)
  · obtain ⟨F, q, cells, n, rfl, _⟩ := h
    rfl
  · obtain ⟨F, q, cells, n, rfl, W0, hp, hn, k⟩ := h
    refine ⟨_, (pss_cons (ps_set (i := 1) sc.nd rfl (Or.inl rfl) (pe_lst (pa_cons (pe_fn0 F__law_word hr (pa_cons (pv 0) pa_nil)) (pa_cons (pe_fn0 F__law_word hr (pa_cons (pv 0) pa_nil)) (pa_cons (pe_fn0 F__law_word hr (pa_cons (pv 0) pa_nil)) pa_nil)))))
      (pss_one (ps_ret (pe_op op_cat (pv 1) (pe_lst (pa_cons (pe_op op_add_str (pe_slice sl_str (pe_ix (ix_listK (K := K)) (pv 1) pe_int (fun _ _ => rfl)) po_none (po_some pe_int)) pe_str) (pa_cons (pe_op op_add_str pe_str (pe_slice sl_str (pe_ix (ix_listK (K := K)) (pv 1) pe_int (fun _ _ => rfl)) po_none (po_some pe_int))) pa_nil))))))), ?_⟩
    refine ⟨_, rfl, F, q, cells, n, rfl, W0, hp, by omega, fun F1 H1 x1 n1 e1 hp1 hn1 o1 => ?_⟩
    refine ⟨_, rfl, F1, q, cells, n1, rfl, e1.wd, hp1, by omega, fun F2 H2 x2 n2 e2 hp2 hn2 o2 => ?_⟩
    refine ⟨_, rfl, F2, q, cells, n2, rfl, e2.wd, hp2, by omega, fun F3 H3 x3 n3 e3 hp3 hn3 o3 => ⟨sz3, fun l hl => ?_⟩⟩
    have e13 := (e1.then e2).then e3
    obtain ⟨e4, h4⟩ := new_lst (S := S0) e3.wd hl (DTs.ofStrs (F := F3) [x1, x2, x3])
    have sl : SqL K (upd H3 l (.lst [V.str x1, .str x2, .str x3])) l [V.str x1, .str x2, .str x3] := SqL.of upd_same
    obtain ⟨c1, d1⟩ := cut11 o1
    obtain ⟨c2, d2⟩ := cut11 o2
    refine ⟨_, rfl, _, rfl, l, _, 0, _, rfl, rfl, sl, atI_nat (j := 0) rfl, _, rfl, x1, rfl, szN (by have := o1.l2; omega), _, _, rfl, rfl, szN (by show (cutS x1 none (some 11)).length + 1 ≤ 1000000; omega), ?_⟩
    refine ⟨_, rfl, l, _, 1, _, rfl, rfl, sl, atI_nat (j := 1) rfl, _, rfl, x2, rfl, szN (by have := o2.l2; omega), _, _, rfl, rfl, szN (by show 1 + (cutS x2 none (some 11)).length ≤ 1000000; omega), sz2, fun l2 hl2 => ?_⟩
    have hl4 : upd H3 l (.lst [V.str x1, .str x2, .str x3]) l = some (.lst [V.str x1, .str x2, .str x3]) := upd_same
    refine ⟨l, l2, _, _, rfl, rfl, (by rw [upd_ne (ne_of_none hl4 hl2)]; exact hl4), upd_same, szN (by show 3 + 2 ≤ 1000000; decide), fun D hD => ?_⟩
    have e5 := Ev.new (S := S0) (o := .lst [V.str (cutS x1 none (some 11) ++ ("a" : Str)), V.str (("z" : Str) ++ cutS x2 none (some 11))]) e4.wd hl2
    obtain ⟨e6, h6⟩ := new_lst (S := S0) e5.wd hD (DTs.ofStrs (F := upd F3 l (.lst [V.str x1, .str x2, .str x3])) [x1, x2, x3, cutS x1 none (some 11) ++ ("a" : Str), ("z" : Str) ++ cutS x2 none (some 11)])
    refine k _ _ _ [x1, x2, x3, cutS x1 none (some 11) ++ ("a" : Str), ("z" : Str) ++ cutS x2 none (some 11)] n3 (((e13.trans0 e4).trans0 e5).trans0 e6) (((hp3.ev e4 (fun z => z)).ev e5 (fun z => z)).ev e6 (fun z => z)) (by omega) rfl ?_ h6
    intro x hx
    simp only [List.mem_cons, List.not_mem_nil, or_false] at hx
    rcases hx with rfl | rfl | rfl | rfl | rfl
    · exact o1
    · exact o2
    · exact o3
    · refine ⟨by rw [len_app]; show 1 ≤ _ + 1; omega, by rw [len_app]; show _ + 1 ≤ 12; omega, fun c hc => ?_⟩
      rw [TL.tl_append] at hc
      rcases List.mem_append.mp hc with hc | hc
      · exact d1 c hc
      · have : c ∈ [97] := hc
        rw [List.mem_singleton.mp this]
        decide
    · refine ⟨by rw [len_app]; show 1 ≤ 1 + _; omega, by rw [len_app]; show 1 + _ ≤ 12; omega, fun c hc => ?_⟩
      rw [TL.tl_append] at hc
      rcases List.mem_append.mp hc with hc | hc
      · have : c ∈ [122] := hc
        rw [List.mem_singleton.mp this]
        decide
      · exact d2 c hc
end
end K64
/-! ## KD7 -/
set_option Elab.async false
set_option linter.all false
set_option maxRecDepth 100000
set_option maxHeartbeats 2000000
namespace K64
open PySem PySem.Spec PyProof.Rows L2 LamX
theorem pk_ints {F : Hp} {v : V} (xs : List Int) (h : DT F v (.list (xs.map .int))) (h0 : 0 < xs.length) (h1 : xs.length ≤ 100) : Pk F v (fun d => ∃ i, i ∈ xs ∧ d = .int i) :=
  .inl ⟨_, h, by rw [List.length_map]; exact h0, by rw [List.length_map]; exact h1, fun d hd => by obtain ⟨i, hi, rfl⟩ := List.mem_map.mp hd; exact ⟨i, hi, rfl⟩⟩
theorem pk_strs {F : Hp} {v : V} (xs : List Str) (h : DT F v (.list (xs.map .str))) (h0 : 0 < xs.length) (h1 : xs.length ≤ 100) : Pk F v (fun d => ∃ i, i ∈ xs ∧ d = .str i) :=
  .inl ⟨_, h, by rw [List.length_map]; exact h0, by rw [List.length_map]; exact h1, fun d hd => by obtain ⟨i, hi, rfl⟩ := List.mem_map.mp hd; exact ⟨i, hi, rfl⟩⟩
def six : List Int := [1, -1, 2, -2, 3, -3]
def four : List Int := [2, -2, 3, -3]
theorem m_sum : ∀ b ∈ four, ∀ r ∈ ([0, 1, 2, 3] : List Int), r < (if b < 0 then -b else b) → (⟨"sum", some b, some (r, if b < 0 then -b else b)⟩ : Stp) ∈ allStps := by decide +kernel
theorem m_near : ∀ b ∈ six, ∀ m ∈ ([2, 3, 4] : List Int), ∀ r ∈ ([0, 1, 2, 3] : List Int), r < m → (⟨"near", some b, some (r, m)⟩ : Stp) ∈ allStps := by decide +kernel
theorem m_two : ∀ k ∈ shiftK, ∀ b ∈ six, (⟨k, some b, none⟩ : Stp) ∈ allStps := by decide +kernel
theorem m_flip : ∀ m ∈ ([2, 3, 4] : List Int), ∀ r ∈ ([0, 1, 2, 3] : List Int), r < m → (⟨"flip", none, some (r, m)⟩ : Stp) ∈ allStps := by decide +kernel
theorem m_plain : ∀ k ∈ kindL, k ≠ ("sum at" : Str) → k ≠ ("near at" : Str) → k ∉ shiftK → k ≠ ("flip" : Str) → (⟨k, none, none⟩ : Stp) ∈ allStps := by decide +kernel
theorem m_at : ∀ k ∈ kindL, k ∈ shiftK → dealK ⟨k, none, none⟩ = false := by decide +kernel
theorem in03 {r : Int} (h0 : 0 ≤ r) (h1 : r < 4) : r ∈ ([0, 1, 2, 3] : List Int) := by
  have : r = 0 ∨ r = 1 ∨ r = 2 ∨ r = 3 := by omega
  rcases this with rfl | rfl | rfl | rfl <;> decide
theorem in24 {r : Int} (h0 : 0 ≤ r) (h1 : r < 3) : 2 + r ∈ ([2, 3, 4] : List Int) := by
  have : r = 0 ∨ r = 1 ∨ r = 2 := by omega
  rcases this with rfl | rfl | rfl <;> decide
theorem absF : ∀ b ∈ four, 2 ≤ (if b < 0 then -b else b) ∧ (if b < 0 then -b else b) ≤ 3 := by decide
theorem dealK_k (k : Str) (b : Option Int) (r : Option (Int × Int)) : dealK ⟨k, b, r⟩ = dealK ⟨k, none, none⟩ := rfl
theorem dk_sum : dealK ⟨"sum", none, none⟩ = false := by decide +kernel
theorem dk_near : dealK ⟨"near", none, none⟩ = false := by decide +kernel
theorem inV_shift (x : Str) : L2.inV (.str x) [V.str "roll", V.str "near", V.str "sum"] = decide (x ∈ shiftK) := inV_str x shiftK
section
variable {P : Program} {w : World} {K : PySem.W.Frag} {mg : Str → Option Value} {base : Heap} {A : Ad} {Tb : List (Addr × Str)}
abbrev s__law_step : Stmt := top 64
abbrev N__law_step : List Str := [("_law_pen_here" : Str), ("_law_kinds_here" : Str), ("_law_kind" : Str), ("_law_by" : Str), ("_law_whole" : Str)]
abbrev P__law_step : List Str := [("_law_pen_here" : Str), ("_law_kinds_here" : Str)]
theorem sc__law_step : FnScope N__law_step P__law_step (defScope s__law_step) := ⟨rfl, rfl, rfl, by decide +kernel, rfl, by decide +kernel, by decide +kernel⟩
theorem bd__law_step {K : PySem.W.Frag} {f : Addr} {fd : FuncData} (F : L2.Fun K "_law_step" "_law_step" s__law_step f fd) : Binds K fd P__law_step [] := F.binds fun _ _ _ _ _ _ us hl => match us, hl with | [_, _], _ => rfl

def spStep (Tb : List (Addr × Str)) : Sp := fun vs H Q _ => ∃ (F : Hp) (q : Addr) (cells : List Int) (n : Nat) (v : V) (ks : List Str), vs = [.ref q, v] ∧ Wd Tb F H ∧ PenAt F H q cells n ∧ n ≤ 900000 ∧ DT F v (.list (ks.map .str)) ∧ 0 < ks.length ∧ ks.length ≤ 20 ∧ (∀ k ∈ ks, k ∈ kindL) ∧
  ∀ F' H' r (s : Stp) n', Ev Tb (· = q) F H F' H' → PenAt F' H' q cells n' → n' ≤ n + 5 → s ∈ allStps → (dealK s = true → s.kind ∈ ks) → DT F' r (stpD s) → Q r H'
theorem ok_step {f : Addr} {fd : FuncData} (F : L2.Fun K "_law_step" "_law_step" s__law_step f fd) (T : Txt P K mg A) (F__law_draw : FnG P w K mg base CX0 1 "_law_draw" P__law_draw (spDraw Tb)) (F__law_pick : FnG P w K mg base CX0 2 "_law_pick" P__law_pick (spPick Tb)) : FnOk P w K mg base CX0 3 f fd P__law_step (spStep Tb) := by
  have sc := sc__law_step
  refine F.ok sc (fun vs H Q E h => ?_) (fun cdv AA outer s H vs Q E hr h => ?_)
  · obtain ⟨F, q, cells, n, v, ks, rfl, _⟩ := h
    rfl
  · obtain ⟨F, q, cells, n, v, ks, rfl, W0, hp, hn, hv, l0, l1, hks, k⟩ := h
    refine ⟨_, (pss_cons (ps_par3 (i := 2) (j := 3) (l := 4) rfl sc.nd rfl rfl rfl (by decide) (by decide) (by decide) rfl rfl rfl (pa_cons (pe_fn0 F__law_pick hr (pa_cons (pv 0) (pa_cons (pv 1) pa_nil))) (pa_cons (pe_fn0 F__law_pick hr (pa_cons (pv 0) (pa_cons (pe_lst (pa_cons pe_int (pa_cons (pe_un un_neg pe_int) (pa_cons pe_int (pa_cons (pe_un un_neg pe_int) (pa_cons pe_int (pa_cons (pe_un un_neg pe_int) pa_nil))))))) pa_nil))) (pa_cons (pe_op op_add pe_int (pe_fn0 F__law_draw hr (pa_cons (pv 0) (pa_cons pe_int pa_nil)))) pa_nil))) rfl)
      (pss_cons (ps_if (pt_cmpR op_eq (pv 2) pe_str (nomark _)) (pss_cons (ps_set (i := 3) sc.nd rfl (Or.inl rfl) (pe_fn0 F__law_pick hr (pa_cons (pv 0) (pa_cons (pe_lst (pa_cons pe_int (pa_cons (pe_un un_neg pe_int) (pa_cons pe_int (pa_cons (pe_un un_neg pe_int) pa_nil))))) pa_nil))))
      (pss_one (ps_ret (pe_tup (pa_cons pe_str (pa_cons (pv 3) (pa_cons (pe_tup (pa_cons (pe_fn0 F__law_draw hr (pa_cons (pv 0) (pa_cons (pe_callB call_abs (by rfl) T.z_abs (by decide +kernel) (pa_cons (pv 3) pa_nil)) pa_nil))) (pa_cons (pe_callB call_abs (by rfl) T.z_abs (by decide +kernel) (pa_cons (pv 3) pa_nil)) pa_nil))) pa_nil))))))) pss_nil)
      (pss_cons (ps_if (pt_cmpR op_eq (pv 2) pe_str (nomark _)) (pss_one (ps_ret (pe_tup (pa_cons pe_str (pa_cons (pv 3) (pa_cons (pe_tup (pa_cons (pe_fn0 F__law_draw hr (pa_cons (pv 0) (pa_cons (pv 4) pa_nil))) (pa_cons (pv 4) pa_nil))) pa_nil)))))) pss_nil)
      (pss_cons (ps_if (pt_cmpR (op_in_seqK (K := K)) (pv 2) (pe_tup (pa_cons pe_str (pa_cons pe_str (pa_cons pe_str pa_nil)))) (by with_unfolding_all rfl)) (pss_one (ps_ret (pe_tup (pa_cons (pv 2) (pa_cons (pv 3) (pa_cons pe_non pa_nil)))))) pss_nil)
      (pss_cons (ps_if (pt_cmpR op_eq (pv 2) pe_str (nomark _)) (pss_one (ps_ret (pe_tup (pa_cons (pv 2) (pa_cons pe_non (pa_cons (pe_tup (pa_cons (pe_fn0 F__law_draw hr (pa_cons (pv 0) (pa_cons (pv 4) pa_nil))) (pa_cons (pv 4) pa_nil))) pa_nil)))))) pss_nil)
      (pss_one (ps_ret (pe_tup (pa_cons (pv 2) (pa_cons pe_non (pa_cons pe_non pa_nil))))))))))), ?_⟩
    refine ⟨_, rfl, _, rfl, F, q, cells, n, v, _, rfl, W0, hp, by omega, pk_strs ks hv l0 (by omega), fun F1 H1 r1 d1 n1 e1 hp1 hn1 hR1 hr1 => ?_⟩
    obtain ⟨kd, hkd, rfl⟩ := hR1
    obtain rfl := hr1.strV
    refine ⟨_, rfl, ?_⟩
    refine ⟨_, rfl, _, rfl, _, rfl, szN (n := 6) (by decide), fun l hl => ?_⟩
    obtain ⟨e2, h2⟩ := new_lst (S := S0) e1.wd hl (DTs.ofInts (F := F1) six)
    refine ⟨_, q, cells, n1, .ref l, _, rfl, e2.wd, hp1.ev e2 (fun z => z), by omega, pk_ints six h2 (by decide) (by decide), fun F3 H3 r3 d3 n3 e3 hp3 hn3 hR3 hr3 => ?_⟩
    obtain ⟨b, hb, rfl⟩ := hR3
    obtain rfl := hr3.intV
    refine ⟨_, rfl, F3, q, cells, n3, 3, rfl, e3.wd, hp3, by omega, by decide, by decide, fun F4 H4 r4 n4 e4 hp4 hn4 r0 r1 => ?_⟩
    refine ⟨_, _, rfl, rfl, _, _, _, rfl, ?_⟩
    have e14 : Ev Tb (· = q) F H F4 H4 := ((e1.then (e2.to0)).then e3).then e4
    have fin : ∀ F5 H5 r (s : Stp) n', Ev Tb (· = q) F4 H4 F5 H5 → PenAt F5 H5 q cells n' → n' ≤ n + 5 → s ∈ allStps → (dealK s = true → s.kind ∈ ks) → DT F5 r (stpD s) → Q r H5 := fun F5 H5 r s n' e5 hp5 hn5 hs hd hr => k F5 H5 r s n' (e14.then e5) hp5 hn5 hs hd hr
    have hkl := hks kd hkd
    have W4 := e4.wd
    clear k hks hv e1 e2 e3 e4 e14 hp hp1 hp3 h2 hr1 hr3
    have w24 := in24 r0 r1
    refine ⟨_, rfl, rfl, _, rfl, ?_⟩
    rw [dec_str]
    refine it2 (fun c1 => ?_) (fun c1 => ?_)
    · refine ⟨_, rfl, _, rfl, _, rfl, szN (n := 4) (by decide), fun l hl => ?_⟩
      obtain ⟨e5, h5⟩ := new_lst (S := S0) W4 hl (DTs.ofInts (F := F4) four)
      refine ⟨_, q, cells, n4, .ref l, _, rfl, e5.wd, hp4.ev e5 (fun z => z), by omega, pk_ints four h5 (by decide) (by decide), fun F6 H6 r6 d6 n6 e6 hp6 hn6 hR6 hr6 => ?_⟩
      obtain ⟨b', hb', rfl⟩ := hR6
      obtain rfl := hr6.intV
      obtain ⟨a2, a3⟩ := absF b' hb'
      refine ⟨_, rfl, _, rfl, _, rfl, b', rfl, F6, q, cells, n6, _, rfl, e6.wd, hp6, by omega, by omega, by omega, fun F7 H7 r7 n7 e7 hp7 hn7 r0' r1' => ?_⟩
      refine ⟨_, rfl, b', rfl, sz2, fun t ht => ⟨sz3, fun u hu => ?_⟩⟩
      obtain ⟨e8, h8⟩ := new_tup (S := S0) e7.wd ht (.cons (.int r7) (.cons (.int _) .nil))
      obtain ⟨e9, h9⟩ := new_tup (S := S0) e8.wd hu (.cons (.str "sum") (.cons (.int b') (.cons h8 .nil)))
      exact fin _ _ _ ⟨"sum", some b', some (r7, if b' < 0 then -b' else b')⟩ n7 (((((e5.to0).then e6).then e7).trans0 e8).trans0 e9) ((hp7.ev e8 (fun z => z)).ev e9 (fun z => z)) (by omega) (m_sum b' hb' r7 (in03 r0' (by omega)) r1') (fun h => by rw [dealK_k, dk_sum] at h; cases h) h9
    have c1 := of_decide_eq_false c1
    refine ⟨_, rfl, rfl, _, rfl, ?_⟩
    rw [dec_str]
    refine it2 (fun c2 => ?_) (fun c2 => ?_)
    · refine ⟨_, rfl, _, rfl, _, rfl, F4, q, cells, n4, _, rfl, W4, hp4, by omega, by omega, by omega, fun F7 H7 r7 n7 e7 hp7 hn7 r0' r1' => ?_⟩
      refine ⟨_, rfl, sz2, fun t ht => ⟨sz3, fun u hu => ?_⟩⟩
      obtain ⟨e8, h8⟩ := new_tup (S := S0) e7.wd ht (.cons (.int r7) (.cons (.int _) .nil))
      obtain ⟨e9, h9⟩ := new_tup (S := S0) e8.wd hu (.cons (.str "near") (.cons (.int b) (.cons h8 .nil)))
      exact fin _ _ _ ⟨"near", some b, some (r7, 2 + r4)⟩ n7 ((e7.trans0 e8).trans0 e9) ((hp7.ev e8 (fun z => z)).ev e9 (fun z => z)) (by omega) (m_near b hb _ w24 r7 (in03 r0' (by omega)) r1') (fun h => by rw [dealK_k, dk_near] at h; cases h) h9
    have c2 := of_decide_eq_false c2
    refine ⟨_, rfl, sz3, fun t ht => ?_⟩
    refine ⟨t, _, rfl, .inr (SqT.of upd_same), rfl, rfl, _, rfl, ?_⟩
    show if (L2.inV (.str kd) [V.str "roll", V.str "near", V.str "sum"]) = true then _ else _
    rw [inV_shift]
    refine it2 (fun c3 => ?_) (fun c3 => ?_)
    · obtain ⟨e5, h5⟩ := new_tup (S := S0) W4 ht (DTs.ofStrs (F := F4) shiftK)
      refine ⟨_, rfl, _, rfl, sz3, fun u hu => ?_⟩
      obtain ⟨e9, h9⟩ := new_tup (S := S0) e5.wd hu (.cons (.str kd) (.cons (.int b) (.cons .non .nil)))
      exact fin _ _ _ ⟨kd, some b, none⟩ n4 ((e5.to0).trans0 e9) ((hp4.ev e5 (fun z => z)).ev e9 (fun z => z)) (by omega) (m_two kd (of_decide_eq_true c3) b hb) (fun h => hkd) h9
    have c3 := of_decide_eq_false c3
    refine ⟨_, rfl, rfl, _, rfl, ?_⟩
    rw [dec_str]
    refine it2 (fun c4 => ?_) (fun c4 => ?_)
    · obtain ⟨e5, h5⟩ := new_tup (S := S0) W4 ht (DTs.ofStrs (F := F4) shiftK)
      refine ⟨_, rfl, _, rfl, _, rfl, _, q, cells, n4, _, rfl, e5.wd, hp4.ev e5 (fun z => z), by omega, by omega, by omega, fun F7 H7 r7 n7 e7 hp7 hn7 r0' r1' => ?_⟩
      refine ⟨_, rfl, sz2, fun t2 ht2 => ⟨sz3, fun u hu => ?_⟩⟩
      obtain ⟨e8, h8⟩ := new_tup (S := S0) e7.wd ht2 (.cons (.int r7) (.cons (.int _) .nil))
      obtain ⟨e9, h9⟩ := new_tup (S := S0) e8.wd hu (.cons (.str kd) (.cons .non (.cons h8 .nil)))
      exact fin _ _ _ ⟨kd, none, some (r7, 2 + r4)⟩ n7 ((((e5.to0).then e7).trans0 e8).trans0 e9) ((hp7.ev e8 (fun z => z)).ev e9 (fun z => z)) (by omega) (by rw [of_decide_eq_true c4]; exact m_flip _ w24 r7 (in03 r0' (by omega)) r1') (fun h => hkd) h9
    have c4 := of_decide_eq_false c4
    obtain ⟨e5, h5⟩ := new_tup (S := S0) W4 ht (DTs.ofStrs (F := F4) shiftK)
    refine ⟨_, rfl, sz3, fun u hu => ?_⟩
    obtain ⟨e9, h9⟩ := new_tup (S := S0) e5.wd hu (.cons (.str kd) (.cons .non (.cons .non .nil)))
    exact fin _ _ _ ⟨kd, none, none⟩ n4 ((e5.to0).trans0 e9) ((hp4.ev e5 (fun z => z)).ev e9 (fun z => z)) (by omega) (m_plain kd hkl c1 c2 c3 c4) (fun h => hkd) h9
end
end K64
/-! ## KD8 -/
set_option Elab.async false
set_option linter.all false
set_option maxRecDepth 100000
set_option maxHeartbeats 2000000
namespace K64
open PySem PySem.Spec PyProof.Rows L2 LamX
def noDeal : List Str := kindL.filter fun k => !(decide (k = ("deal" : Str)) || decide (k = ("undeal" : Str)))
theorem fm_nodeal : ∀ l : List Str, l.filterMap (fun k => if (decide (k = ("deal" : Str)) || decide (k = ("undeal" : Str))) = true then none else some (PyData.str k)) = (l.filter fun k => !(decide (k = ("deal" : Str)) || decide (k = ("undeal" : Str)))).map .str
  | [] => rfl
  | k :: l => by
    have ih := fm_nodeal l
    by_cases h : (decide (k = ("deal" : Str)) || decide (k = ("undeal" : Str))) = true
    · rw [List.filterMap_cons, List.filter_cons, if_pos h, if_neg (by rw [h]; exact Bool.false_ne_true), ih]
    · rw [List.filterMap_cons, List.filter_cons, if_neg h, if_pos (by rw [Bool.eq_false_iff.mpr h]; rfl), List.map_cons, ih]
theorem fm_ones : ∀ p : List Stp, (p.filterMap fun s => if dealK s = true then some (PyData.int 1) else none).length = deals p
  | [] => rfl
  | s :: p => by
    have ih := fm_ones p
    unfold deals at ih ⊢
    by_cases h : dealK s = true
    · rw [List.filterMap_cons, List.filter_cons, if_pos h, if_pos h, List.length_cons, List.length_cons, ih]
    · rw [List.filterMap_cons, List.filter_cons, if_neg h, if_neg h, ih]
theorem sh_kind : SeqAt.shaped (.list (kindL.map PyData.str)) = true := by decide +kernel
theorem sh_noDeal : SeqAt.shaped (.list (noDeal.map PyData.str)) = true := by decide +kernel
theorem noDeal_no : ∀ k ∈ noDeal, dealK ⟨k, none, none⟩ = false := by decide +kernel
theorem noDeal_sub : ∀ k ∈ noDeal, k ∈ kindL := fun k hk => (List.mem_filter.mp hk).1
theorem noDeal_len : noDeal.length = 12 := by decide +kernel
theorem deals_snoc (p : List Stp) (s : Stp) : deals (p ++ [s]) = deals p + (if dealK s = true then 1 else 0) := by
  unfold deals
  rw [List.filter_append, List.length_append]
  by_cases h : dealK s = true
  · rw [if_pos h, List.filter_cons, if_pos h]
    rfl
  · rw [if_neg h, List.filter_cons, if_neg h]
    rfl
theorem prD_snoc (p : List Stp) (s : Stp) : (p ++ [s]).map stpD = p.map stpD ++ [stpD s] := by rw [List.map_append]; rfl
section
variable {P : Program} {w : World} {K : PySem.W.Frag} {mg : Str → Option Value} {base : Heap} {A : Ad} {Tb : List (Addr × Str)}
abbrev s__law_steps : Stmt := top 65
abbrev N__law_steps : List Str := [("_law_pen_here" : Str), ("_law_many" : Str), ("_law_kinds_here" : Str), ("_law_found" : Str), ("_law_k" : Str), ("_law_some" : Str), ("_law_kind" : Str), ("_law_row" : Str)]
abbrev P__law_steps : List Str := [("_law_pen_here" : Str), ("_law_many" : Str), ("_law_kinds_here" : Str)]
theorem sc__law_steps : FnScope N__law_steps P__law_steps (defScope s__law_steps) := ⟨rfl, rfl, rfl, by decide +kernel, rfl, by decide +kernel, by decide +kernel⟩
theorem bd__law_steps {K : PySem.W.Frag} {f : Addr} {fd : FuncData} (F : L2.Fun K "_law_steps" "_law_steps" s__law_steps f fd) : Binds K fd P__law_steps [] := F.binds fun _ _ _ _ _ _ us hl => match us, hl with | [_, _, _], _ => rfl

def spSteps (Tb : List (Addr × Str)) : Sp := fun vs H Q _ => ∃ (F : Hp) (q : Addr) (cells : List Int) (n : Nat) (v : V) (m : Int), vs = [.ref q, .int m, v] ∧ Wd Tb F H ∧ PenAt F H q cells n ∧ n ≤ 800000 ∧ 0 ≤ m ∧ m ≤ 5 ∧ DT F v (.list (kindL.map .str)) ∧
  ∀ F' H' r (p : List Stp) n', Ev Tb (· = q) F H F' H' → PenAt F' H' q cells n' → n' ≤ n + 25 → OkP p → DT F' r (prD p) → Q r H'
def StepsPv (Tb : List (Addr × Str)) (F H : Hp) (q : Addr) (cells : List Int) (n : Nat) (m : Int) (v : V) (l : Addr) (j : Nat) : L2.St → Hp → Prop := fun σ H' => ∃ (F' : Hp) (acc : List V) (p : List Stp) (n' : Nat) (c1 c2 : Option V), σ = [some (.ref q), some (.int m), some v, some (.ref l), c1, c2, none, none] ∧ Ev Tb (· = q) F H F' H' ∧ PenAt F' H' q cells n' ∧ n' ≤ n + 5 * j ∧ H' l = some (.lst acc) ∧ F' l = none ∧ DTs F' acc (p.map stpD) ∧ okStps p ∧ p.length ≤ j ∧ deals p ≤ 2
theorem ok_steps {f : Addr} {fd : FuncData} (F : L2.Fun K "_law_steps" "_law_steps" s__law_steps f fd) (T : Txt P K mg A) (F__law_step : FnG P w K mg base CX0 3 "_law_step" P__law_step (spStep Tb)) : FnOk P w K mg base CX0 4 f fd P__law_steps (spSteps Tb) := by
  have sc := sc__law_steps
  refine F.ok sc (fun vs H Q E h => ?_) (fun cdv AA outer s H vs Q E hr h => ?_)
  · obtain ⟨F, q, cells, n, v, m, rfl, _⟩ := h
    rfl
  · obtain ⟨F, q, cells, n, v, m, rfl, W0, hp, hn, m0, m5, hv, k⟩ := h
    refine ⟨_, (pss_cons (ps_set (i := 3) sc.nd rfl (Or.inl rfl) (pe_lst pa_nil))
      (pss_cons (ps_for PassesOwn.never rfl (pi_range1 (by rfl) T.z_range (pa_cons (pv 1) pa_nil)) (pg_name (i := 4) sc.nd rfl (Or.inl rfl))
      (pss_cons (ps_set (i := 5) sc.nd rfl (Or.inl rfl) (pv 2))
      (pss_cons (ps_if (pt_cmpR op_eq (pe_callB (call_len_seqK (K := K)) (by rfl) T.z_len PySem.boot_len (pa_cons (pe_lc (own := [("_law_row", 7)]) rfl sc.nd (pi_listK (K := K) (pv 3)) (blkOk_by (own := [("_law_row", 7)]) (N := N__law_steps) (sc := defScope s__law_steps) (by decide +kernel)) (fun _ _ _ _ _ => by exact (pg_name (i := 7) sc.nd rfl (Or.inl rfl))) (fun _ _ _ _ _ => by exact (pts_one (pt_cmpR (op_in_seqK (K := K)) (pe_ix (ix_tupK (K := K)) (pv 7) pe_int (fun _ _ => rfl)) (pe_tup (pa_cons pe_str (pa_cons pe_str pa_nil))) (by with_unfolding_all rfl)))) (fun _ _ _ _ _ => by exact pe_int)) pa_nil)) pe_int (nomark _)) (pss_one (ps_setLc (i := 5) (own := [("_law_kind", 6)]) rfl sc.nd rfl rfl (sw_true rfl rfl rfl (by decide +kernel)) (pi_listK (K := K) (pv 2)) (blkOk_by (own := [("_law_kind", 6)]) (N := N__law_steps) (sc := defScope s__law_steps) (by decide +kernel)) (fun _ _ _ _ _ => by exact (pg_name (i := 6) sc.nd rfl (Or.inl rfl))) (fun _ _ _ _ _ => by exact (pts_one (pt_cmpR (op_notIn_seqK (K := K)) (pv 6) (pe_tup (pa_cons pe_str (pa_cons pe_str pa_nil))) (by with_unfolding_all rfl)))) (fun _ _ _ _ _ => by exact (pv 6)))) pss_nil)
      (pss_one (ps_if (pt_cmpR (op_neDK (K := K) hr.units) (pv 5) (pe_lst pa_nil) (nomark _)) (pss_one (ps_expr (pe_bmK (K := K) PySem.F.plainAttrs_list PySem.F.slot_list_append PySem.F.type_list_append mt_append (pv 3) (pa_cons (pe_fn0 F__law_step hr (pa_cons (pv 0) (pa_cons (pv 5) pa_nil))) pa_nil)))) pss_nil)))))
      (pss_one (ps_ret (pv 3))))), ?_⟩
    refine ⟨sz0, fun l hl => ?_⟩
    have hq1 : q ≠ l := by
      obtain ⟨_, _, h1, _⟩ := hp
      exact ne_of_none h1 hl
    have e1 : Ev Tb (· = q) F H F (upd H l (.lst [])) := Ev.new W0 hl
    have e1' : Ev Tb S0 F H F (upd H l (.lst [])) := Ev.new W0 hl
    refine ⟨_, rfl, m, rfl, by omega, by omega, ?_⟩
    refine for_range (lo := 0) (n := m.toNat) (StepsPv Tb F H q cells n m v l)
      ⟨F, [], [], n, none, none, rfl, e1, hp.ev e1' (fun z => z), by omega, upd_same, W0.none hl, .nil, fun s hs => absurd hs (by simp), by simp, by simp [deals]⟩ ?_ ?_
    · rintro j σ H' hj ⟨F', acc, p, n', c1, c2, rfl, e2, hp2, hn2, hacc, facc, hds, hok, hlen, hdl⟩
      have la : acc.length = p.length := by rw [hds.length, List.length_map]
      refine ⟨_, rfl, ?_⟩
      dsimp only
      refine tSeq_ (tIfS_ (tTest_ (tOp_ (tCB_ (tCons_ ?_)))))
      refine ⟨_, rfl, l, rfl, ⟨acc, SqL.of hacc⟩, fun D hD => ?_⟩
      refine lc_walk (K := K) (S := S0) stpD p (fun s => if dealK s = true then some (PyData.int 1) else none) (xs := acc) (fun z => z) (Ev.refl e2.wd) hacc hds (by omega) hD (fun x z F3 H3 R R0 hz e3 hx hk hn3 => ?_) fun F3 H3 e3 hr3 => ?_
      · obtain ⟨a3, v1, v2, v3, rfl, ha3, g1, g2, g3⟩ := DT.trip hx
        obtain rfl := g1.strV
        refine ⟨rfl, _, rfl, a3, _, 0, _, rfl, rfl, SqT.of (e3.wd.sub _ _ ha3), rfl, sz2, fun t ht => ?_⟩
        obtain ⟨e5, h5⟩ := new_tup (S := S0) e3.wd ht (.cons (.str "deal") (.cons (.str "undeal") .nil))
        refine ⟨t, _, rfl, .inr (SqT.of upd_same), rfl, rfl, _, rfl, ?_⟩
        show if (L2.inV (.str z.kind) [V.str "deal", V.str "undeal"]) = true then _ else _
        rw [in_deals]
        refine it2 (fun h => ?_) (fun h => ?_)
        · exact hk _ _ _ _ (by unfold dealK; rw [if_pos h]) e5 (.int 1)
        · exact hn3 _ _ (by unfold dealK; rw [if_neg (by rw [h]; exact Bool.false_ne_true)]) e5
      obtain ⟨D', xs2, q2, hD', hxs2⟩ := hr3.lstV
      cases q2
      have ld : xs2.length = deals p := by rw [hxs2.length, fm_ones]
      refine ⟨D, xs2, rfl, .inl (SqL.of (e3.wd.sub _ _ hD')), rfl, _, rfl, ?_⟩
      rw [dec_int, ld]
      -- what is appended
      have fin : ∀ (D : Ends) F4 H4 (ss : List Str) r4, (∀ σ H', StepsPv Tb F H q cells n m v l (j + 1) σ H' → D.nx σ H') → Ev Tb S0 F' H' F4 H4 → DT F4 r4 (.list (ss.map .str)) → 0 < ss.length → ss.length ≤ 20 → (∀ k ∈ ss, k ∈ kindL) → SeqAt.shaped (.list (ss.map PyData.str)) = true → (deals p = 2 → ∀ k ∈ ss, dealK ⟨k, none, none⟩ = false) →
          tIfS (tTest (tOp (rNeD K) (tVar 5) (tLst tNil))) (tDrop (tBM K "list" rAppend (tVar 3) (tCons (tCallS (spStep Tb) (fun _ => E0) (tCons (tVar 0) (tCons (tVar 5) tNil))) tNil))) tNext D [some (.ref q), some (.int m), some v, some (.ref l), some (.int (0 + (j : Int))), some r4, none, none] H4 := by
        intro D F4 H4 ss r4 hD e4 h4 s0 s1 s2 s3 s4
        refine ⟨_, rfl, sz0, fun z hz => ?_⟩
        have e5 : Ev Tb S0 F4 H4 F4 (upd H4 z (.lst [])) := Ev.new e4.wd hz
        have hacc4 := e4.kp hacc
        have facc4 := e4.nf hacc facc
        refine ⟨_, .list [], DT.dp e5.wd.sub _ _ h4, .lst (SqL.of upd_same) .nil, s3, shaped_nil, _, rfl, ?_⟩
        rw [eqv_nil]
        have hne : (ss.map PyData.str).isEmpty = false := by
          cases ss with
          | nil => cases s0
          | cons a b => rfl
        rw [hne]
        refine itT rfl ?_
        refine ⟨_, rfl, .inl ⟨rfl, _, SqL.of (e5.kp hacc4)⟩, _, rfl, _, rfl, F4, q, cells, n', r4, ss, rfl, e5.wd, (hp2.ev e4 (fun z => z)).ev e5 (fun z => z), by omega, h4, s0, s1, s2, fun F6 H6 r6 s n6 e6 hp6 hn6 hs hd hr6 => ?_⟩
        have hql : l ≠ q := fun e => hq1 e.symm
        have hacc6 := e6.kp (e5.kp hacc4) hql
        have facc6 := e6.nf (e5.kp hacc4) facc4
        refine ⟨l, acc, r6, rfl, rfl, hacc6, szL (by omega), hD _ _ ⟨F6, acc ++ [r6], p ++ [s], n6, _, _, rfl, ?_, ?_, by omega, upd_same, facc6, ?_, ?_, ?_, ?_⟩⟩
        · have e7 : Ev Tb (· = l) F6 H6 F6 (upd H6 l (.lst (acc ++ [r6]))) := Ev.set e6.wd hacc6 facc6 (fun _ z => by cases z) (fun _ z => by cases z) rfl
          exact (((e2.trans0 e4).trans0 e5).then e6).trans e7 (fun _ z => z) fun b hb => .inr (by rw [hb]; exact hl)
        · have e7 : Ev Tb (· = l) F6 H6 F6 (upd H6 l (.lst (acc ++ [r6]))) := Ev.set e6.wd hacc6 facc6 (fun _ z => by cases z) (fun _ z => by cases z) rfl
          exact hp6.ev e7 hq1
        · rw [prD_snoc]
          exact (e6.dts (e4.dts hds)).snoc hr6
        · intro x hx
          rcases List.mem_append.mp hx with hx | hx
          · exact hok x hx
          · rw [List.mem_singleton.mp hx]
            exact hs
        · rw [List.length_append, List.length_singleton]
          omega
        · rw [deals_snoc]
          by_cases h2 : deals p = 2
          · have nd : dealK s = false := by
              cases q9 : dealK s with
              | false => rfl
              | true =>
                have := s4 h2 _ (hd q9)
                rw [← dealK_k s.kind s.by_ s.rest] at this
                rw [← q9]
                exact this
            rw [nd, if_neg Bool.false_ne_true]
            omega
          · split <;> omega
      refine it2 (fun h => ?_) (fun h => ?_)
      · have hd2 : deals p = 2 := by have := of_decide_eq_true h; omega
        refine tAsg_ ?_
        refine lcD PyData.str kindL (fun k => if (decide (k = ("deal" : Str)) || decide (k = ("undeal" : Str))) = true then none else some (PyData.str k)) e3.wd rfl ((e2.trans0 e3).dt hv) (by decide) (fun x z F4 H4 R R0 hz e4 hx hk hn4 => ?_) fun D2 F4 H4 e4 hr4 => ?_
        · obtain rfl := hx.strV
          refine ⟨rfl, _, rfl, sz2, fun t ht => ?_⟩
          obtain ⟨e5, h5⟩ := new_tup (S := S0) e4.wd ht (.cons (.str "deal") (.cons (.str "undeal") .nil))
          refine ⟨t, _, rfl, .inr (SqT.of upd_same), rfl, rfl, _, rfl, ?_⟩
          show if (!L2.inV (.str z) [V.str "deal", V.str "undeal"]) = true then _ else _
          rw [in_deals]
          by_cases hz2 : (decide (z = ("deal" : Str)) || decide (z = ("undeal" : Str))) = true
          · rw [hz2]
            exact itF rfl (hn4 _ _ (by rw [if_pos hz2]) e5)
          · rw [Bool.eq_false_iff.mpr hz2]
            exact itT rfl ⟨_, rfl, hk _ _ _ _ (by rw [if_neg hz2]) e5 (.str _)⟩
        · rw [fm_nodeal] at hr4
          exact fin _ F4 H4 noDeal _ (fun σ H' h => h) (e3.trans0 e4) hr4 (by rw [noDeal_len]; decide) (by rw [noDeal_len]; decide) noDeal_sub sh_noDeal (fun _ => noDeal_no)
      · have hd2 : deals p ≠ 2 := by have := of_decide_eq_false h; omega
        exact fin _ F3 H3 kindL v (fun σ H' h => h) e3 ((e2.trans0 e3).dt hv) (by decide) (by decide) (fun k hk => hk) sh_kind (fun h => absurd h hd2)
    · rintro σ H' ⟨F', acc, p, n', c1, c2, rfl, e2, hp2, hn2, hacc, facc, hds, hok, hlen, hdl⟩
      refine ⟨_, rfl, ?_⟩
      have e3 := e2.freeze hl hacc facc
      have m : Same F' (upd F' l (.lst acc)) := fun b u e => by
        rw [upd_ne (ne_of_none e facc)]
        exact e
      refine k _ _ _ p n' e3 ?_ (by omega) ⟨hok, by omega, hdl⟩ (.lst upd_same (DTs.mono m _ _ hds))
      obtain ⟨c, l', h1, h2, h3⟩ := hp2
      exact ⟨c, l', h1, by rw [upd_ne hq1]; exact h2, m _ _ h3⟩
end
end K64
/-! ## KD9 -/
set_option Elab.async false
set_option linter.all false
set_option maxRecDepth 100000
set_option maxHeartbeats 2000000
namespace K64
open PySem PySem.Spec PyProof.Rows L2 LamX
theorem dt_nth {F : Hp} {xs : List V} {ks : List Str} (h : DTs F xs (ks.map .str)) {j : Nat} (hj : j < ks.length) : ∃ x, ks[j]? = some x ∧ x ∈ ks ∧ xs[j]? = some (.str x) := by
  have e := h.strs
  refine ⟨ks[j], List.getElem?_eq_getElem hj, List.getElem_mem hj, ?_⟩
  rw [e, List.getElem?_map, List.getElem?_eq_getElem hj]
  rfl
def ways : List Str := ["put", "put", "put", "drop", "turn", "chain", "chain"]
section
variable {P : Program} {w : World} {K : PySem.W.Frag} {mg : Str → Option Value} {base : Heap} {A : Ad} {Tb : List (Addr × Str)}
abbrev s__law_deed : Stmt := top 57
abbrev N__law_deed : List Str := [("_law_pen_here" : Str), ("_law_pool_here" : Str), ("_law_kind" : Str), ("_law_name" : Str), ("_law_turn" : Str)]
abbrev P__law_deed : List Str := [("_law_pen_here" : Str), ("_law_pool_here" : Str)]
theorem sc__law_deed : FnScope N__law_deed P__law_deed (defScope s__law_deed) := ⟨rfl, rfl, rfl, by decide +kernel, rfl, by decide +kernel, by decide +kernel⟩
theorem bd__law_deed {K : PySem.W.Frag} {f : Addr} {fd : FuncData} (F : L2.Fun K "_law_deed" "_law_deed" s__law_deed f fd) : Binds K fd P__law_deed [] := F.binds fun _ _ _ _ _ _ us hl => match us, hl with | [_, _], _ => rfl

def spDeed (Tb : List (Addr × Str)) : Sp := fun vs H Q _ => ∃ (F : Hp) (q : Addr) (cells : List Int) (n : Nat) (v : V) (ks : List Str), vs = [.ref q, v] ∧ Wd Tb F H ∧ PenAt F H q cells n ∧ n ≤ 700000 ∧ DT F v (.list (ks.map .str)) ∧ ks.length = 5 ∧ (∀ x ∈ ks, NmOk x) ∧
  ∀ F' H' r (d : Deed) n', Ev Tb (· = q) F H F' H' → PenAt F' H' q cells n' → n' ≤ n + 30 → DeedOk d → DT F' r (deedD d) → Q r H'
theorem ok_deed {f : Addr} {fd : FuncData} (F : L2.Fun K "_law_deed" "_law_deed" s__law_deed f fd) (T : Txt P K mg A) (F__law_draw : FnG P w K mg base CX0 1 "_law_draw" P__law_draw (spDraw Tb)) (F__law_pick : FnG P w K mg base CX0 2 "_law_pick" P__law_pick (spPick Tb)) (F__law_kinds : FnG P w K mg base CX0 1 "_law_kinds" P__law_kinds (spKinds Tb)) (F__law_steps : FnG P w K mg base CX0 4 "_law_steps" P__law_steps (spSteps Tb)) :
    FnOk P w K mg base CX0 5 f fd P__law_deed (spDeed Tb) := by
  have sc := sc__law_deed
  refine F.ok sc (fun vs H Q E h => ?_) (fun cdv AA outer s H vs Q E hr h => ?_)
  · obtain ⟨F, q, cells, n, v, ks, rfl, _⟩ := h
    rfl
  · obtain ⟨F, q, cells, n, v, ks, rfl, W0, hp, hn, hv, l5, hks, k⟩ := h
    refine ⟨_, (pss_cons (ps_par (i := 2) (j := 3) rfl sc.nd rfl rfl (by decide) rfl rfl (pa_cons (pe_fn0 F__law_pick hr (pa_cons (pv 0) (pa_cons (pe_lst (pa_cons pe_str (pa_cons pe_str (pa_cons pe_str (pa_cons pe_str (pa_cons pe_str (pa_cons pe_str (pa_cons pe_str pa_nil)))))))) pa_nil))) (pa_cons (pe_fn0 F__law_pick hr (pa_cons (pv 0) (pa_cons (pv 1) pa_nil))) pa_nil)) rfl)
      (pss_cons (ps_if (pt_cmpR op_eq (pv 2) pe_str (nomark _)) (pss_one (ps_ret (pe_tup (pa_cons pe_str (pa_cons (pv 3) (pa_cons (pe_fn0 F__law_steps hr (pa_cons (pv 0) (pa_cons (pe_fn0 F__law_draw hr (pa_cons (pv 0) (pa_cons pe_int pa_nil))) (pa_cons (pe_fn00 F__law_kinds hr) pa_nil)))) pa_nil)))))) pss_nil)
      (pss_cons (ps_if (pt_cmpR op_eq (pv 2) pe_str (nomark _)) (pss_one (ps_ret (pe_tup (pa_cons pe_str (pa_cons (pv 3) (pa_cons (pe_lc (own := [("_law_turn", 4)]) rfl sc.nd (pi_range1 (by rfl) T.z_range (pa_cons (pe_fn0 F__law_draw hr (pa_cons (pv 0) (pa_cons pe_int pa_nil))) pa_nil)) (blkOk_by (own := [("_law_turn", 4)]) (N := N__law_deed) (sc := defScope s__law_deed) (by decide +kernel)) (fun _ _ _ _ _ => by exact (pg_name (i := 4) sc.nd rfl (Or.inl rfl))) (fun _ _ _ _ _ => by exact pts_nil) (fun _ _ _ _ _ => by exact (pe_ix (ix_listK (K := K)) (pv 1) (pe_fn0 F__law_draw hr (pa_cons (pv 0) (pa_cons pe_int pa_nil))) (fun _ _ => rfl)))) pa_nil)))))) pss_nil)
      (pss_one (ps_ret (pe_tup (pa_cons (pv 2) (pa_cons (pv 3) pa_nil)))))))), ?_⟩
    refine ⟨_, rfl, szN (n := 7) (by decide), fun l hl => ?_⟩
    obtain ⟨e1, h1⟩ := new_lst (S := S0) W0 hl (DTs.ofStrs (F := F) ways)
    refine ⟨_, q, cells, n, .ref l, _, rfl, e1.wd, hp.ev e1 (fun z => z), by omega, pk_strs ways h1 (by decide) (by decide), fun F2 H2 r2 d2 n2 e2 hp2 hn2 hR2 hr2 => ?_⟩
    obtain ⟨kd, hkd, rfl⟩ := hR2
    obtain rfl := hr2.strV
    have e02 : Ev Tb (· = q) F H F2 H2 := (e1.to0).then e2
    refine ⟨_, rfl, _, rfl, F2, q, cells, n2, v, _, rfl, e2.wd, hp2, by omega, pk_strs ks (e02.dt hv) (by omega) (by omega), fun F3 H3 r3 d3 n3 e3 hp3 hn3 hR3 hr3 => ?_⟩
    obtain ⟨nm, hnm, rfl⟩ := hR3
    obtain rfl := hr3.strV
    have e03 := e02.then e3
    refine ⟨_, _, rfl, ?_⟩
    have fin : ∀ F5 H5 r (d : Deed) n', Ev Tb (· = q) F3 H3 F5 H5 → PenAt F5 H5 q cells n' → n' ≤ n + 30 → DeedOk d → DT F5 r (deedD d) → Q r H5 := fun F5 H5 r d n' e5 hp5 hn5 hd hr => k F5 H5 r d n' (e03.then e5) hp5 hn5 hd hr
    have hv3 := e03.dt hv
    have W3 := e3.wd
    have okn := hks nm hnm
    clear k hv e1 e2 e3 e02 e03 hp hp2 h1 hr2 hr3
    refine ⟨_, rfl, rfl, _, rfl, ?_⟩
    rw [dec_str]
    refine it2 (fun c1 => ?_) (fun c1 => ?_)
    · obtain rfl := of_decide_eq_true c1
      refine ⟨_, rfl, _, rfl, _, rfl, F3, q, cells, n3, 4, rfl, W3, hp3, by omega, by decide, by decide, fun F4 H4 r4 n4 e4 hp4 hn4 r0 r1 => ?_⟩
      refine ⟨F4, rfl, e4.wd, fun F5 H5 r5 e5 h5 => ?_⟩
      refine ⟨F5, q, cells, n4, r5, r4, rfl, e5.wd, hp4.ev e5 (fun z => z), by omega, by omega, by omega, h5, fun F6 H6 r6 p n6 e6 hp6 hn6 hok hr6 => ⟨sz3, fun t ht => ?_⟩⟩
      obtain ⟨e7, h7⟩ := new_tup (S := S0) e6.wd ht (.cons (.str "put") (.cons (.str nm) (.cons hr6 .nil)))
      exact fin _ _ _ (.put nm p) n6 (((e4.trans0 e5).then e6).trans0 e7) (hp6.ev e7 (fun z => z)) (by omega) ⟨okn, hok⟩ h7
    have c1 := of_decide_eq_false c1
    refine ⟨_, rfl, rfl, _, rfl, ?_⟩
    rw [dec_str]
    refine it2 (fun c2 => ?_) (fun c2 => ?_)
    · obtain rfl := of_decide_eq_true c2
      refine ⟨_, rfl, _, rfl, F3, q, cells, n3, 4, rfl, W3, hp3, by omega, by decide, by decide, fun F4 H4 r4 n4 e4 hp4 hn4 r0 r1 => ?_⟩
      refine ⟨r4, rfl, by omega, by omega, fun D hD => ?_⟩
      have hq1 : q ≠ D := by
        obtain ⟨_, _, h1, _⟩ := hp4
        exact ne_of_none h1 hD
      have fD := e4.wd.none hD
      have eN : Ev Tb S0 F4 H4 F4 (upd H4 D (.lst [])) := Ev.new e4.wd hD
      have eN' : Ev Tb (· = q) F4 H4 F4 (upd H4 D (.lst [])) := Ev.new e4.wd hD
      refine lc_range (lo := 0) (n := r4.toNat) (fun i H' => ∃ (F5 : Hp) (acc : List V) (ns : List Str) (n5 : Nat), Ev Tb (· = q) F4 H4 F5 H' ∧ PenAt F5 H' q cells n5 ∧ n5 ≤ n4 + i ∧ H' D = some (.lst acc) ∧ F5 D = none ∧ DTs F5 acc (ns.map .str) ∧ ns.length = i ∧ ∀ x ∈ ns, NmOk x)
        ⟨F4, [], [], n4, eN', hp4.ev eN (fun z => z), by omega, upd_same, fD, .nil, rfl, fun x hx => absurd hx (by simp)⟩ ?_ ?_
      · rintro i H' hi ⟨F5, acc, ns, n5, e5, hp5, hn5, hacc, facc, hds, hlen, hns⟩
        refine ⟨rfl, ?_⟩
        refine yes_ ⟨_, rfl, _, rfl, F5, q, cells, n5, 3, rfl, e5.wd, hp5, by omega, by decide, by decide, fun F6 H6 r6 n6 e6 hp6 hn6 r60 r61 => ?_⟩
        have hv6 := (e4.then (e5.then e6)).dt hv3
        obtain ⟨a, vs, rfl, ha, hvs⟩ := hv6.lstV
        obtain ⟨x, hx1, hx2, hx3⟩ := dt_nth hvs (j := r6.toNat) (by omega)
        refine ⟨a, vs, r6, _, rfl, rfl, SqL.of (e6.wd.sub _ _ ha), by rw [show r6 = (r6.toNat : Int) by omega]; exact atI_nat hx3, ?_⟩
        have hDq : ¬ D = q := fun e => hq1 e.symm
        have hacc6 := e6.kp hacc hDq
        have facc6 := e6.nf hacc facc
        have e7 : Ev Tb (· = D) F6 H6 F6 (upd H6 D (.lst (acc ++ [V.str x]))) := Ev.set e6.wd hacc6 facc6 (fun _ z => by cases z) (fun _ z => by cases z) rfl
        have la : acc.length = ns.length := by rw [hds.length, List.length_map]
        refine ⟨acc, hacc6, szL (by omega), F6, acc ++ [V.str x], ns ++ [x], n6, ?_, hp6.ev e7 hq1, by omega, upd_same, facc6, ?_, by rw [List.length_append, hlen]; rfl, ?_⟩
        · exact (e5.then e6).trans e7 (fun _ z => z) fun b hb => .inr (by rw [hb]; exact hD)
        · rw [List.map_append]
          exact (e6.dts hds).snoc (.str x)
        · intro y hy
          rcases List.mem_append.mp hy with hy | hy
          · exact hns y hy
          · rw [List.mem_singleton.mp hy]
            exact hks x hx2
      · rintro H' ⟨F5, acc, ns, n5, e5, hp5, hn5, hacc, facc, hds, hlen, hns⟩
        refine ⟨sz3, fun t ht => ?_⟩
        have e6 := e5.freeze hD hacc facc
        have m : Same F5 (upd F5 D (.lst acc)) := fun b u e => by
          rw [upd_ne (ne_of_none e facc)]
          exact e
        have hp6 : PenAt (upd F5 D (.lst acc)) H' q cells n5 := by
          obtain ⟨c, l', h1, h2, h3⟩ := hp5
          exact ⟨c, l', h1, by rw [upd_ne hq1]; exact h2, m _ _ h3⟩
        obtain ⟨e7, h7⟩ := new_tup (S := S0) e6.wd ht (.cons (.str "chain") (.cons (.str nm) (.cons (.lst upd_same (DTs.mono m _ _ hds)) .nil)))
        exact fin _ _ _ (.chain nm ns) n5 ((e4.then e6).trans0 e7) (hp6.ev e7 (fun z => z)) (by omega) ⟨okn, by omega, hns⟩ h7
    have c2 := of_decide_eq_false c2
    unfold tNext
    dsimp only
    refine ⟨_, rfl, _, rfl, sz2, fun t ht => ?_⟩
    obtain ⟨e7, h7⟩ := new_tup (S := S0) W3 ht (.cons (.str kd) (.cons (.str nm) .nil))
    have hk2 : kd = "drop" ∨ kd = "turn" := by
      have : kd ∈ (["put", "put", "put", "drop", "turn", "chain", "chain"] : List Str) := hkd
      simp only [List.mem_cons, List.not_mem_nil, or_false] at this
      rcases this with e | e | e | e | e | e | e
      · exact absurd e c1
      · exact absurd e c1
      · exact absurd e c1
      · exact .inl e
      · exact .inr e
      · exact absurd e c2
      · exact absurd e c2
    rcases hk2 with rfl | rfl
    · exact fin _ _ _ (.drop nm) n3 (e7.to0) (hp3.ev e7 (fun z => z)) (by omega) okn h7
    · exact fin _ _ _ (.turn nm) n3 (e7.to0) (hp3.ev e7 (fun z => z)) (by omega) okn h7
end
end K64
/-! ## KD10 -/
set_option Elab.async false
set_option linter.all false
set_option maxRecDepth 100000
set_option maxHeartbeats 2000000
namespace K64
open PySem PySem.Spec PyProof.Rows L2 LamX
def itB : Nat → Nat
  | 0 => 300
  | d + 1 => 300 + 4 * itB d
def ends : List Str := ["", "", "key", "name"]
theorem ends_ok : ∀ e ∈ ends, e = ("" : Str) ∨ e = ("key" : Str) ∨ e = ("name" : Str) := by decide +kernel
theorem ItemsOk.item {d : Nat} {its : List Item} (h : ItemsOk d its) {it : Item} (hi : it ∈ its) : ItemOk d it := h.2 it hi
theorem io_undo (d : Nat) : ItemOk d .undo := by cases d <;> trivial
theorem io_redo (d : Nat) : ItemOk d .redo := by cases d <;> trivial
theorem io_deed {d : Nat} {x : Deed} (h : DeedOk x) : ItemOk d (.deed x) := by cases d <;> exact h
def spNo : Sp := fun _ _ _ _ => False
section
variable {P : Program} {w : World} {K : PySem.W.Frag} {mg : Str → Option Value} {base : Heap} {A : Ad} {Tb : List (Addr × Str)}
abbrev s__law_items : Stmt := top 70
abbrev N__law_items : List Str := [("_law_pen_here" : Str), ("_law_pool_here" : Str), ("_law_depth" : Str), ("_law_found" : Str), ("_law_turn" : Str), ("_law_way" : Str)]
abbrev P__law_items : List Str := [("_law_pen_here" : Str), ("_law_pool_here" : Str), ("_law_depth" : Str)]
theorem sc__law_items : FnScope N__law_items P__law_items (defScope s__law_items) := ⟨rfl, rfl, rfl, by decide +kernel, rfl, by decide +kernel, by decide +kernel⟩
theorem bd__law_items {K : PySem.W.Frag} {f : Addr} {fd : FuncData} (F : L2.Fun K "_law_items" "_law_items" s__law_items f fd) : Binds K fd P__law_items [] := F.binds fun _ _ _ _ _ _ us hl => match us, hl with | [_, _, _], _ => rfl

def spItems (Tb : List (Addr × Str)) (d : Nat) : Sp := fun vs H Q _ => ∃ (F : Hp) (q : Addr) (cells : List Int) (n : Nat) (v : V) (ks : List Str), vs = [.ref q, v, .int (d : Int)] ∧ Wd Tb F H ∧ PenAt F H q cells n ∧ n + itB d ≤ 600000 ∧ DT F v (.list (ks.map .str)) ∧ ks.length = 5 ∧ (∀ x ∈ ks, NmOk x) ∧
  ∀ F' H' r (its : List Item) n', Ev Tb (· = q) F H F' H' → PenAt F' H' q cells n' → n' ≤ n + itB d → ItemsOk d its → DT F' r (itemsD its) → Q r H'
def spItemsR (Tb : List (Addr × Str)) : Nat → Sp
  | 0 => spNo
  | d + 1 => spItems Tb d
def itU : Nat → Nat
  | 0 => 35
  | d + 1 => 35 + itB d
def ItemsPv (Tb : List (Addr × Str)) (F H : Hp) (q : Addr) (cells : List Int) (n : Nat) (d : Nat) (v : V) (l : Addr) (j : Nat) : L2.St → Hp → Prop := fun σ H' => ∃ (F' : Hp) (acc : List V) (its : List Item) (n' : Nat) (c1 c2 : Option V), σ = [some (.ref q), some v, some (.int (d : Int)), some (.ref l), c1, c2] ∧ Ev Tb (· = q) F H F' H' ∧ PenAt F' H' q cells n' ∧ n' ≤ n + 1 + itU d * j ∧ H' l = some (.lst acc) ∧ F' l = none ∧ DTs F' acc (its.map itemD) ∧ its.length = j ∧ ∀ it ∈ its, ItemOk d it
theorem itU_le (d : Nat) : 1 + itU d * 4 ≤ itB d := by
  cases d with
  | zero => decide
  | succ d =>
    show 1 + (35 + itB d) * 4 ≤ 300 + 4 * itB d
    omega
theorem dec_lt_itB (d : Nat) : itB d ≤ itB (d + 1) := by
  show itB d ≤ 300 + 4 * itB d
  omega
theorem ok_items {d : Nat} {f : Addr} {fd : FuncData} (F : L2.Fun K "_law_items" "_law_items" s__law_items f fd) (T : Txt P K mg A) (F__law_draw : FnG P w K mg base CX0 1 "_law_draw" P__law_draw (spDraw Tb)) (F__law_pick : FnG P w K mg base CX0 2 "_law_pick" P__law_pick (spPick Tb))
    (F__law_deed : FnG P w K mg base CX0 5 "_law_deed" P__law_deed (spDeed Tb)) (F__law_items : FnG P w K mg base CX0 (d + 5) "_law_items" P__law_items (spItemsR Tb d)) :
    FnOk P w K mg base CX0 (d + 6) f fd P__law_items (spItems Tb d) := by
  have sc := sc__law_items
  refine F.ok sc (fun vs H Q E h => ?_) (fun cdv AA outer s H vs Q E hr h => ?_)
  · obtain ⟨F, q, cells, n, v, ks, rfl, _⟩ := h
    rfl
  · obtain ⟨F, q, cells, n, v, ks, rfl, W0, hp, hn, hv, l5, hks, k⟩ := h
    refine ⟨_, (pss_cons (ps_set (i := 3) sc.nd rfl (Or.inl rfl) (pe_lst pa_nil))
      (pss_cons (ps_for PassesOwn.never rfl (pi_range1 (by rfl) T.z_range (pa_cons (pe_fn0 (hk := by omega) F__law_draw hr (pa_cons (pv 0) (pa_cons pe_int pa_nil))) pa_nil)) (pg_name (i := 4) sc.nd rfl (Or.inl rfl))
      (pss_cons (ps_set (i := 5) sc.nd rfl (Or.inl rfl) (pe_fn0 (hk := by omega) F__law_draw hr (pa_cons (pv 0) (pa_cons pe_int pa_nil))))
      (pss_one (ps_if (pt_cmpR op_eq (pv 5) pe_int (nomark _)) (pss_one (ps_expr (pe_bmK (K := K) PySem.F.plainAttrs_list PySem.F.slot_list_append PySem.F.type_list_append mt_append (pv 3) (pa_cons (pe_tup (pa_cons pe_str (pa_cons pe_int pa_nil))) pa_nil)))) (pss_one (ps_if (pt_cmpR op_eq (pv 5) pe_int (nomark _)) (pss_one (ps_expr (pe_bmK (K := K) PySem.F.plainAttrs_list PySem.F.slot_list_append PySem.F.type_list_append mt_append (pv 3) (pa_cons (pe_tup (pa_cons pe_str (pa_cons pe_int pa_nil))) pa_nil)))) (pss_one (ps_if (PW.pt (pw_and (pt_cmpR op_eq (pv 5) pe_int (nomark _)) (pw_and1 (pt_cmpR op_gt (pv 2) pe_int (nomark _))))) (pss_one (ps_expr (pe_bmK (K := K) PySem.F.plainAttrs_list PySem.F.slot_list_append PySem.F.type_list_append mt_append (pv 3) (pa_cons (pe_tup (pa_cons pe_str (pa_cons (pe_fn0 (hk := by omega) F__law_items hr (pa_cons (pv 0) (pa_cons (pv 1) (pa_cons (pe_op op_sub (pv 2) pe_int) pa_nil)))) (pa_cons (pe_fn0 (hk := by omega) F__law_pick hr (pa_cons (pv 0) (pa_cons (pe_lst (pa_cons pe_str (pa_cons pe_str (pa_cons pe_str (pa_cons pe_str pa_nil))))) pa_nil))) pa_nil)))) pa_nil)))) (pss_one (ps_expr (pe_bmK (K := K) PySem.F.plainAttrs_list PySem.F.slot_list_append PySem.F.type_list_append mt_append (pv 3) (pa_cons (pe_fn0 (hk := by omega) F__law_deed hr (pa_cons (pv 0) (pa_cons (pv 1) pa_nil))) pa_nil))))))))))))
      (pss_one (ps_ret (pv 3))))), ?_⟩
    have hU := itU_le d
    refine ⟨sz0, fun l hl => ?_⟩
    have hq1 : q ≠ l := by
      obtain ⟨_, _, h1, _⟩ := hp
      exact ne_of_none h1 hl
    have e1 : Ev Tb (· = q) F H F (upd H l (.lst [])) := Ev.new W0 hl
    have e1' : Ev Tb S0 F H F (upd H l (.lst [])) := Ev.new W0 hl
    refine ⟨_, rfl, F, q, cells, n, 5, rfl, e1.wd, hp.ev e1' (fun z => z), by omega, by decide, by decide, fun F2 H2 r2 n2 e2 hp2 hn2 r20 r21 => ?_⟩
    have hql : l ≠ q := fun e => hq1 e.symm
    have hl2 := e2.kp (a := l) upd_same hql
    have fl2 := e2.nf (a := l) upd_same (W0.none hl)
    refine ⟨r2, rfl, by omega, by omega, ?_⟩
    refine for_range (lo := 0) (n := r2.toNat) (ItemsPv Tb F H q cells n d v l)
      ⟨F2, [], [], n2, none, none, rfl, e1.then e2, hp2, by omega, hl2, fl2, .nil, rfl, fun s hs => absurd hs (by simp)⟩ ?_ ?_
    · rintro j σ H' hj ⟨F', acc, its, n', c1, c2, rfl, e3, hp3, hn3, hacc, facc, hds, hlen, hok⟩
      have j3 : itU d * j ≤ itU d * 3 := Nat.mul_le_mul_left _ (by omega)
      have la : acc.length = its.length := by rw [hds.length, List.length_map]
      refine ⟨_, rfl, F', q, cells, n', 7, rfl, e3.wd, hp3, by omega, by decide, by decide, fun F4 H4 r4 n4 e4 hp4 hn4 r40 r41 => ?_⟩
      have e34 := e3.then e4
      have fin : ∀ F5 H5 r it n5, Ev Tb (· = q) F4 H4 F5 H5 → PenAt F5 H5 q cells n5 → n5 ≤ n' + itU d → DT F5 r (itemD it) → ItemOk d it → H5 l = some (.lst acc) ∧ acc.length < sizeLine ∧ ItemsPv Tb F H q cells n d v l (j + 1) [some (.ref q), some v, some (.int (d : Int)), some (.ref l), some (.int (0 + (j : Int))), some (.int r4)] (upd H5 l (.lst (acc ++ [r]))) := by
        intro F5 H5 r it n5 e5 hp5 hn5 hr hit
        have hacc5 := (e4.then e5).kp hacc hql
        have facc5 := (e4.then e5).nf hacc facc
        have e7 : Ev Tb (· = l) F5 H5 F5 (upd H5 l (.lst (acc ++ [r]))) := Ev.set e5.wd hacc5 facc5 (fun _ z => by cases z) (fun _ z => by cases z) rfl
        refine ⟨hacc5, szL (by omega), F5, acc ++ [r], its ++ [it], n5, _, _, rfl, ?_, hp5.ev e7 hq1, ?_, upd_same, facc5, ?_, ?_, ?_⟩
        · exact (e34.then e5).trans e7 (fun _ z => z) fun b hb => .inr (by rw [hb]; exact hl)
        · have : itU d * (j + 1) = itU d * j + itU d := Nat.mul_succ _ _
          omega
        · rw [List.map_append]
          exact ((e4.then e5).dts hds).snoc hr
        · rw [List.length_append, hlen]
          rfl
        · intro x hx
          rcases List.mem_append.mp hx with hx | hx
          · exact hok x hx
          · rw [List.mem_singleton.mp hx]
            exact hit
      have hacc4 := e4.kp hacc hql
      have u35 : 35 ≤ itU d := by cases d <;> simp [itU]
      dsimp only [gName]
      refine ⟨_, rfl, rfl, _, rfl, ?_⟩
      rw [dec_int]
      refine it2 (fun c1 => ?_) (fun c1 => ?_)
      · refine ⟨_, rfl, .inl ⟨rfl, _, SqL.of hacc4⟩, sz2, fun t ht => ?_⟩
        obtain ⟨e5, h5⟩ := new_tup (S := S0) e4.wd ht (.cons (.str "undo") (.cons (.int 0) .nil))
        exact ⟨l, acc, _, rfl, rfl, fin _ _ _ .undo n4 e5.to0 (hp4.ev e5 (fun z => z)) (by omega) h5 (io_undo d)⟩
      refine ⟨_, rfl, rfl, _, rfl, ?_⟩
      rw [dec_int]
      refine it2 (fun c2 => ?_) (fun c2 => ?_)
      · refine ⟨_, rfl, .inl ⟨rfl, _, SqL.of hacc4⟩, sz2, fun t ht => ?_⟩
        obtain ⟨e5, h5⟩ := new_tup (S := S0) e4.wd ht (.cons (.str "redo") (.cons (.int 0) .nil))
        exact ⟨l, acc, _, rfl, rfl, fin _ _ _ .redo n4 e5.to0 (hp4.ev e5 (fun z => z)) (by omega) h5 (io_redo d)⟩
      refine tIf_and (b1 := decide (V.int r4 = V.int 2)) (b2 := decide ((0 : Int) < (d : Int))) (fun Q' hq => ⟨_, rfl, rfl, _, rfl, hq⟩) (fun _ Q' hq => ⟨_, rfl, _, _, rfl, rfl, _, rfl, hq⟩) (fun _ c4 => ?_) (fun _ => ?_)
      · have hd0 := of_decide_eq_true c4
        obtain ⟨d', rfl⟩ : ∃ d', d = d' + 1 := ⟨d - 1, by omega⟩
        have eU : itU (d' + 1) = 35 + itB d' := rfl
        have eB : itB (d' + 1) = 300 + 4 * itB d' := rfl
        refine ⟨_, rfl, .inl ⟨rfl, _, SqL.of hacc4⟩, _, rfl, _, rfl, _, rfl, _, _, rfl, rfl, F4, q, cells, n4, v, ks, ?_, e4.wd, hp4, by omega, e34.dt hv, l5, hks, fun F5 H5 r5 its5 n5 e5 hp5 hn5 ok5 hr5 => ?_⟩
        · show [V.ref q, v, V.int (((d' + 1 : Nat) : Int) - 1)] = _
          rw [show ((d' + 1 : Nat) : Int) - 1 = (d' : Int) by omega]
        refine ⟨_, rfl, szN (n := 4) (by decide), fun z hz => ?_⟩
        obtain ⟨e6, h6⟩ := new_lst (S := S0) e5.wd hz (DTs.ofStrs (F := F5) ends)
        refine ⟨_, q, cells, n5, .ref z, _, rfl, e6.wd, hp5.ev e6 (fun z => z), by omega, pk_strs ends h6 (by decide) (by decide), fun F7 H7 r7 d7 n7 e7 hp7 hn7 hR7 hr7 => ?_⟩
        obtain ⟨e, he, rfl⟩ := hR7
        refine ⟨sz3, fun t ht => ?_⟩
        obtain ⟨e8, h8⟩ := new_tup (S := S0) e7.wd ht (.cons (.str "inner") (.cons ((e6.to0 (S := (· = q))).then e7 |>.dt hr5) (.cons hr7 .nil)))
        exact ⟨l, acc, _, rfl, rfl, fin _ _ _ (.inner its5 e) n7 ((e5.then ((e6.to0).then e7)).trans0 e8) (hp7.ev e8 (fun z => z)) (by omega) (by rw [itemD, itemsL_map]; exact h8) ⟨ends_ok e he, ok5⟩⟩
      · refine ⟨_, rfl, .inl ⟨rfl, _, SqL.of hacc4⟩, _, rfl, _, rfl, F4, q, cells, n4, v, ks, rfl, e4.wd, hp4, by omega, e34.dt hv, l5, hks, fun F5 H5 r5 d5 n5 e5 hp5 hn5 ok5 hr5 => ?_⟩
        exact ⟨l, acc, _, rfl, rfl, fin _ _ _ (.deed d5) n5 e5 hp5 (by omega) (by rw [itemD]; exact hr5) (io_deed ok5)⟩
    · rintro σ H' ⟨F', acc, its, n', c1, c2, rfl, e3, hp3, hn3, hacc, facc, hds, hlen, hok⟩
      have j4 : itU d * r2.toNat ≤ itU d * 4 := Nat.mul_le_mul_left _ (by omega)
      refine ⟨_, rfl, ?_⟩
      have e4 := e3.freeze hl hacc facc
      have m : Same F' (upd F' l (.lst acc)) := fun b u e => by
        rw [upd_ne (ne_of_none e facc)]
        exact e
      refine k _ _ _ its n' e4 ?_ (by omega) ⟨by omega, hok⟩ (.lst upd_same (DTs.mono m _ _ hds))
      obtain ⟨c, l', h1, h2, h3⟩ := hp3
      exact ⟨c, l', h1, by rw [upd_ne hq1]; exact h2, m _ _ h3⟩
theorem ok_no {x qual : Str} {st : Stmt} {ps : List Str} {f : Addr} {fd : FuncData} {k : Nat} {N : List Str} (F : L2.Fun K x qual st f fd) (sc : FnScope N ps (defScope st)) : FnOk P w K mg base CX0 (k + 1) f fd ps spNo := by
  refine F.ok sc (fun vs H Q E h => h.elim) (fun cdv AA outer s H vs Q E hr h => (show False from h).elim)
end
end K64
/-! ## KShape -/
set_option Elab.async false
set_option linter.all false
set_option maxRecDepth 100000
set_option maxHeartbeats 2000000
namespace K64
open PySem PySem.Spec PyProof.Rows L2 LamX
/-! ### data that may be compared -/
def okS (x : Str) : Prop := ∀ c ∈ TL.tl x, c < 0x110000
theorem okS.strOk {x : Str} (h : okS x) : PySem.PyData.canLay0 (.str x) = true := by
  show x.cps.all (· < 0x110000) = true
  rw [← Array.all_toList]
  exact List.all_eq_true.mpr fun c hc => decide_eq_true (h c hc)
theorem okS.app {a b : Str} (ha : okS a) (hb : okS b) : okS (a ++ b) := by
  intro c hc
  rw [TL.tl_append] at hc
  rcases List.mem_append.mp hc with hc | hc
  · exact ha c hc
  · exact hb c hc
theorem joinL_mem {S : List Nat} {c : Nat} : ∀ {ps : List (List Nat)}, c ∈ TL.joinL S ps → c ∈ S ∨ ∃ p ∈ ps, c ∈ p
  | [], h => by simp [TL.joinL] at h
  | [p], h => .inr ⟨p, by simp, by simpa [TL.joinL] using h⟩
  | p :: q :: ps, h => by
    have e : TL.joinL S (p :: q :: ps) = p ++ (S ++ TL.joinL S (q :: ps)) := rfl
    rw [e] at h
    rcases List.mem_append.mp h with h | h
    · exact .inr ⟨p, by simp, h⟩
    · rcases List.mem_append.mp h with h | h
      · exact .inl h
      · rcases joinL_mem h with h | ⟨z, hz, h⟩
        · exact .inl h
        · exact .inr ⟨z, List.mem_cons_of_mem _ hz, h⟩
theorem okS.join {a : Str} {xs : List Str} (ha : okS a) (hx : ∀ x ∈ xs, okS x) : okS (Txt.join a xs) := by
  intro c hc
  rw [TL.join_eq, TL.tl_join] at hc
  rcases joinL_mem hc with h | ⟨z, hz, h⟩
  · exact ha c h
  · obtain ⟨x, hx1, rfl⟩ := List.mem_map.mp hz
    exact hx x hx1 c h
theorem NmOk.okS {x : Str} (h : NmOk x) : okS x := fun c hc => Nat.lt_of_le_of_lt (h.lt c hc).2 (by decide)
def okB (x : Str) : Bool := (TL.tl x).all (· < 0x110000)
theorem okS_of {x : Str} (h : okB x = true) : okS x := fun c hc => of_decide_eq_true (List.all_eq_true.mp h c hc)
theorem stp_okB : (allStps.all fun s => okB (stpText s) && okB s.kind) = true := by decide +kernel
theorem stp_okS {s : Stp} (h : s ∈ allStps) : okS (stpText s) ∧ okS s.kind := by
  have c := all_of stp_okB h
  rw [Bool.and_eq_true] at c
  exact ⟨okS_of c.1, okS_of c.2⟩
theorem then_okS : okS (" then " : Str) := okS_of (by decide +kernel)
theorem nl_okS : okS ("\n" : Str) := okS_of (by decide +kernel)
theorem colon_okS : okS (": " : Str) := okS_of (by decide +kernel)
theorem prog_okS {p : List Stp} (h : okStps p) : okS (progText p) := then_okS.join fun x hx => by
  obtain ⟨s, hs, rfl⟩ := List.mem_map.mp hx
  exact (stp_okS (h s hs)).1
theorem st_okS {st : Bst} (h : SV st) : okS (stText st) := nl_okS.join fun x hx => by
  obtain ⟨r, hr, rfl⟩ := List.mem_map.mp hx
  obtain ⟨a, b⟩ := h.row r hr
  exact ((a.okS).app colon_okS).app (prog_okS b.st)
/-- may be compared, so deep at most -/
structure Sh (k : Nat) (d : PyData) : Prop where
  lay : PySem.PyData.canLay0 d = true
  dep : PySem.PyData.depth d ≤ k
theorem Sh.le {k j : Nat} {d : PyData} (h : Sh k d) (hk : k ≤ j) : Sh j d := ⟨h.lay, Nat.le_trans h.dep hk⟩
theorem Sh.shaped {k : Nat} {d : PyData} (h : Sh k d) (hk : k ≤ 64) : SeqAt.shaped d = true := by
  unfold SeqAt.shaped
  rw [h.lay, Bool.true_and]
  exact decide_eq_true (Nat.le_trans h.dep hk)
theorem Sh.str {x : Str} (h : okS x) {k : Nat} : Sh k (.str x) := ⟨h.strOk, by simp [PySem.PyData.depth]⟩
theorem Sh.int {i : Int} {k : Nat} : Sh k (.int i) := ⟨rfl, by simp [PySem.PyData.depth]⟩
theorem Sh.non {k : Nat} : Sh k .none := ⟨rfl, by simp [PySem.PyData.depth]⟩
theorem sh_all {k : Nat} : ∀ {ds : List PyData}, (∀ d ∈ ds, Sh k d) → PySem.PyData.canLayAll0 ds = true ∧ PySem.PyData.depthAll ds ≤ k
  | [], _ => ⟨rfl, by simp [PySem.PyData.depthAll]⟩
  | d :: ds, h => by
    obtain ⟨a, b⟩ := sh_all fun x hx => h x (List.mem_cons_of_mem _ hx)
    have c := h d List.mem_cons_self
    refine ⟨by rw [PySem.PyData.canLayAll0, a, c.lay]; rfl, ?_⟩
    rw [PySem.PyData.depthAll]
    exact Nat.max_le.mpr ⟨c.dep, b⟩
theorem Sh.list {k : Nat} {ds : List PyData} (h : ∀ d ∈ ds, Sh k d) : Sh (k + 1) (.list ds) := by
  obtain ⟨a, b⟩ := sh_all h
  exact ⟨by rw [PySem.PyData.canLay0]; exact a, by rw [PySem.PyData.depth]; omega⟩
theorem Sh.tup {k : Nat} {ds : List PyData} (h : ∀ d ∈ ds, Sh k d) : Sh (k + 1) (.tuple ds) := by
  obtain ⟨a, b⟩ := sh_all h
  exact ⟨by rw [PySem.PyData.canLay0]; exact a, by rw [PySem.PyData.depth]; omega⟩
theorem Sh.map {α : Type} {f : α → PyData} {k : Nat} {xs : List α} (h : ∀ x ∈ xs, Sh k (f x)) : Sh (k + 1) (.list (xs.map f)) := Sh.list fun d hd => by
  obtain ⟨x, hx, rfl⟩ := List.mem_map.mp hd
  exact h x hx
theorem Sh.tup2 {k : Nat} {a b : PyData} (ha : Sh k a) (hb : Sh k b) : Sh (k + 1) (.tuple [a, b]) := Sh.tup fun d hd => by
  simp only [List.mem_cons, List.not_mem_nil, or_false] at hd
  rcases hd with rfl | rfl
  · exact ha
  · exact hb
theorem Sh.tup3 {k : Nat} {a b c : PyData} (ha : Sh k a) (hb : Sh k b) (hc : Sh k c) : Sh (k + 1) (.tuple [a, b, c]) := Sh.tup fun d hd => by
  simp only [List.mem_cons, List.not_mem_nil, or_false] at hd
  rcases hd with rfl | rfl | rfl
  · exact ha
  · exact hb
  · exact hc
theorem sh_stp {s : Stp} (h : s ∈ allStps) : Sh 2 (stpD s) := by
  refine Sh.tup3 (Sh.str (stp_okS h).2) ?_ ?_
  · cases s.by_ with
    | none => exact Sh.non
    | some i => exact Sh.int
  · cases s.rest with
    | none => exact Sh.non
    | some r => exact Sh.tup2 Sh.int Sh.int
theorem sh_pr {p : List Stp} (h : okStps p) : Sh 3 (prD p) := Sh.map fun s hs => sh_stp (h s hs)
theorem sh_bst {st : Bst} (h : SV st) : Sh 5 (bstD st) := Sh.map fun r hr => Sh.tup2 (Sh.str (h.row r hr).1.okS) (sh_pr (h.row r hr).2.st)
theorem sh_past {sts : List Bst} (h : ∀ st ∈ sts, SV st) : Sh 6 (.list (sts.map bstD)) := Sh.map fun st hs => sh_bst (h st hs)
/-! ### what is seen -/
def ObsS (o : Obs) : Prop := Sh 1 (obsD o)
theorem ok_okS : okS ("ok" : Str) := okS_of (by decide +kernel)
theorem none_okS : okS ("none" : Str) := okS_of (by decide +kernel)
theorem end_okS : okS ("end" : Str) := okS_of (by decide +kernel)
theorem obs_ok : ObsS okO := Sh.tup2 (Sh.str ok_okS) Sh.non
theorem obs_none : ObsS (.prI "none" 0) := Sh.tup2 (Sh.str none_okS) Sh.int
theorem obs_txt {x : Str} (h : okS x) : ObsS (.txt x) := Sh.str h
theorem obs_many {k : Int} : ObsS (tooMany k).2 := Sh.tup2 (Sh.str (okS_of (by decide +kernel))) Sh.int
theorem obs_noName {n : Str} (h : okS n) : ObsS (noName n).2 := Sh.tup2 (Sh.str (okS_of (by decide +kernel))) (Sh.str h)
theorem collect_errm {st : Bst} : ∀ {ns : List Str} {e : Str}, collect st ns = .error e → e ∈ ns
  | [], e, h => by cases h
  | n :: ns, e, h => by
    unfold collect at h
    split at h
    · cases q : collect st ns with
      | error x =>
        rw [q] at h
        cases h
        exact List.mem_cons_of_mem _ (collect_errm q)
      | ok r =>
        rw [q] at h
        cases h
    · cases h
      exact List.mem_cons_self
theorem due_obs {st : Bst} {d : Deed} (h : SV st) (hd : DeedOk d) : ObsS (due st d).2 := by
  cases d with
  | put n p =>
    simp only [due]
    split
    · exact obs_many
    · exact obs_ok
  | drop n =>
    simp only [due]
    split
    · rename_i q
      exact Sh.tup2 (Sh.str ok_okS) (Sh.str (prog_okS (h.okP q).st))
    · exact obs_noName hd.okS
  | turn n =>
    simp only [due]
    split
    · exact obs_ok
    · exact obs_noName hd.okS
  | chain n ns =>
    simp only [due]
    cases q : collect st ns with
    | error x => exact obs_noName (hd.2.2 x (collect_errm q)).okS
    | ok p =>
      simp only [chained]
      split
      · exact obs_many
      · split
        · exact obs_many
        · split
          · exact obs_many
          · exact obs_ok
theorem undo_obs (m : Mst) : ObsS (undoM m).2 := by
  unfold undoM
  cases m.past.getLast? with
  | none => exact obs_none
  | some l => exact obs_ok
theorem redo_obs (m : Mst) : ObsS (redoM m).2 := by
  unfold redoM
  cases m.fut.getLast? with
  | none => exact obs_none
  | some l => exact obs_ok
theorem deedM_obs {m : Mst} {d : Deed} : (deedM m d).2 = (due m.st d).2 := by
  unfold deedM
  cases e : due m.st d with
  | mk o x => cases o <;> rfl
theorem close_obs (n : Nat) (e : Str) : ObsS (closeO n e) := by
  unfold closeO
  split
  · exact Sh.tup2 (Sh.str end_okS) Sh.int
  · split
    · exact Sh.str (okS_of (by decide +kernel))
    · exact Sh.str (okS_of (by decide +kernel))
/-- how much a play sees at most -/
def seenB : Nat → Nat
  | 0 => 60
  | d + 1 => 60 + 30 * seenB d
def SeesP (n : Nat) (rec : PlayT) : Prop := ∀ its m, ItemsOk n its → MV m → (∀ o ∈ (rec its m).2, ObsS o) ∧ (rec its m).2.length ≤ seenB n
def itS : Nat → Nat
  | 0 => 2
  | d + 1 => 2 + seenB d
theorem item_sees {n : Nat} {rec : PlayT} {it : Item} {m : Mst} (hit : ItemOk n it) (hk : ∀ k, n = k + 1 → KeepsP k rec) (hrec : ∀ k, n = k + 1 → SeesP k rec) (h : MV m) : (∀ o ∈ (itemM rec it m).2, ObsS o) ∧ (itemM rec it m).2.length ≤ itS n := by
  have n2 : 2 ≤ itS n := by cases n <;> simp [itS]
  have two : ∀ a b : Obs, ObsS a → ObsS b → (∀ o ∈ [a, b], ObsS o) ∧ [a, b].length ≤ itS n := fun a b ha hb => ⟨fun o ho => by
    simp only [List.mem_cons, List.not_mem_nil, or_false] at ho
    rcases ho with rfl | rfl
    · exact ha
    · exact hb, n2⟩
  have kp := (item_kept hit hk h).v
  cases it with
  | undo => exact two _ _ (undo_obs m) (obs_txt (st_okS kp.st))
  | redo => exact two _ _ (redo_obs m) (obs_txt (st_okS kp.st))
  | deed d =>
    have hd : DeedOk d := by cases n <;> exact hit
    exact two _ _ (by rw [deedM_obs]; exact due_obs h.st hd) (obs_txt (st_okS kp.st))
  | inner its e =>
    cases n with
    | zero => exact (show False from hit).elim
    | succ k =>
      obtain ⟨_, h2, h3⟩ := (show _ ∧ _ ∧ _ from hit)
      obtain ⟨q1, q2⟩ := hrec k rfl its ⟨m.st, [], []⟩ ⟨h2, h3⟩ h.fresh
      obtain ⟨t1, t2⟩ := two (closeO its.length e) (.txt (stText (closeM m (rec its ⟨m.st, [], []⟩).1 e).st)) (close_obs _ _) (obs_txt (st_okS kp.st))
      refine ⟨fun o ho => ?_, ?_⟩
      · rcases List.mem_append.mp (show o ∈ (rec its ⟨m.st, [], []⟩).2 ++ [closeO its.length e, .txt (stText (closeM m (rec its ⟨m.st, [], []⟩).1 e).st)] from ho) with ho | ho
        · exact q1 o ho
        · exact t1 o ho
      · show ((rec its ⟨m.st, [], []⟩).2 ++ [closeO its.length e, .txt (stText (closeM m (rec its ⟨m.st, [], []⟩).1 e).st)]).length ≤ _
        rw [List.length_append]
        show _ + 2 ≤ 2 + seenB k
        omega
theorem playW_sees {n : Nat} {rec : PlayT} (hk : ∀ k, n = k + 1 → KeepsP k rec) (hrec : ∀ k, n = k + 1 → SeesP k rec) : ∀ (its : List Item) (m : Mst), (∀ it ∈ its, ItemOk n it) → MV m → (∀ o ∈ (playW rec its m).2, ObsS o) ∧ (playW rec its m).2.length ≤ its.length * itS n
  | [], m, _, h => ⟨fun o ho => absurd ho (by simp [playW]), by simp [playW]⟩
  | it :: r, m, ho, h => by
    obtain ⟨a1, a2⟩ := item_sees (ho it List.mem_cons_self) hk hrec h
    obtain ⟨b1, b2⟩ := playW_sees hk hrec r (itemM rec it m).1 (fun x hx => ho x (List.mem_cons_of_mem _ hx)) (item_kept (ho it List.mem_cons_self) hk h).v
    refine ⟨fun o hx => ?_, ?_⟩
    · rcases List.mem_append.mp (show o ∈ (itemM rec it m).2 ++ (playW rec r (itemM rec it m).1).2 from hx) with hx | hx
      · exact a1 o hx
      · exact b1 o hx
    · show ((itemM rec it m).2 ++ (playW rec r (itemM rec it m).1).2).length ≤ (r.length + 1) * itS n
      rw [List.length_append, Nat.succ_mul]
      omega
theorem play_sees : ∀ n, SeesP n (play n)
  | 0 => fun its m ho h => by
    obtain ⟨a, b⟩ := playW_sees (n := 0) (rec := fun _ m => (m, [])) (fun k e => by cases e) (fun k e => by cases e) its m ho.2 h
    refine ⟨a, Nat.le_trans b ?_⟩
    have := Nat.mul_le_mul_right (itS 0) ho.1
    exact this
  | n + 1 => fun its m ho h => by
    obtain ⟨a, b⟩ := playW_sees (n := n + 1) (rec := play n) (fun k e => by cases e; exact play_kept n) (fun k e => by cases e; exact play_sees n) its m ho.2 h
    refine ⟨a, Nat.le_trans b ?_⟩
    have := Nat.mul_le_mul_right (itS (n + 1)) ho.1
    show _ ≤ 60 + 30 * seenB n
    have e : itS (n + 1) = 2 + seenB n := rfl
    rw [e] at this ⊢
    omega
theorem sh_seen {os : List Obs} (h : ∀ o ∈ os, ObsS o) : Sh 2 (.list (os.map obsD)) := Sh.map fun o ho => h o ho
mutual
theorem eqv_refl : ∀ d : PyData, PySem.PyData.canLay0 d = true → PyData.eqv d d = true
  | .none, _ => rfl
  | .bool b, _ => by simp [PyData.eqv]
  | .int i, _ => by simp [PyData.eqv]
  | .str x, _ => by simp [PyData.eqv]
  | .list xs, h => by rw [PyData.eqv]; exact eqvAll_refl xs (by rw [PySem.PyData.canLay0] at h; exact h)
  | .tuple xs, h => by rw [PyData.eqv]; exact eqvAll_refl xs (by rw [PySem.PyData.canLay0] at h; exact h)
  | .dict _, h => by simp [PySem.PyData.canLay0] at h
theorem eqvAll_refl : ∀ ds : List PyData, PySem.PyData.canLayAll0 ds = true → PyData.eqvAll ds ds = true
  | [], _ => rfl
  | d :: ds, h => by
    rw [PySem.PyData.canLayAll0, Bool.and_eq_true] at h
    rw [PyData.eqvAll, eqv_refl d h.1, eqvAll_refl ds h.2]
    rfl
end
end K64
/-! ## KD11 -/
set_option Elab.async false
set_option linter.all false
set_option maxRecDepth 100000
set_option maxHeartbeats 2000000
namespace K64
open PySem PySem.Spec PyProof.Rows L2 LamX
abbrev modL (v : V) (a b : Addr) : List (Key × V) := d3 "state" "past" "future" v (.ref a) (.ref b)
theorem k_sp : ("state" : Str) ≠ "past" := by decide +kernel
theorem k_sf : ("state" : Str) ≠ "future" := by decide +kernel
theorem k_pf : ("past" : Str) ≠ "future" := by decide +kernel
/-- the model at q: its lists at a and b -/
structure ModelX (F H : Hp) (q a b : Addr) (m : Mst) (v : V) (xs ys : List V) : Prop where
  hq : H q = some (.dK (modL v a b))
  hv : DT F v (bstD m.st)
  ha : H a = some (.lst xs)
  hb : H b = some (.lst ys)
  hx : DTs F xs (m.past.map bstD)
  hy : DTs F ys (m.fut.map bstD)
  fq : F q = none
  fa : F a = none
  fb : F b = none
  ne : a ≠ b
def ModelAt (F H : Hp) (q a b : Addr) (m : Mst) : Prop := ∃ v xs ys, ModelX F H q a b m v xs ys
def mS (q a b : Addr) : Addr → Prop := fun x => x = q ∨ x = a ∨ x = b
def pS (l : Addr) (S : Addr → Prop) : Addr → Prop := fun x => x = l ∨ S x
structure SeenX (F H : Hp) (l : Addr) (os : List Obs) (xs : List V) : Prop where
  hl : H l = some (.lst xs)
  hx : DTs F xs (os.map obsD)
  fl : F l = none
def SeenAt (F H : Hp) (l : Addr) (os : List Obs) : Prop := ∃ xs, SeenX F H l os xs
section
variable {T : List (Addr × Str)} {S : Addr → Prop} {F H F1 H1 : Hp} {q a b l : Addr} {m : Mst} {v : V} {xs ys : List V} {os : List Obs}
theorem ModelX.qa (h : ModelX F H q a b m v xs ys) : q ≠ a := fun e => by
  have := h.hq
  rw [e, h.ha] at this
  cases this
theorem ModelX.qb (h : ModelX F H q a b m v xs ys) : q ≠ b := fun e => by
  have := h.hq
  rw [e, h.hb] at this
  cases this
theorem ModelX.ev (h : ModelX F H q a b m v xs ys) (e : Ev T S F H F1 H1) (h1 : ¬ S q) (h2 : ¬ S a) (h3 : ¬ S b) : ModelX F1 H1 q a b m v xs ys :=
  ⟨e.kp h.hq h1, e.dt h.hv, e.kp h.ha h2, e.kp h.hb h3, e.dts h.hx, e.dts h.hy, e.nf h.hq h.fq, e.nf h.ha h.fa, e.nf h.hb h.fb, h.ne⟩
theorem ModelAt.ev (h : ModelAt F H q a b m) (e : Ev T S F H F1 H1) (h1 : ¬ S q) (h2 : ¬ S a) (h3 : ¬ S b) : ModelAt F1 H1 q a b m := by
  obtain ⟨v, xs, ys, h⟩ := h
  exact ⟨v, xs, ys, h.ev e h1 h2 h3⟩
theorem SeenX.ev (h : SeenX F H l os xs) (e : Ev T S F H F1 H1) (h1 : ¬ S l) : SeenX F1 H1 l os xs := ⟨e.kp h.hl h1, e.dts h.hx, e.nf h.hl h.fl⟩
theorem SeenAt.ev (h : SeenAt F H l os) (e : Ev T S F H F1 H1) (h1 : ¬ S l) : SeenAt F1 H1 l os := by
  obtain ⟨xs, h⟩ := h
  exact ⟨xs, h.ev e h1⟩
theorem ModelX.g0 (h : H q = some (.dK (modL v a b))) : DGet H q (.str "state") (some v) := .inl ⟨_, .inr "state", .inl h, rfl, (d3_g1).symm⟩
theorem ModelX.g1 (h : H q = some (.dK (modL v a b))) : DGet H q (.str "past") (some (.ref a)) := .inl ⟨_, .inr "past", .inl h, rfl, (d3_g2 k_sp).symm⟩
theorem ModelX.g2 (h : H q = some (.dK (modL v a b))) : DGet H q (.str "future") (some (.ref b)) := .inl ⟨_, .inr "future", .inl h, rfl, (d3_g3 k_sf k_pf).symm⟩
theorem ModelX.p0 (v' : V) (h : H q = some (.dK (modL v a b))) : DPut H q (.str "state") v' (upd H q (.dK (modL v' a b))) := .inl ⟨_, .inr "state", h, rfl, szL (n := 3) (by decide), by rw [d3_p1 k_sp k_sf]⟩
theorem ModelX.p2 (b' : Addr) (h : H q = some (.dK (modL v a b))) : DPut H q (.str "future") (.ref b') (upd H q (.dK (modL v a b'))) := .inl ⟨_, .inr "future", h, rfl, szL (n := 3) (by decide), by rw [d3_p3 k_sf k_pf]⟩
/-- an entry more is seen -/
theorem see {r : V} {o : Obs} (w : Wd T F H) (h : SeenX F H l os xs) (hr : DT F r (obsD o)) : Ev T (· = l) F H F (upd H l (.lst (xs ++ [r]))) ∧ SeenX F (upd H l (.lst (xs ++ [r]))) l (os ++ [o]) (xs ++ [r]) := by
  refine ⟨Ev.set w h.hl h.fl (fun _ z => by cases z) (fun _ z => by cases z) rfl, upd_same, ?_, h.fl⟩
  rw [List.map_append]
  exact h.hx.snoc hr
theorem last_get {α : Type} {l : List α} {x : α} (h : l.getLast? = some x) : l[l.length - 1]? = some x := by rw [← List.getLast?_eq_getElem?]; exact h
theorem dts_last {sts : List Bst} {st : Bst} (h : DTs F xs (sts.map bstD)) (e : sts.getLast? = some st) : ∃ y, xs[xs.length - 1]? = some y ∧ DT F y (bstD st) ∧ DTs F xs.dropLast (sts.dropLast.map bstD) := by
  have hl : xs.length = sts.length := by rw [h.length, List.length_map]
  have g := last_get e
  have pos : 0 < sts.length := by
    cases sts with
    | nil => cases e
    | cons a b => exact Nat.succ_pos _
  obtain ⟨y, hy⟩ : ∃ y, xs[xs.length - 1]? = some y := ⟨_, List.getElem?_eq_getElem (by omega)⟩
  refine ⟨y, hy, ?_, ?_⟩
  · rw [hl] at hy
    obtain ⟨z, hz, hd⟩ := dts_get h hy
    rw [g] at hz
    rw [Option.some.inj hz]
    exact hd
  · have t := h.take (sts.length - 1)
    rw [List.dropLast_eq_take, List.dropLast_eq_take, List.map_take, hl]
    exact t
end
section
variable {P : Program} {w : World} {K : PySem.W.Frag} {mg : Str → Option Value} {base : Heap} {A : Ad} {Tb : List (Addr × Str)}
abbrev s__law_model_step : Stmt := top 75
abbrev N__law_model_step : List Str := [("_law_model" : Str), ("_law_here" : Str), ("_law_there" : Str)]
abbrev P__law_model_step : List Str := [("_law_model" : Str), ("_law_here" : Str), ("_law_there" : Str)]
theorem sc__law_model_step : FnScope N__law_model_step P__law_model_step (defScope s__law_model_step) := ⟨rfl, rfl, rfl, by decide +kernel, rfl, by decide +kernel, by decide +kernel⟩
theorem bd__law_model_step {K : PySem.W.Frag} {f : Addr} {fd : FuncData} (F : L2.Fun K "_law_model_step" "_law_model_step" s__law_model_step f fd) : Binds K fd P__law_model_step [] := F.binds fun _ _ _ _ _ _ us hl => match us, hl with | [_, _, _], _ => rfl

def hereS (back : Bool) : Str := if back = true then "past" else "future"
def thereS (back : Bool) : Str := if back = true then "future" else "past"
def moveM (back : Bool) (m : Mst) : Mst × Obs := if back = true then undoM m else redoM m
def spMStep (Tb : List (Addr × Str)) : Sp := fun vs H Q _ => ∃ (F : Hp) (q a b : Addr) (m : Mst) (back : Bool), vs = [.ref q, .str (hereS back), .str (thereS back)] ∧ Wd Tb F H ∧ ModelAt F H q a b m ∧ MV m ∧ m.past.length + m.fut.length ≤ 100000 ∧
  ∀ F' H' r, Ev Tb (mS q a b) F H F' H' → ModelAt F' H' q a b (moveM back m).1 → DT F' r (obsD (moveM back m).2) → Q r H'
/-- the walk, by what lies where -/
theorem step_core {F H : Hp} {q a b s t : Addr} {here there : Str} {v : V} {xs ys : List V} {sts : List Bst} {σ : L2.St} {Q : V → Hp → Prop} (W0 : Wd Tb F H) (hq : H q = some (.dK (modL v a b))) (h0 : σ[0]? = some (some (.ref q))) (h1 : σ[1]? = some (some (.str here))) (h2 : σ[2]? = some (some (.str there)))
    (gs : ∀ (H : Hp) v, H q = some (.dK (modL v a b)) → DGet H q (.str here) (some (.ref s))) (gt : ∀ (H : Hp) v, H q = some (.dK (modL v a b)) → DGet H q (.str there) (some (.ref t)))
    (hs : H s = some (.lst xs)) (ht : H t = some (.lst ys)) (hx : DTs F xs (sts.map bstD)) (hvs : ∀ st ∈ sts, SV st) (fs : F s = none) (ft : F t = none) (fq : F q = none) (ne : s ≠ t) (qs : q ≠ s) (qt : q ≠ t) (hlen : ys.length ≤ 100000) (hl2 : sts.length ≤ 100000)
    (k0 : sts.getLast? = none → ∀ F' H' r, Ev Tb S0 F H F' H' → DT F' r (obsD (.prI "none" 0)) → Q r H')
    (k1 : ∀ st y, sts.getLast? = some st → ∀ F1 H1, Ev Tb S0 F H F1 H1 → xs[xs.length - 1]? = some y → DT F1 y (bstD st) → DTs F1 xs.dropLast (sts.dropLast.map bstD) → ∀ F' H' r, Ev Tb (fun x => x = q ∨ x = s ∨ x = t) F H F' H' → Same F1 F' → H' q = some (.dK (modL y a b)) → H' s = some (.lst xs.dropLast) → H' t = some (.lst (ys ++ [v])) → F' q = none → F' s = none → F' t = none → DT F' r (obsD okO) → Q r H') :
    (tSeq (tIfS (tTest (tOp (rEqD K) (tDGet (tVar 0) (tVar 1)) (tLst tNil))) (tRet (tTup (tCons (tC (V.str "none")) (tCons (tC (V.int 0)) tNil)))) tNext)
      (tSeq (tDrop (tBM K "list" rAppend (tDGet (tVar 0) (tVar 2)) (tCons (tDGet (tVar 0) (tC (V.str "state"))) tNil)))
        (tSeq (sDPut (tVar 0) (tC (V.str "state")) (tBM0 K "list" rPop (tDGet (tVar 0) (tVar 1)))) (tRet (tTup (tCons (tC (V.str "ok")) (tCons (tC V.non) tNil))))))) { nx := fun x H' => Q V.non H', rt := Q } σ H := by
  refine ⟨_, h0, _, h1, q, .ref s, rfl, gs _ _ hq, sz0, fun z hz => ?_⟩
  have e1 : Ev Tb S0 F H F (upd H z (.lst [])) := Ev.new W0 hz
  have hs1 := e1.kp hs
  have ht1 := e1.kp ht
  have hq1 := e1.kp hq
  refine ⟨.list (sts.map bstD), .list [], .lst (SqL.of hs1) (DTs.dp e1.wd.sub _ _ hx), .lst (SqL.of upd_same) .nil, (sh_past hvs).shaped (by decide), shaped_nil, _, rfl, ?_⟩
  rw [eqv_nil]
  have hl : xs.length = sts.length := by rw [hx.length, List.length_map]
  cases el : sts.getLast? with
  | none =>
    have en : sts = [] := List.getLast?_eq_none_iff.mp el
    subst en
    refine itT rfl ⟨sz2, fun p hp => ?_⟩
    obtain ⟨e2, h2⟩ := new_tup (S := S0) e1.wd hp (.cons (.str "none") (.cons (.int 0) .nil))
    exact k0 el _ _ _ (e1.trans0 e2) h2
  | some st =>
    have ne0 : (sts.map bstD).isEmpty = false := by
      cases sts with
      | nil => cases el
      | cons a b => rfl
    rw [ne0]
    refine itF rfl ?_
    obtain ⟨y, hy, hyd, hxd⟩ := dts_last hx el
    refine ⟨_, h0, _, h2, q, .ref t, rfl, gt _ _ hq1, .inl ⟨rfl, _, SqL.of ht1⟩, _, h0, q, v, rfl, ModelX.g0 hq1, t, ys, v, rfl, rfl, ht1, szL (by omega), ?_⟩
    have e2 : Ev Tb (fun x => x = q ∨ x = s ∨ x = t) F (upd H z (.lst [])) F (upd (upd H z (.lst [])) t (.lst (ys ++ [v]))) := Ev.set e1.wd ht1 ft (fun _ z => by cases z) (fun _ z => by cases z) (.inr (.inr rfl))
    have hq2 : upd (upd H z (.lst [])) t (.lst (ys ++ [v])) q = some (.dK (modL v a b)) := by rw [upd_ne qt]; exact hq1
    have hs2 : upd (upd H z (.lst [])) t (.lst (ys ++ [v])) s = some (.lst xs) := by rw [upd_ne ne]; exact hs1
    have ht2 : upd (upd H z (.lst [])) t (.lst (ys ++ [v])) t = some (.lst (ys ++ [v])) := upd_same
    refine ⟨_, h0, _, h1, q, .ref s, rfl, gs _ _ hq2, .inl ⟨rfl, _, SqL.of hs2⟩, s, xs, y, rfl, rfl, hs2, hy, ?_⟩
    have e3 : Ev Tb (fun x => x = q ∨ x = s ∨ x = t) F _ F (upd (upd (upd H z (.lst [])) t (.lst (ys ++ [v]))) s (.lst xs.dropLast)) := Ev.set e2.wd hs2 fs (fun _ z => by cases z) (fun _ z => by cases z) (.inr (.inl rfl))
    have hq3 : upd (upd (upd H z (.lst [])) t (.lst (ys ++ [v]))) s (.lst xs.dropLast) q = some (.dK (modL v a b)) := by rw [upd_ne qs]; exact hq2
    have hs3 : upd (upd (upd H z (.lst [])) t (.lst (ys ++ [v]))) s (.lst xs.dropLast) s = some (.lst xs.dropLast) := upd_same
    have ht3 : upd (upd (upd H z (.lst [])) t (.lst (ys ++ [v]))) s (.lst xs.dropLast) t = some (.lst (ys ++ [v])) := by rw [upd_ne (Ne.symm ne)]; exact ht2
    refine ⟨_, h0, q, _, rfl, ModelX.p0 y hq3, sz2, fun p hp => ?_⟩
    have e4 : Ev Tb (fun x => x = q ∨ x = s ∨ x = t) F _ F (upd (upd (upd (upd H z (.lst [])) t (.lst (ys ++ [v]))) s (.lst xs.dropLast)) q (.dK (modL y a b))) := Ev.set e3.wd hq3 fq (fun _ z => by cases z) (fun _ z => by cases z) (.inl rfl)
    have hq4 : upd (upd (upd (upd H z (.lst [])) t (.lst (ys ++ [v]))) s (.lst xs.dropLast)) q (.dK (modL y a b)) q = some (.dK (modL y a b)) := upd_same
    have hs4 : upd (upd (upd (upd H z (.lst [])) t (.lst (ys ++ [v]))) s (.lst xs.dropLast)) q (.dK (modL y a b)) s = some (.lst xs.dropLast) := by rw [upd_ne (Ne.symm qs)]; exact hs3
    have ht4 : upd (upd (upd (upd H z (.lst [])) t (.lst (ys ++ [v]))) s (.lst xs.dropLast)) q (.dK (modL y a b)) t = some (.lst (ys ++ [v])) := by rw [upd_ne (Ne.symm qt)]; exact ht3
    obtain ⟨e5, h5⟩ := new_tup (S := S0) e4.wd hp (.cons (.str "ok") (.cons .non .nil))
    have e15 := (((e1.to0 (S := fun x => x = q ∨ x = s ∨ x = t)).then ((e2.then e3).then e4)).trans0 e5)
    exact k1 st y el F _ e1 hy hyd hxd _ _ _ e15 e5.mono (e5.kp hq4) (e5.kp hs4) (e5.kp ht4) (e5.nf hq4 fq) (e5.nf hs4 fs) (e5.nf ht4 ft) h5
theorem ok_mstep {f : Addr} {fd : FuncData} (F : L2.Fun K "_law_model_step" "_law_model_step" s__law_model_step f fd) (T : Txt P K mg A) : FnOk P w K mg base CX0 1 f fd P__law_model_step (spMStep Tb) := by
  have sc := sc__law_model_step
  refine F.ok sc (fun vs H Q E h => ?_) (fun cdv AA outer s H vs Q E hr h => ?_)
  · obtain ⟨F, q, a, b, m, back, rfl, _⟩ := h
    rfl
  · obtain ⟨F, q, a, b, m, back, rfl, W0, ⟨v, xs, ys, h⟩, hm, hlen, k⟩ := h
    refine ⟨_, (pss_cons (ps_if (pt_cmpR (op_eqDK (K := K) hr.units) (pe_dget (hu_of hr) (pv 0) (pv 1) (fun _ _ => rfl)) (pe_lst pa_nil) (nomark _)) (pss_one (ps_ret (pe_tup (pa_cons pe_str (pa_cons pe_int pa_nil))))) pss_nil)
      (pss_cons (ps_expr (pe_bmK (K := K) PySem.F.plainAttrs_list PySem.F.slot_list_append PySem.F.type_list_append mt_append (pe_dget (hu_of hr) (pv 0) (pv 2) (fun _ _ => rfl)) (pa_cons (pe_dget (hu_of hr) (pv 0) pe_str (fun _ _ => rfl)) pa_nil)))
      (pss_cons (ps_dput (hu_of hr) (pv 0) pe_str (pe_bm0K' (K := K) PySem.F.plainAttrs_list PySem.F.slot_list_pop PySem.F.type_list_pop mt_pop (pe_dget (hu_of hr) (pv 0) (pv 1) (fun _ _ => rfl))) rfl)
      (pss_one (ps_ret (pe_tup (pa_cons pe_str (pa_cons pe_non pa_nil)))))))), ?_⟩
    have lx : xs.length = m.past.length := by rw [h.hx.length, List.length_map]
    have ly : ys.length = m.fut.length := by rw [h.hy.length, List.length_map]
    cases back with
    | true =>
      refine step_core (s := a) (t := b) (xs := xs) (ys := ys) (sts := m.past) W0 h.hq rfl rfl rfl (fun H v h => ModelX.g1 h) (fun H v h => ModelX.g2 h) h.ha h.hb h.hx hm.past h.fa h.fb h.fq h.ne h.qa h.qb (by omega) (by omega) (fun e F' H' r e1 hr => ?_) (fun st y e F1 H1 e1 hy hyd hxd F' H' r e2 sm hq hs ht fq fs ft hr => ?_)
      · have q0 : moveM true m = (m, .prI "none" 0) := by show undoM m = _; unfold undoM; rw [e]
        rw [q0] at k
        exact k F' H' r e1.to0 ⟨v, xs, ys, h.ev e1 (fun z => z) (fun z => z) (fun z => z)⟩ hr
      · have q0 : moveM true m = (⟨st, m.past.dropLast, m.fut ++ [m.st]⟩, okO) := by show undoM m = _; unfold undoM; rw [e]
        rw [q0] at k
        refine k F' H' r e2 ⟨y, _, _, hq, DT.mono sm _ _ hyd, hs, ht, DTs.mono sm _ _ hxd, ?_, fq, fs, ft, h.ne⟩ hr
        rw [List.map_append]
        exact (DTs.mono e2.mono _ _ h.hy).snoc (e2.dt h.hv)
    | false =>
      refine step_core (s := b) (t := a) (xs := ys) (ys := xs) (sts := m.fut) W0 h.hq rfl rfl rfl (fun H v h => ModelX.g2 h) (fun H v h => ModelX.g1 h) h.hb h.ha h.hy hm.fut h.fb h.fa h.fq (Ne.symm h.ne) h.qb h.qa (by omega) (by omega) (fun e F' H' r e1 hr => ?_) (fun st y e F1 H1 e1 hy hyd hxd F' H' r e2 sm hq hs ht fq fs ft hr => ?_)
      · have q0 : moveM false m = (m, .prI "none" 0) := by show redoM m = _; unfold redoM; rw [e]
        rw [q0] at k
        exact k F' H' r e1.to0 ⟨v, xs, ys, h.ev e1 (fun z => z) (fun z => z) (fun z => z)⟩ hr
      · have q0 : moveM false m = (⟨st, m.past ++ [m.st], m.fut.dropLast⟩, okO) := by show redoM m = _; unfold redoM; rw [e]
        rw [q0] at k
        refine k F' H' r (e2.to fun x hx => ?_) ⟨y, _, _, hq, DT.mono sm _ _ hyd, ht, hs, ?_, DTs.mono sm _ _ hxd, fq, ft, fs, h.ne⟩ hr
        · rcases hx with z | z | z
          · exact .inl (.inl z)
          · exact .inl (.inr (.inr z))
          · exact .inl (.inr (.inl z))
        · rw [List.map_append]
          exact (DTs.mono e2.mono _ _ h.hx).snoc (e2.dt h.hv)
end
end K64
/-! ## KD12 -/
set_option Elab.async false
set_option linter.all false
set_option maxRecDepth 100000
set_option maxHeartbeats 2000000
namespace K64
open PySem PySem.Spec PyProof.Rows L2 LamX
/-! ### the head of an item -/
def itemK : Item → Str
  | .undo => "undo"
  | .redo => "redo"
  | .deed (.put _ _) => "put"
  | .deed (.drop _) => "drop"
  | .deed (.turn _) => "turn"
  | .deed (.chain _ _) => "chain"
  | .inner _ _ => "inner"
theorem item_head {F : Hp} {v : V} {it : Item} (h : DT F v (itemD it)) : ∃ a xs, v = .ref a ∧ F a = some (.tup xs) ∧ xs[0]? = some (.str (itemK it)) := by
  cases it with
  | undo =>
    rw [itemD] at h
    obtain ⟨a, x, y, rfl, ha, h1, h2⟩ := DT.pair h
    obtain rfl := h1.strV
    exact ⟨a, _, rfl, ha, rfl⟩
  | redo =>
    rw [itemD] at h
    obtain ⟨a, x, y, rfl, ha, h1, h2⟩ := DT.pair h
    obtain rfl := h1.strV
    exact ⟨a, _, rfl, ha, rfl⟩
  | deed d =>
    rw [itemD] at h
    obtain ⟨a, xs, kd, rfl, ha, x0, x1, rfl⟩ := deed_head h
    refine ⟨a, xs, rfl, ha, ?_⟩
    rw [x0]
    cases d <;> rfl
  | inner its e =>
    rw [itemD] at h
    obtain ⟨a, x, y, z, rfl, ha, h1, h2, h3⟩ := DT.trip h
    obtain rfl := h1.strV
    exact ⟨a, _, rfl, ha, rfl⟩
theorem ek1 : ("redo" : Str) ≠ "undo" := by decide +kernel
theorem ek2 : ("inner" : Str) ≠ "undo" := by decide +kernel
theorem ek3 : ("inner" : Str) ≠ "redo" := by decide +kernel
theorem dkA : ∀ k ∈ (["put", "drop", "turn", "chain"] : List Str), k ≠ "undo" ∧ k ≠ "redo" ∧ k ≠ "inner" := by decide +kernel
theorem dk1 (d : Deed) : itemK (.deed d) ≠ "undo" ∧ itemK (.deed d) ≠ "redo" ∧ itemK (.deed d) ≠ "inner" := dkA _ (by cases d <;> simp [itemK])
def recOf : Nat → PlayT
  | 0 => fun _ m => (m, [])
  | d + 1 => play d
theorem play_rec (d : Nat) : play d = playW (recOf d) := by cases d <;> rfl
/-! ### the model on its way -/
structure MGo (T : List (Addr × Str)) (q a b l : Addr) (F H : Hp) (m' : Mst) (os' : List Obs) (F' H' : Hp) (b' : Addr) : Prop where
  e : Ev T (pS l (mS q a b)) F H F' H'
  bb : b' = b ∨ H b' = none
  md : ModelAt F' H' q a b' m'
  sn : SeenAt F' H' l os'
section
variable {T : List (Addr × Str)} {F H F1 H1 F2 H2 : Hp} {q a b b1 b2 l : Addr} {m m1 m2 : Mst} {os os1 os2 : List Obs}
theorem ps_sub (bb : b1 = b ∨ H b1 = none) (x : Addr) (hx : pS l (mS q a b1) x) : pS l (mS q a b) x ∨ H x = none := by
  rcases hx with z | z | z | z
  · exact .inl (.inl z)
  · exact .inl (.inr (.inl z))
  · exact .inl (.inr (.inr (.inl z)))
  · rcases bb with c | c
    · exact .inl (.inr (.inr (.inr (z.trans c))))
    · exact .inr (by rw [z]; exact c)
theorem MGo.step (g : MGo T q a b l F H m1 os1 F1 H1 b1) (e : Ev T (pS l (mS q a b1)) F1 H1 F2 H2) (bb : b2 = b1 ∨ H1 b2 = none) (md : ModelAt F2 H2 q a b2 m2) (sn : SeenAt F2 H2 l os2) : MGo T q a b l F H m2 os2 F2 H2 b2 := by
  refine ⟨g.e.trans e (fun _ z => z) (ps_sub g.bb), ?_, md, sn⟩
  rcases bb with c | c
  · rw [c]
    exact g.bb
  · exact .inr (g.e.fr c)
theorem MGo.lb (g : MGo T q a b l F H m1 os1 F1 H1 b1) (h : l ≠ b) (hl : H l ≠ none) : l ≠ b1 := by
  rcases g.bb with c | c
  · rw [c]
    exact h
  · exact fun e => hl (by rw [e]; exact c)
theorem MGo.refl (w : Wd T F H) (md : ModelAt F H q a b m) (sn : SeenAt F H l os) : MGo T q a b l F H m os F H b := ⟨Ev.refl w, .inl rfl, md, sn⟩
theorem ModelAt.lq (md : ModelAt F H q a b m) (sn : SeenAt F H l os) : l ≠ q := by
  obtain ⟨v, xs, ys, h⟩ := md
  obtain ⟨zs, k⟩ := sn
  intro e
  have := h.hq
  rw [← e, k.hl] at this
  cases this
/-- an entry more, the model as it was -/
theorem MGo.see {r : V} {o : Obs} {xs : List V} (g : MGo T q a b l F H m1 os1 F1 H1 b1) (sx : SeenX F1 H1 l os1 xs) (la : l ≠ a) (lb : l ≠ b1) (hr : DT F1 r (obsD o)) : MGo T q a b l F H m1 (os1 ++ [o]) F1 (upd H1 l (.lst (xs ++ [r]))) b1 := by
  obtain ⟨e1, s1⟩ := K64.see g.e.wd sx hr
  refine g.step (e1.to fun x hx => .inl (.inl hx)) (.inl rfl) (g.md.ev e1 ?_ ?_ ?_) ⟨_, s1⟩
  · exact fun z => g.md.lq g.sn z.symm
  · exact fun z => la z.symm
  · exact fun z => lb z.symm
end
section
variable {P : Program} {w : World} {K : PySem.W.Frag} {mg : Str → Option Value} {base : Heap} {A : Ad} {Tb : List (Addr × Str)}
/-- the state is put by, another comes -/
theorem change_core {F H : Hp} {q a b : Addr} {m : Mst} {st' : Bst} {v' : V} {σ : L2.St} {D : Ends} {tv : TE} (W0 : Wd Tb F H) (h : ModelAt F H q a b m) (hv' : DT F v' (bstD st')) (hlen : m.past.length ≤ 100000) (h0 : σ[0]? = some (some (.ref q)))
    (htv : ∀ F' H', Ev Tb (mS q a b) F H F' H' → ∀ Q : VK, Q v' H' → tv σ H' Q)
    (k : ∀ F' H' b', H b' = none → Ev Tb (mS q a b) F H F' H' → ModelAt F' H' q a b' ⟨st', m.past ++ [m.st], []⟩ → D.nx σ H') :
    (tSeq (tDrop (tBM K "list" rAppend (tDGet (tVar 0) (tC (V.str "past"))) (tCons (tDGet (tVar 0) (tC (V.str "state"))) tNil)))
      (tSeq (sDPut (tVar 0) (tC (V.str "future")) (tLst tNil)) (sDPut (tVar 0) (tC (V.str "state")) tv))) D σ H := by
  obtain ⟨v, xs, ys, h⟩ := h
  have lx : xs.length = m.past.length := by rw [h.hx.length, List.length_map]
  refine ⟨_, h0, q, .ref a, rfl, ModelX.g1 h.hq, .inl ⟨rfl, _, SqL.of h.ha⟩, _, h0, q, v, rfl, ModelX.g0 h.hq, a, xs, v, rfl, rfl, h.ha, szL (by omega), ?_⟩
  have e1 : Ev Tb (mS q a b) F H F (upd H a (.lst (xs ++ [v]))) := Ev.set W0 h.ha h.fa (fun _ z => by cases z) (fun _ z => by cases z) (.inr (.inl rfl))
  have hq1 : upd H a (.lst (xs ++ [v])) q = some (.dK (modL v a b)) := by rw [upd_ne h.qa]; exact h.hq
  have ha1 : upd H a (.lst (xs ++ [v])) a = some (.lst (xs ++ [v])) := upd_same
  refine ⟨sz0, fun b' hb' => ?_⟩
  have e2 : Ev Tb S0 F (upd H a (.lst (xs ++ [v]))) F (upd (upd H a (.lst (xs ++ [v]))) b' (.lst [])) := Ev.new e1.wd hb'
  have hq2 := e2.kp hq1
  have ha2 := e2.kp ha1
  have hb2 : upd (upd H a (.lst (xs ++ [v]))) b' (.lst []) b' = some (.lst []) := upd_same
  have nb : b' ≠ a := fun z => by rw [z, ha1] at hb'; cases hb'
  have nq : b' ≠ q := fun z => by rw [z, hq1] at hb'; cases hb'
  refine ⟨_, h0, q, _, rfl, ModelX.p2 b' hq2, ?_⟩
  have e3 : Ev Tb (mS q a b) F _ F (upd (upd (upd H a (.lst (xs ++ [v]))) b' (.lst [])) q (.dK (modL v a b'))) := Ev.set e2.wd hq2 h.fq (fun _ z => by cases z) (fun _ z => by cases z) (.inl rfl)
  have hq3 : upd (upd (upd H a (.lst (xs ++ [v]))) b' (.lst [])) q (.dK (modL v a b')) q = some (.dK (modL v a b')) := upd_same
  have ha3 : upd (upd (upd H a (.lst (xs ++ [v]))) b' (.lst [])) q (.dK (modL v a b')) a = some (.lst (xs ++ [v])) := by rw [upd_ne (Ne.symm h.qa)]; exact ha2
  have hb3 : upd (upd (upd H a (.lst (xs ++ [v]))) b' (.lst [])) q (.dK (modL v a b')) b' = some (.lst []) := by rw [upd_ne nq]; exact hb2
  have e13 := (e1.trans0 e2).then e3
  refine htv F _ e13 _ ⟨_, h0, q, _, rfl, ModelX.p0 v' hq3, ?_⟩
  have e4 : Ev Tb (mS q a b) F _ F (upd (upd (upd (upd H a (.lst (xs ++ [v]))) b' (.lst [])) q (.dK (modL v a b'))) q (.dK (modL v' a b'))) := Ev.set e13.wd hq3 h.fq (fun _ z => by cases z) (fun _ z => by cases z) (.inl rfl)
  refine k F _ b' (e1.fr hb') (e13.then e4) ⟨v', xs ++ [v], [], upd_same, hv', ?_, ?_, ?_, .nil, h.fq, h.fa, W0.none (e1.fr hb'), fun z => nb z.symm⟩
  · rw [upd_ne (Ne.symm h.qa)]
    exact ha3
  · rw [upd_ne nq]
    exact hb3
  · show DTs F (xs ++ [v]) ((m.past ++ [m.st]).map bstD)
    rw [List.map_append]
    exact h.hx.snoc h.hv
abbrev s__law_model_play : Stmt := top 76
abbrev N__law_model_play : List Str := [("_law_model" : Str), ("_law_items_here" : Str), ("_law_seen" : Str), ("_law_item" : Str), ("_law_state" : Str), ("_law_told" : Str)]
abbrev P__law_model_play : List Str := [("_law_model" : Str), ("_law_items_here" : Str), ("_law_seen" : Str)]
theorem sc__law_model_play : FnScope N__law_model_play P__law_model_play (defScope s__law_model_play) := ⟨rfl, rfl, rfl, by decide +kernel, rfl, by decide +kernel, by decide +kernel⟩
theorem bd__law_model_play {K : PySem.W.Frag} {f : Addr} {fd : FuncData} (F : L2.Fun K "_law_model_play" "_law_model_play" s__law_model_play f fd) : Binds K fd P__law_model_play [] := F.binds fun _ _ _ _ _ _ us hl => match us, hl with | [_, _, _], _ => rfl

abbrev s__law_model_called : Stmt := top 77
abbrev N__law_model_called : List Str := [("_law_model" : Str), ("_law_items_here" : Str), ("_law_end" : Str), ("_law_seen" : Str), ("_law_inner" : Str)]
abbrev P__law_model_called : List Str := [("_law_model" : Str), ("_law_items_here" : Str), ("_law_end" : Str), ("_law_seen" : Str)]
theorem sc__law_model_called : FnScope N__law_model_called P__law_model_called (defScope s__law_model_called) := ⟨rfl, rfl, rfl, by decide +kernel, rfl, by decide +kernel, by decide +kernel⟩
theorem bd__law_model_called {K : PySem.W.Frag} {f : Addr} {fd : FuncData} (F : L2.Fun K "_law_model_called" "_law_model_called" s__law_model_called f fd) : Binds K fd P__law_model_called [] := F.binds fun _ _ _ _ _ _ us hl => match us, hl with | [_, _, _, _], _ => rfl

def spMPlay (Tb : List (Addr × Str)) (d : Nat) : Sp := fun vs H Q _ => ∃ (F : Hp) (q a b l : Addr) (m : Mst) (os : List Obs) (its : List Item) (v : V), vs = [.ref q, v, .ref l] ∧ Wd Tb F H ∧ ModelAt F H q a b m ∧ SeenAt F H l os ∧ l ≠ a ∧ l ≠ b ∧ DT F v (itemsD its) ∧ ItemsOk d its ∧ MV m ∧ m.past.length + m.fut.length ≤ 10000 ∧ os.length + seenB d ≤ 500000 ∧
  ∀ F' H' b', MGo Tb q a b l F H (play d its m).1 (os ++ (play d its m).2) F' H' b' → Q .non H'
def spMCalled (Tb : List (Addr × Str)) (d : Nat) : Sp := fun vs H Q _ => ∃ (F : Hp) (q a b l : Addr) (m : Mst) (os : List Obs) (its : List Item) (e : Str) (v : V), vs = [.ref q, v, .str e, .ref l] ∧ Wd Tb F H ∧ ModelAt F H q a b m ∧ SeenAt F H l os ∧ l ≠ a ∧ l ≠ b ∧ DT F v (itemsD its) ∧ ItemsOk d its ∧ MV m ∧ m.past.length + m.fut.length ≤ 10100 ∧ os.length + seenB d ≤ 500000 ∧ (e = ("" : Str) ∨ e = ("key" : Str) ∨ e = ("name" : Str)) ∧
  ∀ F' H' b' r, MGo Tb q a b l F H (called (play d) m its e).1 (os ++ (called (play d) m its e).2.1) F' H' b' → DT F' r (obsD (called (play d) m its e).2.2) → Q r H'
def spMCalledR (Tb : List (Addr × Str)) : Nat → Sp
  | 0 => spNo
  | d + 1 => spMCalled Tb d
def MPv (Tb : List (Addr × Str)) (q a b l : Addr) (F H : Hp) (d : Nat) (its : List Item) (m : Mst) (os : List Obs) (v : V) (i : Nat) : L2.St → Hp → Prop := fun σ H' => ∃ (F' : Hp) (b' : Addr) (c3 c4 c5 : Option V), σ = [some (.ref q), some v, some (.ref l), c3, c4, c5] ∧ MGo Tb q a b l F H (playW (recOf d) (its.take i) m).1 (os ++ (playW (recOf d) (its.take i) m).2) F' H' b'
theorem ok_mplay {d j : Nat} {f : Addr} {fd : FuncData} (F : L2.Fun K "_law_model_play" "_law_model_play" s__law_model_play f fd) (T : Txt P K mg A) (F__law_model_step : FnG P w K mg base CX0 1 "_law_model_step" P__law_model_step (spMStep Tb)) (F__law_due : FnG P w K mg base CX0 3 "_law_due" P__law_due (spDue Tb))
    (F__law_state_text : FnG P w K mg base CX0 3 "_law_state_text" P__law_state_text (spStateText Tb)) (F__law_model_called : FnG P w K mg base CX0 (j + 3) "_law_model_called" P__law_model_called (spMCalledR Tb d)) :
    FnOk P w K mg base CX0 (j + 4) f fd P__law_model_play (spMPlay Tb d) := by
  have sc := sc__law_model_play
  refine F.ok sc (fun vs H Q E h => ?_) (fun cdv AA outer s H vs Q E hr h => ?_)
  · obtain ⟨F, q, a, b, l, m, os, its, v, rfl, _⟩ := h
    rfl
  · obtain ⟨F, q, a, b, l, m, os, its, v, rfl, W0, hmd, hsn, la, lb, hv, hits, hmv, hlen, hos, k⟩ := h
    refine ⟨_, (pss_one (ps_for PassesOwn.never rfl (pi_listK (K := K) (pv 1)) (pg_name (i := 3) sc.nd rfl (Or.inl rfl))
      (pss_cons (ps_if (pt_cmpR op_eq (pe_ix (ix_tupK (K := K)) (pv 3) pe_int (fun _ _ => rfl)) pe_str (nomark _)) (pss_one (ps_expr (pe_bmK (K := K) PySem.F.plainAttrs_list PySem.F.slot_list_append PySem.F.type_list_append mt_append (pv 2) (pa_cons (pe_fn0 (hk := by omega) F__law_model_step hr (pa_cons (pv 0) (pa_cons pe_str (pa_cons pe_str pa_nil)))) pa_nil)))) (pss_one (ps_if (pt_cmpR op_eq (pe_ix (ix_tupK (K := K)) (pv 3) pe_int (fun _ _ => rfl)) pe_str (nomark _)) (pss_one (ps_expr (pe_bmK (K := K) PySem.F.plainAttrs_list PySem.F.slot_list_append PySem.F.type_list_append mt_append (pv 2) (pa_cons (pe_fn0 (hk := by omega) F__law_model_step hr (pa_cons (pv 0) (pa_cons pe_str (pa_cons pe_str pa_nil)))) pa_nil)))) (pss_one (ps_if (pt_cmpR op_eq (pe_ix (ix_tupK (K := K)) (pv 3) pe_int (fun _ _ => rfl)) pe_str (nomark _)) (pss_one (ps_expr (pe_bmK (K := K) PySem.F.plainAttrs_list PySem.F.slot_list_append PySem.F.type_list_append mt_append (pv 2) (pa_cons (pe_fn0 (hk := by omega) F__law_model_called hr (pa_cons (pv 0) (pa_cons (pe_ix (ix_tupK (K := K)) (pv 3) pe_int (fun _ _ => rfl)) (pa_cons (pe_ix (ix_tupK (K := K)) (pv 3) pe_int (fun _ _ => rfl)) (pa_cons (pv 2) pa_nil))))) pa_nil)))) (pss_cons (ps_asg (pe_fn0 (hk := by omega) F__law_due hr (pa_cons (pe_dget (hu_of hr) (pv 0) pe_str (fun _ _ => rfl)) (pa_cons (pv 3) pa_nil))) (pg_tupK (K := K) (n := 2) (pgs_cons (pg_name (i := 4) sc.nd rfl (Or.inl rfl)) (pgs_cons (pg_name (i := 5) sc.nd rfl (Or.inl rfl)) pgs_nil))))
      (pss_cons (ps_expr (pe_bmK (K := K) PySem.F.plainAttrs_list PySem.F.slot_list_append PySem.F.type_list_append mt_append (pv 2) (pa_cons (pv 5) pa_nil)))
      (pss_one (ps_if (pt_cmpR op_notN (pv 4) pe_non (nomark _)) (pss_cons (ps_expr (pe_bmK (K := K) PySem.F.plainAttrs_list PySem.F.slot_list_append PySem.F.type_list_append mt_append (pe_dget (hu_of hr) (pv 0) pe_str (fun _ _ => rfl)) (pa_cons (pe_dget (hu_of hr) (pv 0) pe_str (fun _ _ => rfl)) pa_nil)))
      (pss_cons (ps_dput (hu_of hr) (pv 0) pe_str (pe_lst pa_nil) rfl)
      (pss_one (ps_dput (hu_of hr) (pv 0) pe_str (pv 4) rfl)))) pss_nil)))))))))
      (pss_one (ps_expr (pe_bmK (K := K) PySem.F.plainAttrs_list PySem.F.slot_list_append PySem.F.type_list_append mt_append (pv 2) (pa_cons (pe_fn0 (hk := by omega) F__law_state_text hr (pa_cons (pe_dget (hu_of hr) (pv 0) pe_str (fun _ _ => rfl)) pa_nil)) pa_nil))))))), ?_⟩
    obtain ⟨av, xs, rfl, hav, hxs⟩ := hv.lstV
    have lxs : xs.length = its.length := by rw [hxs.length, List.length_map]
    have hl0 : H l ≠ none := by
      obtain ⟨zs, z⟩ := hsn
      rw [z.hl]
      intro e
      cases e
    have hrec : ∀ k, d = k + 1 → KeepsP k (recOf d) := fun k' e => by subst e; exact play_kept k'
    have hrs : ∀ k, d = k + 1 → SeesP k (recOf d) := fun k' e => by subst e; exact play_sees k'
    have hst : ∀ i, i ≤ its.length → MV (playW (recOf d) (its.take i) m).1 ∧ (playW (recOf d) (its.take i) m).1.past.length + (playW (recOf d) (its.take i) m).1.fut.length ≤ 10030 ∧ (playW (recOf d) (its.take i) m).2.length ≤ seenB d := by
      intro i hi
      have ho : ∀ it ∈ its.take i, ItemOk d it := fun it h => hits.2 it (List.mem_of_mem_take h)
      have lt : (its.take i).length ≤ 30 := by
        rw [List.length_take]
        have := hits.1
        omega
      have q1 := playW_kept hrec (its.take i) m ho hmv
      have q2 := (play_sees d (its.take i) m ⟨lt, ho⟩ hmv).2
      rw [play_rec] at q2
      exact ⟨q1.v, by have := q1.len; omega, q2⟩
    refine ⟨_, rfl, av, rfl, ⟨_, SqL.of (W0.sub _ _ hav)⟩, ?_⟩
    refine for_list (K := K) (a := av) (xs := xs) (MPv Tb q a b l F H d its m os (.ref av))
      ⟨F, b, none, none, none, rfl, by simpa [playW] using MGo.refl W0 hmd hsn⟩ (fun i σ H' _ ⟨F', b', c3, c4, c5, _, g⟩ => SqL.of (g.e.wd.sub _ _ (g.e.mono _ _ hav))) ?_ ?_
    · rintro i x σ H' hx ⟨F', b', c3, c4, c5, rfl, g⟩
      obtain ⟨it, hit, hxd⟩ := dts_get hxs hx
      have hi : i < its.length := (List.getElem?_eq_some_iff.mp hit).1
      have htake : its.take (i + 1) = its.take i ++ [it] := by rw [List.take_add_one, hit]; rfl
      have hsnoc := play_snoc (recOf d) (its.take i) it m
      rw [← htake] at hsnoc
      obtain ⟨mv1, ml1, sl1⟩ := hst i (by omega)
      obtain ⟨mv2, ml2, sl2⟩ := hst (i + 1) (by omega)
      have hok := hits.2 it (List.mem_of_getElem? hit)
      have hxd1 := g.e.dt hxd
      have lb1 := g.lb lb hl0
      have fin : ∀ (D : Ends) F2 H2 b2 m2 os2 c4 c5, (∀ σ H', MPv Tb q a b l F H d its m os (.ref av) (i + 1) σ H' → D.nx σ H') → MGo Tb q a b l F H m2 os2 F2 H2 b2 → m2 = (playW (recOf d) (its.take (i + 1)) m).1 → os2 ++ [.txt (stText m2.st)] = os ++ (playW (recOf d) (its.take (i + 1)) m).2 →
          tDrop (tBM K "list" rAppend (tVar 2) (tCons (tCallS (spStateText Tb) (fun _ => E0) (tCons (tDGet (tVar 0) (tC (V.str "state"))) tNil)) tNil)) D [some (.ref q), some (.ref av), some (.ref l), some x, c4, c5] H2 := by
        intro D F2 H2 b2 m2 os2 c4 c5 hD g2 em eo
        subst em
        have lb2 := g2.lb lb hl0
        obtain ⟨v2, xs2, ys2, h2⟩ := g2.md
        obtain ⟨zs, hz⟩ := g2.sn
        have sv2 := mv2.st
        refine ⟨_, rfl, .inl ⟨rfl, _, SqL.of hz.hl⟩, _, rfl, q, v2, rfl, ModelX.g0 h2.hq, F2, v2, _, rfl, g2.e.wd, h2.hv, sv2, fun F3 H3 e3 => ?_⟩
        have g3 := g2.step (e3.to0) (.inl rfl) (g2.md.ev e3 (fun z => z) (fun z => z) (fun z => z)) (g2.sn.ev e3 (fun z => z))
        have hz3 := hz.ev e3 (fun z => z)
        have lz : zs.length ≤ 600000 := by
          have e1 : zs.length = os2.length := by rw [hz.hx.length, List.length_map]
          have e2 := congrArg List.length eo
          rw [List.length_append, List.length_append] at e2
          omega
        refine ⟨l, zs, _, rfl, rfl, hz3.hl, szL (by omega), hD _ _ ⟨F3, b2, _, _, _, rfl, ?_⟩⟩
        have g4 := g3.see hz3 la lb2 (o := .txt (stText (playW (recOf d) (its.take (i + 1)) m).1.st)) (.str _)
        rw [eo] at g4
        exact g4
      obtain ⟨ax, ws, rfl, hax, hw0⟩ := item_head hxd1
      have hsx : SqT K H' ax ws := SqT.of (g.e.wd.sub _ _ hax)
      obtain ⟨zs, hz⟩ := g.sn
      have lz : zs.length ≤ 500000 := by
        have e1 := hz.hx.length
        rw [List.length_map, List.length_append] at e1
        omega
      obtain ⟨vm, xm, ym, hm⟩ := g.md
      refine ⟨_, rfl, ax, ws, 0, _, rfl, rfl, hsx, atI_nat (j := 0) hw0, rfl, _, rfl, ?_⟩
      rw [dec_str]
      cases it with
      | undo =>
        rw [decide_eq_true (show itemK .undo = ("undo" : Str) from rfl)]
        refine itT rfl ⟨_, rfl, .inl ⟨rfl, _, SqL.of hz.hl⟩, _, rfl, F', q, a, b', _, true, rfl, g.e.wd, g.md, mv1, by omega, fun F2 H2 r2 e2 md2 hr2 => ?_⟩
        have hz2 := hz.ev e2 (fun z => Or.elim z (g.md.lq g.sn) fun z => Or.elim z la lb1)
        have g2 := g.step (e2.to fun x hx => .inl (.inr hx)) (.inl rfl) md2 ⟨zs, hz2⟩
        refine ⟨l, zs, _, rfl, rfl, hz2.hl, szL (by omega), ?_⟩
        refine fin _ _ _ b' _ _ c4 c5 (fun σ H' h => h) (g2.see hz2 la lb1 hr2) ?_ ?_
        · rw [hsnoc]; rfl
        · rw [hsnoc, List.append_assoc, List.append_assoc]; rfl
      | redo =>
        rw [decide_eq_false (show ¬ itemK .redo = ("undo" : Str) from ek1)]
        refine itF rfl ⟨_, rfl, ax, ws, 0, _, rfl, rfl, hsx, atI_nat (j := 0) hw0, rfl, _, rfl, ?_⟩
        rw [dec_str, decide_eq_true (show itemK .redo = ("redo" : Str) from rfl)]
        refine itT rfl ⟨_, rfl, .inl ⟨rfl, _, SqL.of hz.hl⟩, _, rfl, F', q, a, b', _, false, rfl, g.e.wd, g.md, mv1, by omega, fun F2 H2 r2 e2 md2 hr2 => ?_⟩
        have hz2 := hz.ev e2 (fun z => Or.elim z (g.md.lq g.sn) fun z => Or.elim z la lb1)
        have g2 := g.step (e2.to fun x hx => .inl (.inr hx)) (.inl rfl) md2 ⟨zs, hz2⟩
        refine ⟨l, zs, _, rfl, rfl, hz2.hl, szL (by omega), ?_⟩
        refine fin _ _ _ b' _ _ c4 c5 (fun σ H' h => h) (g2.see hz2 la lb1 hr2) ?_ ?_
        · rw [hsnoc]; rfl
        · rw [hsnoc, List.append_assoc, List.append_assoc]; rfl
      | inner its2 e2 =>
        rw [decide_eq_false (show ¬ itemK (.inner its2 e2) = ("undo" : Str) from ek2)]
        refine itF rfl ⟨_, rfl, ax, ws, 0, _, rfl, rfl, hsx, atI_nat (j := 0) hw0, rfl, _, rfl, ?_⟩
        rw [dec_str, decide_eq_false (show ¬ itemK (.inner its2 e2) = ("redo" : Str) from ek3)]
        refine itF rfl ⟨_, rfl, ax, ws, 0, _, rfl, rfl, hsx, atI_nat (j := 0) hw0, rfl, _, rfl, ?_⟩
        rw [dec_str, decide_eq_true (show itemK (.inner its2 e2) = ("inner" : Str) from rfl)]
        rw [itemD, itemsL_map] at hxd1
        obtain ⟨ay, y1, y2, y3, ey, hay, hy1, hy2, hy3⟩ := DT.trip hxd1
        cases ey
        rw [hax] at hay
        cases hay
        obtain rfl := hy3.strV
        cases d with
        | zero => exact (show False from hok).elim
        | succ d' =>
          obtain ⟨oke, ok1, ok2⟩ := (show _ ∧ _ ∧ _ from hok)
          have sB : seenB (d' + 1) = 60 + 30 * seenB d' := rfl
          have lo : (os ++ (playW (recOf (d' + 1)) (its.take i) m).2).length + seenB d' ≤ 500000 := by
            have q := (playW_sees hrec hrs (its.take i) m (fun it h => hits.2 it (List.mem_of_mem_take h)) hmv).2
            have q1 : (its.take i).length ≤ 29 := by
              rw [List.length_take]
              have := hits.1
              omega
            have q2 := Nat.mul_le_mul_right (itS (d' + 1)) q1
            have q3 : itS (d' + 1) = 2 + seenB d' := rfl
            rw [q3] at q q2
            rw [List.length_append]
            omega
          refine itT rfl ⟨_, rfl, .inl ⟨rfl, _, SqL.of hz.hl⟩, _, rfl, _, rfl, ax, _, 1, _, rfl, rfl, hsx, atI_nat (j := 1) rfl, _, rfl, ax, _, 2, _, rfl, rfl, hsx, atI_nat (j := 2) rfl, _, rfl, F', q, a, b', l, _, _, its2, e2, y2, rfl, g.e.wd, g.md, g.sn, la, lb1, hy2, ⟨ok1, ok2⟩, mv1, by omega, lo, oke, fun F2 H2 b2 r2 g2 hr2 => ?_⟩
          have gg := g.step g2.e g2.bb g2.md g2.sn
          have lb2 := gg.lb lb hl0
          obtain ⟨zs2, hz2⟩ := g2.sn
          have lz2 : zs2.length ≤ 600000 := by
            have q := (play_sees d' its2 ⟨(playW (recOf (d' + 1)) (its.take i) m).1.st, [], []⟩ ⟨ok1, ok2⟩ mv1.fresh).2
            have e1 := hz2.hx.length
            rw [List.length_map, List.length_append] at e1
            have e3 : (called (play d') (playW (recOf (d' + 1)) (its.take i) m).1 its2 e2).2.1 = (play d' its2 ⟨(playW (recOf (d' + 1)) (its.take i) m).1.st, [], []⟩).2 := rfl
            rw [e3] at e1
            omega
          refine ⟨l, zs2, _, rfl, rfl, hz2.hl, szL (by omega), ?_⟩
          refine fin _ _ _ b2 _ _ c4 c5 (fun σ H' h => h) (gg.see hz2 la lb2 hr2) ?_ ?_
          · rw [hsnoc]; rfl
          · rw [hsnoc]
            simp only [List.append_assoc]
            rfl
      | deed dd =>
        obtain ⟨n1, n2, n3⟩ := dk1 dd
        rw [decide_eq_false n1]
        refine itF rfl ⟨_, rfl, ax, ws, 0, _, rfl, rfl, hsx, atI_nat (j := 0) hw0, rfl, _, rfl, ?_⟩
        rw [dec_str, decide_eq_false n2]
        refine itF rfl ⟨_, rfl, ax, ws, 0, _, rfl, rfl, hsx, atI_nat (j := 0) hw0, rfl, _, rfl, ?_⟩
        rw [dec_str, decide_eq_false n3]
        have okd : DeedOk dd := by cases d <;> exact hok
        rw [itemD] at hxd1
        refine itF rfl ?_
        refine ⟨_, rfl, q, vm, rfl, ModelX.g0 hm.hq, _, rfl, F', vm, .ref ax, _, dd, rfl, g.e.wd, hm.hv, hxd1, mv1.st, okd, fun F2 H2 r2 e2 hr2 => ?_⟩
        obtain ⟨a2, x2, y2, rfl, ha2, hx2, hy2⟩ := DT.pair hr2
        refine ⟨a2, _, rfl, SqT.of (e2.wd.sub _ _ ha2), rfl, _, _, rfl, _, _, rfl, rfl, ?_⟩
        have g2 := g.step (e2.to0) (.inl rfl) (g.md.ev e2 (fun z => z) (fun z => z) (fun z => z)) (g.sn.ev e2 (fun z => z))
        have hz2 := hz.ev e2 (fun z => z)
        refine ⟨_, rfl, .inl ⟨rfl, _, SqL.of hz2.hl⟩, _, rfl, l, zs, _, rfl, rfl, hz2.hl, szL (by omega), ?_⟩
        have g3 := g2.see hz2 la lb1 hy2
        have hm3 := g3.md
        refine ⟨_, rfl, rfl, _, rfl, ?_⟩
        cases hdue : due (playW (recOf d) (its.take i) m).1.st dd with
        | mk ost oo =>
          have edm : (itemM (recOf d) (.deed dd) (playW (recOf d) (its.take i) m).1) = ((deedM (playW (recOf d) (its.take i) m).1 dd).1, [(deedM (playW (recOf d) (its.take i) m).1 dd).2, .txt (stText (deedM (playW (recOf d) (its.take i) m).1 dd).1.st)]) := rfl
          rw [hdue] at hx2 g3
          cases ost with
          | none =>
            obtain rfl := hx2.nonV
            have ed : deedM (playW (recOf d) (its.take i) m).1 dd = ((playW (recOf d) (its.take i) m).1, oo) := by unfold deedM; rw [hdue]
            refine itF (by simp) ?_
            refine fin _ _ _ b' _ _ _ _ (fun σ H' h => h) g3 ?_ ?_
            · rw [hsnoc, edm, ed]
            · rw [hsnoc, edm, ed]
              simp only [List.append_assoc]
              rfl
          | some st' =>
            have hne : x2 ≠ .non := by
              obtain ⟨a3, x3, rfl, _⟩ := DT.lstV hx2
              intro e
              cases e
            have ed : deedM (playW (recOf d) (its.take i) m).1 dd = (⟨st', (playW (recOf d) (its.take i) m).1.past ++ [(playW (recOf d) (its.take i) m).1.st], []⟩, oo) := by unfold deedM; rw [hdue]
            refine itT (by simp [hne]) ?_
            refine change_core (K := K) g3.e.wd g3.md hx2 (by omega) rfl (fun F4 H4 e4 Q' hq => ⟨_, rfl, hq⟩) fun F4 H4 b4 hb4 e4 md4 => ?_
            have sn4 := g3.sn.ev e4 (fun z => Or.elim z (g3.md.lq g3.sn) fun z => Or.elim z la lb1)
            have g4 := g3.step (e4.to fun x hx => .inl (.inr hx)) (.inr hb4) md4 sn4
            refine fin _ _ _ b4 _ _ _ _ (fun σ H' h => h) g4 ?_ ?_
            · rw [hsnoc, edm, ed]
            · rw [hsnoc, edm, ed]
              simp only [List.append_assoc]
              rfl
    · rintro σ H' ⟨F', b', c3, c4, c5, rfl, g⟩
      rw [lxs, List.take_length, ← play_rec] at g
      exact k F' H' b' g
end
end K64
/-! ## KD13 -/
set_option Elab.async false
set_option linter.all false
set_option maxRecDepth 100000
set_option maxHeartbeats 2000000
namespace K64
open PySem PySem.Spec PyProof.Rows L2 LamX
theorem key_ne : ("key" : Str) ≠ "" := by decide +kernel
theorem name_ne : ("name" : Str) ≠ "" := by decide +kernel
theorem name_key : ("name" : Str) ≠ "key" := by decide +kernel
section
variable {P : Program} {w : World} {K : PySem.W.Frag} {mg : Str → Option Value} {base : Heap} {A : Ad} {Tb : List (Addr × Str)}
theorem ok_mcalled {d j : Nat} {f : Addr} {fd : FuncData} (F : L2.Fun K "_law_model_called" "_law_model_called" s__law_model_called f fd) (T : Txt P K mg A) (F__law_model_play : FnG P w K mg base CX0 (j + 4) "_law_model_play" P__law_model_play (spMPlay Tb d)) :
    FnOk P w K mg base CX0 (j + 5) f fd P__law_model_called (spMCalled Tb d) := by
  have sc := sc__law_model_called
  refine F.ok sc (fun vs H Q E h => ?_) (fun cdv AA outer s H vs Q E hr h => ?_)
  · obtain ⟨F, q, a, b, l, m, os, its, e, v, rfl, _⟩ := h
    rfl
  · obtain ⟨F, q, a, b, l, m, os, its, e, v, rfl, W0, hmd, hsn, la, lb, hv, hits, hmv, hlen, hos, he, k⟩ := h
    refine ⟨_, (pss_cons (ps_set (i := 4) sc.nd rfl (Or.inl rfl) (pe_disp (pps_cons pe_str (pe_dget (hu_of hr) (pv 0) pe_str (fun _ _ => rfl)) (pps_cons pe_str (pe_lst pa_nil) (pps_cons pe_str (pe_lst pa_nil) pps_nil))) (by rfl) (by rfl) (fun z => by cases z) (by decide)))
      (pss_cons (ps_expr (pe_fn0 (hk := by omega) F__law_model_play hr (pa_cons (pv 4) (pa_cons (pv 1) (pa_cons (pv 3) pa_nil)))))
      (pss_cons (ps_if (pt_cmpR op_ne (pv 2) pe_str (nomark _)) (pss_one (ps_ret (pe_ifExp (pt_cmpR op_eq (pv 2) pe_str (nomark _)) pe_str pe_str))) pss_nil)
      (pss_cons (ps_if (pt_cmpR (op_neDK (K := K) hr.units) (pe_dget (hu_of hr) (pv 4) pe_str (fun _ _ => rfl)) (pe_lst pa_nil) (nomark _)) (pss_cons (ps_expr (pe_bmK (K := K) PySem.F.plainAttrs_list PySem.F.slot_list_append PySem.F.type_list_append mt_append (pe_dget (hu_of hr) (pv 0) pe_str (fun _ _ => rfl)) (pa_cons (pe_dget (hu_of hr) (pv 0) pe_str (fun _ _ => rfl)) pa_nil)))
      (pss_cons (ps_dput (hu_of hr) (pv 0) pe_str (pe_lst pa_nil) rfl)
      (pss_one (ps_dput (hu_of hr) (pv 0) pe_str (pe_dget (hu_of hr) (pv 4) pe_str (fun _ _ => rfl)) rfl)))) pss_nil)
      (pss_one (ps_ret (pe_tup (pa_cons pe_str (pa_cons (pe_callB (call_len_seqK (K := K)) (by rfl) T.z_len PySem.boot_len (pa_cons (pv 1) pa_nil)) pa_nil))))))))), ?_⟩
    have hl0 : H l ≠ none := by
      obtain ⟨zs, z⟩ := hsn
      rw [z.hl]
      intro e
      cases e
    obtain ⟨vm, xm, ym, hm⟩ := hmd
    intro p hp
    have e1 : Ev Tb S0 F H F (upd H p (.dK [])) := Ev.new W0 hp
    refine ⟨_, rfl, q, vm, rfl, ModelX.g0 (e1.kp hm.hq), sz0, fun a' ha' => ?_⟩
    have e2 : Ev Tb S0 F (upd H p (.dK [])) F (upd (upd H p (.dK [])) a' (.lst [])) := Ev.new e1.wd ha'
    refine ⟨sz0, fun b' hb' => ?_⟩
    have e3 : Ev Tb S0 F (upd (upd H p (.dK [])) a' (.lst [])) F (upd (upd (upd H p (.dK [])) a' (.lst [])) b' (.lst [])) := Ev.new e2.wd hb'
    have p1 : upd H p (.dK []) p = some (.dK []) := upd_same
    have p3 := e3.kp (e2.kp p1)
    have a2 : upd (upd H p (.dK [])) a' (.lst []) a' = some (.lst []) := upd_same
    have a3 := e3.kp a2
    have b3 : upd (upd (upd H p (.dK [])) a' (.lst [])) b' (.lst []) b' = some (.lst []) := upd_same
    have e13 := (e1.trans0 e2).trans0 e3
    refine ⟨p3, [(.inr "state", vm), (.inr "past", .ref a'), (.inr "future", .ref b')], rfl, by show 3 ≤ 15; decide, ?_⟩
    have em : mergeK [] [((.inr "state" : Key), vm), (.inr "past", .ref a'), (.inr "future", .ref b')] = modL vm a' b' := d3_m k_sp k_sf k_pf
    rw [em]
    have fp := W0.none hp
    have fa' := W0.none (e1.fr ha')
    have fb' := W0.none (e1.fr (e2.fr hb'))
    have e4 : Ev Tb (· = p) F _ F (upd (upd (upd (upd H p (.dK [])) a' (.lst [])) b' (.lst [])) p (.dK (modL vm a' b'))) := Ev.set e3.wd p3 fp (fun _ z => by cases z) (fun _ z => by cases z) rfl
    have nab : a' ≠ b' := fun z => by rw [← z, a2] at hb'; cases hb'
    have npa : a' ≠ p := fun z => by rw [z, p1] at ha'; cases ha'
    have npb : b' ≠ p := fun z => by rw [z, e2.kp p1] at hb'; cases hb'
    have e14 : Ev Tb S0 F H F (upd (upd (upd (upd H p (.dK [])) a' (.lst [])) b' (.lst [])) p (.dK (modL vm a' b'))) := e13.trans e4 (fun _ z => z.elim) fun b hb => .inr (by rw [hb]; exact hp)
    have md4 : ModelAt F (upd (upd (upd (upd H p (.dK [])) a' (.lst [])) b' (.lst [])) p (.dK (modL vm a' b'))) p a' b' ⟨m.st, [], []⟩ :=
      ⟨vm, [], [], upd_same, hm.hv, by rw [upd_ne npa]; exact a3, by rw [upd_ne npb]; exact b3, .nil, .nil, fp, fa', fb', nab⟩
    have nl : ∀ x, H x = none → l ≠ x := fun x hx z => hl0 (by rw [z]; exact hx)
    have ha0 : H a' = none := e1.fr ha'
    have hb0 : H b' = none := e1.fr (e2.fr hb')
    refine ⟨_, rfl, _, rfl, _, rfl, F, p, a', b', l, _, os, its, v, rfl, e14.wd, md4, hsn.ev e14 (fun z => z), nl _ ha0, nl _ hb0, hv, hits, hmv.fresh, by simp, hos, fun F5 H5 b5 g5 => ?_⟩
    -- the outer model is as it was
    have e05 : Ev Tb (pS l (mS q a b)) F H F5 H5 := (e14.to0).trans g5.e (fun _ z => z) fun x hx => by
      rcases hx with z | z | z | z
      · exact .inl (.inl z)
      · exact .inr (by rw [z]; exact hp)
      · exact .inr (by rw [z]; exact ha0)
      · exact .inr (by rw [z]; exact hb0)
    have hlq : l ≠ q := ModelAt.lq ⟨vm, xm, ym, hm⟩ hsn
    have in5 : ∀ x, H x ≠ none → x ≠ l → ¬ pS l (mS p a' b') x := fun x hx n z => by
      rcases z with z | z | z | z
      · exact n z
      · exact hx (by rw [z]; exact hp)
      · exact hx (by rw [z]; exact ha0)
      · exact hx (by rw [z]; exact hb0)
    have hm4 := hm.ev e14 (fun z => z) (fun z => z) (fun z => z)
    have hm5 := hm4.ev g5.e (in5 q (by rw [hm.hq]; intro z; cases z) (Ne.symm hlq)) (in5 a (by rw [hm.ha]; intro z; cases z) (Ne.symm la)) (in5 b (by rw [hm.hb]; intro z; cases z) (Ne.symm lb))
    have md5 : ModelAt F5 H5 q a b m := ⟨vm, xm, ym, hm5⟩
    have g : MGo Tb q a b l F H m (os ++ (play d its ⟨m.st, [], []⟩).2) F5 H5 b := ⟨e05, .inl rfl, md5, g5.sn⟩
    have kp := play_kept d its ⟨m.st, [], []⟩ hits hmv.fresh
    refine ⟨_, rfl, rfl, _, rfl, ?_⟩
    show if (!decide (V.str e = V.str "")) = true then _ else _
    rw [dec_str]
    by_cases hend : e = ("" : Str)
    · subst hend
      rw [decide_eq_true rfl]
      refine itF rfl ?_
      obtain ⟨v5, x5, y5, h5⟩ := g5.md
      unfold tNext
      dsimp only
      refine ⟨_, rfl, p, .ref a', rfl, ModelX.g1 h5.hq, sz0, fun z hz => ?_⟩
      have e6 : Ev Tb S0 F5 H5 F5 (upd H5 z (.lst [])) := Ev.new g5.e.wd hz
      have h6 := h5.ev e6 (fun z => z) (fun z => z) (fun z => z)
      have g6 : MGo Tb q a b l F H m (os ++ (play d its ⟨m.st, [], []⟩).2) F5 (upd H5 z (.lst [])) b := g.step (e6.to0) (.inl rfl) (g.md.ev e6 (fun z => z) (fun z => z) (fun z => z)) (g.sn.ev e6 (fun z => z))
      refine ⟨.list ((play d its ⟨m.st, [], []⟩).1.past.map bstD), .list [], .lst (SqL.of h6.ha) (DTs.dp e6.wd.sub _ _ h6.hx), .lst (SqL.of upd_same) .nil, (sh_past kp.v.past).shaped (by decide), shaped_nil, _, rfl, ?_⟩
      rw [eqv_nil]
      -- the end
      have fin : ∀ F7 H7 b7 m7, MGo Tb q a b l F H m7 (os ++ (play d its ⟨m.st, [], []⟩).2) F7 H7 b7 → m7 = closeM m (play d its ⟨m.st, [], []⟩).1 "" → tRet (tTup (tCons (tC (V.str "end")) (tCons (tCB (rLenS K) (tCons (tVar 1) tNil)) tNil))) { nx := fun x H' => Q V.non H', rt := Q } [some (.ref q), some v, some (.str ""), some (.ref l), some (.ref p)] H7 := by
        intro F7 H7 b7 m7 g7 em7
        obtain ⟨av, xs, rfl, hav, hxs⟩ := hv.lstV
        have lxs : xs.length = its.length := by rw [hxs.length, List.length_map]
        refine ⟨_, rfl, av, xs, rfl, .inl (SqL.of (g7.e.wd.sub _ _ (g7.e.mono _ _ hav))), sz2, fun t ht => ?_⟩
        rw [lxs]
        obtain ⟨e8, h8⟩ := new_tup (S := S0) g7.e.wd ht (.cons (.str "end") (.cons (.int (its.length : Int)) .nil))
        subst em7
        exact k _ _ b7 _ (g7.step (e8.to0) (.inl rfl) (g7.md.ev e8 (fun z => z) (fun z => z) (fun z => z)) (g7.sn.ev e8 (fun z => z))) h8
      by_cases hpast : (play d its ⟨m.st, [], []⟩).1.past = []
      · rw [hpast]
        refine itF rfl ?_
        refine fin F5 _ b m g6 ?_
        unfold closeM
        rw [if_pos rfl, if_pos hpast]
      · have hne : ((play d its ⟨m.st, [], []⟩).1.past.map bstD).isEmpty = false := by
          cases q9 : (play d its ⟨m.st, [], []⟩).1.past with
          | nil => exact absurd q9 hpast
          | cons a b => rfl
        rw [hne]
        refine itT rfl ?_
        refine change_core (K := K) g6.e.wd g6.md h6.hv (by omega) rfl (fun F7 H7 e7 Q' hq => ?_) fun F7 H7 b7 hb7 e7 md7 => ?_
        · have n0 : ¬ mS q a b p := fun z => by
            rcases z with z | z | z
            · have := hm.hq; rw [← z, hp] at this; cases this
            · have := hm.ha; rw [← z, hp] at this; cases this
            · have := hm.hb; rw [← z, hp] at this; cases this
          exact ⟨_, rfl, p, v5, rfl, ModelX.g0 (e7.kp h6.hq n0), hq⟩
        · have sn7 := g6.sn.ev e7 (fun z => Or.elim z hlq fun z => Or.elim z la lb)
          have g7 := g6.step (e7.to fun x hx => .inl (.inr hx)) (.inr hb7) md7 sn7
          refine fin F7 H7 b7 _ g7 ?_
          unfold closeM
          rw [if_pos rfl, if_neg hpast]
    · rw [decide_eq_false hend]
      refine itT rfl ?_
      have ec : (called (play d) m its e).1 = m := by
        show closeM m _ e = m
        unfold closeM
        rw [if_neg hend]
      have eo : (called (play d) m its e).2.2 = (if e = ("key" : Str) then .txt "key" else .txt "name 9") := by
        show closeO _ e = _
        unfold closeO
        rw [if_neg hend]
      have es : (called (play d) m its e).2.1 = (play d its ⟨m.st, [], []⟩).2 := rfl
      rw [ec, es, eo] at k
      refine ⟨_, rfl, rfl, _, rfl, ?_⟩
      rw [dec_str]
      by_cases hk : e = ("key" : Str)
      · rw [decide_eq_true hk]
        rw [if_pos hk] at k
        exact itT rfl (k F5 H5 b _ g (.str _))
      · rw [decide_eq_false hk]
        rw [if_neg hk] at k
        exact itF rfl (k F5 H5 b _ g (.str _))
end
end K64
/-! ## KP1 -/
set_option Elab.async false
set_option linter.all false
set_option maxRecDepth 100000
set_option maxHeartbeats 2000000
namespace K64
open PySem PySem.Spec PyProof.Rows L2 LamX
section
variable {P : Program} {w : World} {K : PySem.W.Frag} {mg : Str → Option Value} {base : Heap} {A : Ad} {Tb : List (Addr × Str)}
abbrev s_remainder : Stmt := top 16
abbrev N_remainder : List Str := [("number" : Str), ("by" : Str)]
abbrev P_remainder : List Str := [("number" : Str), ("by" : Str)]
theorem sc_remainder : FnScope N_remainder P_remainder (defScope s_remainder) := ⟨rfl, rfl, rfl, by decide +kernel, rfl, by decide +kernel, by decide +kernel⟩
theorem bd_remainder {K : PySem.W.Frag} {f : Addr} {fd : FuncData} (F : L2.Fun K "remainder" "remainder" s_remainder f fd) : Binds K fd P_remainder [] := F.binds fun _ _ _ _ _ _ us hl => match us, hl with | [_, _], _ => rfl

def spRem : Sp := fun vs H Q _ => ∃ (a b : Int), vs = [.int a, .int b] ∧ b ≠ 0 ∧ Q (.int (a.fmod b)) H
theorem ok_remainder {f : Addr} {fd : FuncData} (F : L2.Fun K "remainder" "remainder" s_remainder f fd) (T : Txt P K mg A) : FnOk P w K mg base CX0 1 f fd P_remainder spRem := by
  have sc := sc_remainder
  refine F.ok sc (fun vs H Q E h => ?_) (fun cdv AA outer s H vs Q E hr h => ?_)
  · obtain ⟨a, b, rfl, _⟩ := h
    rfl
  · obtain ⟨a, b, rfl, hb, k⟩ := h
    refine ⟨_, (pss_one (ps_ret (pe_op op_modN (pe_callTy call_int1 (by rfl) T.z_int (by decide +kernel) (pa_cons (pv 0) pa_nil)) (pv 1)))), ?_⟩
    exact ⟨_, rfl, .inl ⟨_, rfl, _, rfl, _, _, rfl, rfl, hb, k⟩⟩
abbrev s_is_rest_text : Stmt := top 24
abbrev N_is_rest_text : List Str := [("at" : Str), ("of" : Str)]
abbrev P_is_rest_text : List Str := [("at" : Str), ("of" : Str)]
theorem sc_is_rest_text : FnScope N_is_rest_text P_is_rest_text (defScope s_is_rest_text) := ⟨rfl, rfl, rfl, by decide +kernel, rfl, by decide +kernel, by decide +kernel⟩
theorem bd_is_rest_text {K : PySem.W.Frag} {f : Addr} {fd : FuncData} (F : L2.Fun K "is_rest_text" "is_rest_text" s_is_rest_text f fd) : Binds K fd P_is_rest_text [] := F.binds fun _ _ _ _ _ _ us hl => match us, hl with | [_, _], _ => rfl

def spRest (Tb : List (Addr × Str)) : Sp := fun vs H Q _ => ∃ (F : Hp) (x y : Str) (a b : Int), vs = [.str x, .str y] ∧ Wd Tb F H ∧ x ∈ atT ∧ y ∈ ofT ∧ PySem.intText? x = some a ∧ PySem.intText? y = some b ∧ a < b ∧ ∀ F' H', Ev Tb S0 F H F' H' → Q (.bl true) H'
theorem at_len : ∀ x ∈ atT, x.length ≤ 640 := by decide +kernel
theorem of_len : ∀ x ∈ ofT, x.length ≤ 640 := by decide +kernel
theorem sh_len : ∀ x ∈ shiftT, x.length ≤ 640 := by decide +kernel
theorem inV_of (x : Str) : L2.inV (.str x) [V.str "2", V.str "3", V.str "4"] = decide (x ∈ ofT) := inV_str x ofT
theorem inV_at (x : Str) : L2.inV (.str x) [V.str "0", V.str "1", V.str "2", V.str "3"] = decide (x ∈ atT) := inV_str x atT
theorem ok_rest {f : Addr} {fd : FuncData} (F : L2.Fun K "is_rest_text" "is_rest_text" s_is_rest_text f fd) (T : Txt P K mg A) : FnOk P w K mg base CX0 1 f fd P_is_rest_text (spRest Tb) := by
  have sc := sc_is_rest_text
  refine F.ok sc (fun vs H Q E h => ?_) (fun cdv AA outer s H vs Q E hr h => ?_)
  · obtain ⟨F, x, y, a, b, rfl, _⟩ := h
    rfl
  · obtain ⟨F, x, y, a, b, rfl, W0, hx, hy, na, nb, ab, k⟩ := h
    refine ⟨_, (pss_one (ps_ret (pe_and (pe_cmpR (op_in_seqK (K := K)) (pv 1) (pe_tup (pa_cons pe_str (pa_cons pe_str (pa_cons pe_str pa_nil)))) (by with_unfolding_all rfl)) (pe_and (pe_cmpR (op_in_seqK (K := K)) (pv 0) (pe_tup (pa_cons pe_str (pa_cons pe_str (pa_cons pe_str (pa_cons pe_str pa_nil))))) (by with_unfolding_all rfl)) (pe_one (pe_cmpR op_lt (pe_callTy call_int_str (by rfl) T.z_int (by decide +kernel) (pa_cons (pv 0) pa_nil)) (pe_callTy call_int_str (by rfl) T.z_int (by decide +kernel) (pa_cons (pv 1) pa_nil)) (nomark _))))))), ?_⟩
    refine ⟨_, rfl, sz3, fun t ht => ?_⟩
    obtain ⟨e1, h1⟩ := new_tup (S := S0) W0 ht (DTs.ofStrs (F := F) ofT)
    refine ⟨t, _, rfl, .inr (SqT.of upd_same), rfl, rfl, _, rfl, ?_⟩
    refine itT ((inV_of y).trans (decide_eq_true hy)) ?_
    refine ⟨_, rfl, szN (n := 4) (by decide), fun t2 ht2 => ?_⟩
    obtain ⟨e2, h2⟩ := new_tup (S := S0) e1.wd ht2 (DTs.ofStrs (F := upd F t (.tup [V.str "2", .str "3", .str "4"])) atT)
    refine ⟨t2, _, rfl, .inr (SqT.of upd_same), rfl, rfl, _, rfl, ?_⟩
    refine itT ((inV_at x).trans (decide_eq_true hx)) ?_
    refine ⟨_, rfl, x, a, rfl, na, at_len x hx, _, rfl, y, b, rfl, nb, of_len y hy, _, _, rfl, rfl, ?_⟩
    show Q (.bl (decide (a < b))) _
    rw [decide_eq_true ab]
    exact k _ _ (e1.trans0 e2)
abbrev s_is_step_text : Stmt := top 25
abbrev N_is_step_text : List Str := [("text" : Str), ("words" : Str)]
abbrev P_is_step_text : List Str := [("text" : Str)]
theorem sc_is_step_text : FnScope N_is_step_text P_is_step_text (defScope s_is_step_text) := ⟨rfl, rfl, rfl, by decide +kernel, rfl, by decide +kernel, by decide +kernel⟩
theorem bd_is_step_text {K : PySem.W.Frag} {f : Addr} {fd : FuncData} (F : L2.Fun K "is_step_text" "is_step_text" s_is_step_text f fd) : Binds K fd P_is_step_text [] := F.binds fun _ _ _ _ _ _ us hl => match us, hl with | [_], _ => rfl

def spIsStep (Tb : List (Addr × Str)) : Sp := fun vs H Q _ => ∃ (F : Hp) (s : Stp), vs = [.str (stpText s)] ∧ Wd Tb F H ∧ s ∈ allStps ∧ ∀ F' H', Ev Tb S0 F H F' H' → Q (.bl true) H'
theorem sp_len : (" " : Str).length = 1 := by decide +kernel
theorem shk_ne : ∀ k ∈ shiftK, k ≠ ("flip" : Str) := by decide +kernel
theorem kit_str {K : PySem.W.Frag} : PySem.W.kitOne K (.type "str") (.type "str") = some true := kit_ty (by decide +kernel)
theorem ok_is_step {f : Addr} {fd : FuncData} (F : L2.Fun K "is_step_text" "is_step_text" s_is_step_text f fd) (T : Txt P K mg A) (F_is_rest_text : FnG P w K mg base CX0 1 "is_rest_text" P_is_rest_text (spRest Tb)) (F_remainder : FnG P w K mg base CX0 1 "remainder" P_remainder spRem) :
    FnOk P w K mg base CX0 2 f fd P_is_step_text (spIsStep Tb) := by
  have sc := sc_is_step_text
  refine F.ok sc (fun vs H Q E h => ?_) (fun cdv AA outer s H vs Q E hr h => ?_)
  · obtain ⟨F, s, rfl, _⟩ := h
    rfl
  · obtain ⟨F, z, rfl, W0, hz, k⟩ := h
    refine ⟨_, (pss_cons (ps_if (pt_not (pt_val (pe_callB (call_isiK (K := K)) (by rfl) T.z_isinstance (by decide +kernel) (pa_cons (pv 0) (pa_cons (pe_bltn (v := .ty "str") (by rfl) T.z_str (by decide +kernel) rfl) pa_nil))))) (pss_one (ps_ret pe_bl)) pss_nil)
      (pss_cons (ps_if (pt_cmpR (op_in_seqK (K := K)) (pv 0) (pe_glob (v := .ref _) rfl T.g_PLAIN rfl) (by with_unfolding_all rfl)) (pss_one (ps_ret pe_bl)) pss_nil)
      (pss_cons (ps_set (i := 1) sc.nd rfl (Or.inl rfl) (pe_split (pv 0) pe_str))
      (pss_cons (ps_if (pt_cmpR op_eq (pe_ix (ix_listK (K := K)) (pv 1) pe_int (fun _ _ => rfl)) pe_str (nomark _)) (pss_one (ps_ret (pe_and (pe_cmpR op_eq (pe_callB (call_len_seqK (K := K)) (by rfl) T.z_len PySem.boot_len (pa_cons (pv 1) pa_nil)) pe_int (nomark _)) (pe_and (pe_cmpR op_eq (pe_ix (ix_listK (K := K)) (pv 1) pe_int (fun _ _ => rfl)) pe_str (nomark _)) (pe_one (pe_fn0 F_is_rest_text hr (pa_cons (pe_ix (ix_listK (K := K)) (pv 1) pe_int (fun _ _ => rfl)) (pa_cons (pe_ix (ix_listK (K := K)) (pv 1) pe_int (fun _ _ => rfl)) pa_nil)))))))) pss_nil)
      (pss_cons (ps_if (PW.pt (pw_or (pt_cmpR (op_notIn_seqK (K := K)) (pe_ix (ix_listK (K := K)) (pv 1) pe_int (fun _ _ => rfl)) (pe_glob (v := .ref _) rfl T.g_SHIFTED rfl) (by with_unfolding_all rfl)) (pw_or (pt_cmpR op_lt (pe_callB (call_len_seqK (K := K)) (by rfl) T.z_len PySem.boot_len (pa_cons (pv 1) pa_nil)) pe_int (nomark _)) (pw_or1 (pt_cmpR (op_notIn_seqK (K := K)) (pe_ix (ix_listK (K := K)) (pv 1) pe_int (fun _ _ => rfl)) (pe_glob (v := .ref _) rfl T.g_SHIFT_TEXTS rfl) (by with_unfolding_all rfl)))))) (pss_one (ps_ret pe_bl)) pss_nil)
      (pss_cons (ps_if (pt_cmpR op_eq (pe_callB (call_len_seqK (K := K)) (by rfl) T.z_len PySem.boot_len (pa_cons (pv 1) pa_nil)) pe_int (nomark _)) (pss_one (ps_ret pe_bl)) pss_nil)
      (pss_cons (ps_if (PW.pt (pw_or (pt_cmpR op_ne (pe_callB (call_len_seqK (K := K)) (by rfl) T.z_len PySem.boot_len (pa_cons (pv 1) pa_nil)) pe_int (nomark _)) (pw_or (pt_cmpR op_eq (pe_ix (ix_listK (K := K)) (pv 1) pe_int (fun _ _ => rfl)) pe_str (nomark _)) (pw_or (pt_cmpR op_ne (pe_ix (ix_listK (K := K)) (pv 1) pe_int (fun _ _ => rfl)) pe_str (nomark _)) (pw_or1 (pt_cmpR op_ne (pe_ix (ix_listK (K := K)) (pv 1) pe_int (fun _ _ => rfl)) pe_str (nomark _))))))) (pss_one (ps_ret pe_bl)) pss_nil)
      (pss_cons (ps_if (pt_not (pt_val (pe_fn0 F_is_rest_text hr (pa_cons (pe_ix (ix_listK (K := K)) (pv 1) pe_int (fun _ _ => rfl)) (pa_cons (pe_ix (ix_listK (K := K)) (pv 1) pe_int (fun _ _ => rfl)) pa_nil))))) (pss_one (ps_ret pe_bl)) pss_nil)
      (pss_one (ps_ret (pe_or (pe_cmpR op_eq (pe_ix (ix_listK (K := K)) (pv 1) pe_int (fun _ _ => rfl)) pe_str (nomark _)) (pe_one (pe_cmpR op_eq (pe_fn0 F_remainder hr (pa_cons (pe_callTy call_int_str (by rfl) T.z_int (by decide +kernel) (pa_cons (pe_ix (ix_listK (K := K)) (pv 1) pe_int (fun _ _ => rfl)) pa_nil)) (pa_cons (pe_callTy call_int_str (by rfl) T.z_int (by decide +kernel) (pa_cons (pe_ix (ix_listK (K := K)) (pv 1) pe_int (fun _ _ => rfl)) pa_nil)) pa_nil))) pe_int (nomark _)))))))))))))), ?_⟩
    have L := (stpF hz).len
    refine ⟨_, rfl, _, _, _, _, true, rfl, .ty "str", .base (.str _), kit_str, true, rfl, ?_⟩
    refine itF rfl ?_
    refine ⟨_, rfl, A.aPlain, _, rfl, .inr (T.s_PLAIN _), rfl, flat_strs _, _, rfl, ?_⟩
    show if (L2.inV (.str (stpText z)) (plainK.map V.str)) = true then _ else _
    rw [inV_str]
    have spl : ∀ {H : Hp} {l : Addr} {ws : List Str}, H l = some (.lst (ws.map V.str)) → SqL K H l (ws.map V.str) := fun h => SqL.of h
    cases shp hz with
    | plain hb hr' m kk w0 ws e n =>
      rw [decide_eq_true m]
      exact itT rfl (k F H (Ev.refl W0))
    | flip a b hb hr' m kk e ha ho na nb a0 ab b4 =>
      rw [decide_eq_false m]
      refine itF rfl ?_
      refine ⟨_, rfl, ⟨_, rfl⟩, _, _, rfl, rfl, by rw [sp_len]; rfl, szN (by omega), fun p hp => ?_⟩
      have e1 := Ev.new (S := S0) (o := .lst ((Txt.split (stpText z) " ").map V.str)) W0 hp
      have sl : SqL K (upd H p (.lst ((Txt.split (stpText z) " ").map V.str))) p ((wds z).map V.str) := SqL.of upd_same
      rw [e] at sl
      refine ⟨_, rfl, p, _, 0, _, rfl, rfl, sl, atI_nat (j := 0) rfl, rfl, _, rfl, itT rfl ?_⟩
      refine ⟨_, rfl, p, _, rfl, .inl sl, rfl, _, rfl, itT rfl ?_⟩
      refine ⟨_, rfl, p, _, 2, _, rfl, rfl, sl, atI_nat (j := 2) rfl, rfl, _, rfl, itT rfl ?_⟩
      exact ⟨_, rfl, p, _, 1, _, rfl, rfl, sl, atI_nat (j := 1) rfl, _, rfl, p, _, 3, _, rfl, rfl, sl, atI_nat (j := 3) rfl, F, _, _, a, b, rfl, e1.wd, ha, ho, na, nb, ab, fun F' H' e2 => k _ _ (e1.trans0 e2)⟩
    | two i hb hr' m e kk hs ni i0 i1 =>
      rw [decide_eq_false m]
      refine itF rfl ?_
      refine ⟨_, rfl, ⟨_, rfl⟩, _, _, rfl, rfl, by rw [sp_len]; rfl, szN (by omega), fun p hp => ?_⟩
      have e1 := Ev.new (S := S0) (o := .lst ((Txt.split (stpText z) " ").map V.str)) W0 hp
      have sl : SqL K (upd H p (.lst ((Txt.split (stpText z) " ").map V.str))) p ((wds z).map V.str) := SqL.of upd_same
      rw [e] at sl
      refine ⟨_, rfl, p, _, 0, _, rfl, rfl, sl, atI_nat (j := 0) rfl, rfl, _, rfl, ?_⟩
      rw [dec_str, decide_eq_false (shk_ne _ kk)]
      refine itF rfl ?_
      refine ⟨_, rfl, p, _, 0, _, rfl, rfl, sl, atI_nat (j := 0) rfl, A.aShifted, _, rfl, .inr (T.s_SHIFTED _), rfl, flat_strs _, _, rfl, ?_⟩
      show if (!L2.inV (.str z.kind) (shiftK.map V.str)) = true then _ else _
      rw [inV_str, decide_eq_true kk]
      refine itF rfl ?_
      refine ⟨_, rfl, p, _, rfl, .inl sl, _, _, rfl, rfl, _, rfl, itF rfl ?_⟩
      refine ⟨_, rfl, p, _, 1, _, rfl, rfl, sl, atI_nat (j := 1) rfl, A.aShiftT, _, rfl, .inr (T.s_SHIFT_TEXTS _), rfl, flat_strs _, _, rfl, ?_⟩
      show if (!L2.inV (.str (iS i)) (shiftT.map V.str)) = true then _ else _
      rw [inV_str, decide_eq_true hs]
      refine itF rfl ?_
      refine ⟨_, rfl, p, _, rfl, .inl sl, rfl, _, rfl, itT rfl ?_⟩
      exact k _ _ e1
    | six i a b hb hr' m e kk kr hs ni i0 i1 ha ho na nb a0 ab b4 ns =>
      rw [decide_eq_false m]
      refine itF rfl ?_
      refine ⟨_, rfl, ⟨_, rfl⟩, _, _, rfl, rfl, by rw [sp_len]; rfl, szN (by omega), fun p hp => ?_⟩
      have e1 := Ev.new (S := S0) (o := .lst ((Txt.split (stpText z) " ").map V.str)) W0 hp
      have sl : SqL K (upd H p (.lst ((Txt.split (stpText z) " ").map V.str))) p ((wds z).map V.str) := SqL.of upd_same
      rw [e] at sl
      refine ⟨_, rfl, p, _, 0, _, rfl, rfl, sl, atI_nat (j := 0) rfl, rfl, _, rfl, ?_⟩
      rw [dec_str, decide_eq_false (shk_ne _ kk)]
      refine itF rfl ?_
      refine ⟨_, rfl, p, _, 0, _, rfl, rfl, sl, atI_nat (j := 0) rfl, A.aShifted, _, rfl, .inr (T.s_SHIFTED _), rfl, flat_strs _, _, rfl, ?_⟩
      show if (!L2.inV (.str z.kind) (shiftK.map V.str)) = true then _ else _
      rw [inV_str, decide_eq_true kk]
      refine itF rfl ?_
      refine ⟨_, rfl, p, _, rfl, .inl sl, _, _, rfl, rfl, _, rfl, itF rfl ?_⟩
      refine ⟨_, rfl, p, _, 1, _, rfl, rfl, sl, atI_nat (j := 1) rfl, A.aShiftT, _, rfl, .inr (T.s_SHIFT_TEXTS _), rfl, flat_strs _, _, rfl, ?_⟩
      show if (!L2.inV (.str (iS i)) (shiftT.map V.str)) = true then _ else _
      rw [inV_str, decide_eq_true hs]
      refine itF rfl ?_
      refine ⟨_, rfl, p, _, rfl, .inl sl, rfl, _, rfl, itF rfl ?_⟩
      refine ⟨_, rfl, p, _, rfl, .inl sl, rfl, _, rfl, itF rfl ?_⟩
      refine ⟨_, rfl, p, _, 0, _, rfl, rfl, sl, atI_nat (j := 0) rfl, rfl, _, rfl, ?_⟩
      rw [dec_str, decide_eq_false kr]
      refine itF rfl ?_
      refine ⟨_, rfl, p, _, 2, _, rfl, rfl, sl, atI_nat (j := 2) rfl, rfl, _, rfl, itF rfl ?_⟩
      refine ⟨_, rfl, p, _, 4, _, rfl, rfl, sl, atI_nat (j := 4) rfl, rfl, _, rfl, itF rfl ?_⟩
      refine ⟨_, rfl, p, _, 3, _, rfl, rfl, sl, atI_nat (j := 3) rfl, _, rfl, p, _, 5, _, rfl, rfl, sl, atI_nat (j := 5) rfl, F, _, _, a, b, rfl, e1.wd, ha, ho, na, nb, ab, fun F2 H2 e2 => ⟨_, rfl, itF rfl ?_⟩⟩
      have sl2 := e2.sql sl (fun z => z)
      refine ⟨_, rfl, p, _, 0, _, rfl, rfl, sl2, atI_nat (j := 0) rfl, rfl, _, rfl, ?_⟩
      rw [dec_str]
      refine it2 (fun _ => k _ _ (e1.trans0 e2)) (fun c => ?_)
      have hm : i.fmod b = 0 := ns.resolve_left (of_decide_eq_false c)
      refine ⟨_, rfl, p, _, 1, _, rfl, rfl, sl2, atI_nat (j := 1) rfl, _, i, rfl, ni, sh_len _ hs, _, rfl, p, _, 5, _, rfl, rfl, sl2, atI_nat (j := 5) rfl, _, b, rfl, nb, of_len _ ho, i, b, rfl, by omega, rfl, ?_⟩
      rw [hm]
      exact k _ _ (e1.trans0 e2)
end
end K64
/-! ## KAlls -/
set_option Elab.async false
set_option linter.all false
set_option maxRecDepth 100000
set_option maxHeartbeats 2000000
namespace K64
open PySem PySem.Spec PyProof.Rows L2 LamX
/-- one by one -/
inductive Alls {γ α : Type} (R : γ → α → Prop) : List γ → List α → Prop where
  | nil : Alls R [] []
  | cons {v : γ} {vs : List γ} {z : α} {zs : List α} : R v z → Alls R vs zs → Alls R (v :: vs) (z :: zs)
section
variable {γ α β : Type} {R R' : γ → α → Prop}
theorem Alls.mono (m : ∀ v z, R v z → R' v z) : ∀ {vs : List γ} {zs : List α}, Alls R vs zs → Alls R' vs zs
  | _, _, .nil => .nil
  | _, _, .cons h t => .cons (m _ _ h) (t.mono m)
theorem Alls.length : ∀ {vs : List γ} {zs : List α}, Alls R vs zs → vs.length = zs.length
  | _, _, .nil => rfl
  | _, _, .cons _ t => by rw [List.length_cons, List.length_cons, t.length]
theorem Alls.get : ∀ {vs : List γ} {zs : List α} {i : Nat} {x : γ}, Alls R vs zs → vs[i]? = some x → ∃ z, zs[i]? = some z ∧ R x z
  | _, _, _, _, .nil, e => by simp at e
  | _, _, 0, x, .cons h _, e => by simp at e; subst e; exact ⟨_, rfl, h⟩
  | _, _, i + 1, x, .cons _ t, e => by
    obtain ⟨d, h1, h2⟩ := Alls.get (i := i) (x := x) t (by simpa using e)
    exact ⟨d, by simpa using h1, h2⟩
theorem Alls.append : ∀ {vs ws : List γ} {ds es : List α}, Alls R vs ds → Alls R ws es → Alls R (vs ++ ws) (ds ++ es)
  | _, _, _, _, .nil, k => k
  | _, _, _, _, .cons h t, k => .cons h (t.append k)
theorem Alls.snoc {vs : List γ} {ds : List α} {v : γ} {d : α} (h : Alls R vs ds) (k : R v d) : Alls R (vs ++ [v]) (ds ++ [d]) := h.append (.cons k .nil)
theorem Alls.reverse : ∀ {vs : List γ} {ds : List α}, Alls R vs ds → Alls R vs.reverse ds.reverse
  | _, _, .nil => .nil
  | _, _, .cons h t => by
    rw [List.reverse_cons, List.reverse_cons]
    exact t.reverse.snoc h
theorem Alls.take (n : Nat) : ∀ {vs : List γ} {ds : List α}, Alls R vs ds → Alls R (vs.take n) (ds.take n) := by
  induction n with
  | zero => intro vs ds _; exact .nil
  | succ n ih =>
    intro vs ds h
    cases h with
    | nil => exact .nil
    | cons h t => exact .cons h (ih t)
theorem Alls.dropLast {vs : List γ} {ds : List α} (h : Alls R vs ds) : Alls R vs.dropLast ds.dropLast := by
  have t := h.take (vs.length - 1)
  rw [List.dropLast_eq_take, List.dropLast_eq_take, ← h.length]
  exact t
theorem Alls.last {vs : List γ} {ds : List α} {d : α} (h : Alls R vs ds) (e : ds.getLast? = some d) : ∃ y, vs[vs.length - 1]? = some y ∧ R y d := by
  have pos : 0 < ds.length := by
    cases ds with
    | nil => cases e
    | cons a b => exact Nat.succ_pos _
  have hl := h.length
  obtain ⟨y, hy⟩ : ∃ y, vs[vs.length - 1]? = some y := ⟨_, List.getElem?_eq_getElem (by omega)⟩
  obtain ⟨z, hz, hr⟩ := h.get hy
  rw [hl, ← List.getLast?_eq_getElem?, e] at hz
  cases hz
  exact ⟨y, hy, hr⟩
theorem Alls.ofMap {f : α → γ} (h : ∀ z, R (f z) z) : ∀ zs : List α, Alls R (zs.map f) zs
  | [] => .nil
  | z :: zs => .cons (h z) (Alls.ofMap h zs)
end
abbrev IsStr (v : V) (x : Str) : Prop := v = .str x
theorem Alls.strs {vs : List V} {xs : List Str} (h : Alls IsStr vs xs) : vs = xs.map .str := by
  induction h with
  | nil => rfl
  | cons h t ih => rw [h, ih]; rfl
theorem alls_strs (xs : List Str) : Alls IsStr (xs.map V.str) xs := Alls.ofMap (f := V.str) (R := IsStr) (fun _ => rfl) xs
/-! ### a comprehension over whatever is walked -/
section
variable {T : List (Addr × Str)} {F H : Hp} {K : PySem.W.Frag}
theorem lcG {α β : Type} {J : It} {n : Nat} {G : Hp → Prop} {Y : Nat → Hp → V → Hp → Prop} (w : Walk J n G Y) (zs : List α) (f : α → Option β) (Rout : Hp → V → β → Prop) {R : Hp → V → α → Prop} {S : Addr → Prop} {σ : L2.St} {g : TG} {tt : TT} {te : TE} {vs : List Nat} {H1 F1 : Hp} {Qd : Hp → Prop} {D : Addr}
    (e1 : Ev T S F H F1 H1) (hl : n = zs.length) (hl2 : n ≤ 100000) (hD : H1 D = none) (mo : ∀ F F' v b, Same F F' → Rout F v b → Rout F' v b)
    (hG : ∀ F' H', Ev T S0 F1 H1 F' H' → G H')
    (hY : ∀ i x H' H'' F', i < n → Ev T S0 F1 H1 F' H' → Y i H' x H'' → ∃ z F'', zs[i]? = some z ∧ Ev T S0 F' H' F'' H'' ∧ R F'' x z)
    (turn : ∀ x z F2 H2 (Rk : V → Hp → Prop) (R0 : Hp → Prop), z ∈ zs → Ev T S0 F1 H1 F2 H2 → R F2 x z →
      (∀ F3 H3 y d, f z = some d → Ev T S0 F2 H2 F3 H3 → Rout F3 y d → Rk y H3) → (∀ F3 H3, f z = none → Ev T S0 F2 H2 F3 H3 → R0 H3) →
      g x (wipe σ vs) H2 fun σ2 H3 => wipe σ2 vs = wipe σ vs ∧ tt σ2 H3 fun b H4 => if b = true then te σ2 H4 Rk else R0 H4)
    (k : ∀ F2 H2 ys, Ev T S0 F1 H1 F2 H2 → F2 D = some (.lst ys) → Alls (Rout F2) ys (zs.filterMap f) → Qd H2) :
    ∃ W : Nat → Nat → Hp → Prop, (∃ m, W 0 m (upd H1 D (.lst []))) ∧ ∀ i m H, W i m H →
      (J.stop i H ∧ Qd H) ∨ (J.go i H ∧ ∃ Nx : Hp → Prop, (∀ H', Nx H' → ∃ m', m' < m ∧ W (i + 1) m' H') ∧ ∀ x H', J.yld i H x H' → g x (wipe σ vs) H' fun σ2 H2 => wipe σ2 vs = wipe σ vs ∧ tt σ2 H2 fun b H3 =>
        if b = true then te σ2 H3 fun y H4 => ∃ acc, H4 D = some (.lst acc) ∧ acc.length < sizeLine ∧ Nx (upd H4 D (.lst (acc ++ [y]))) else Nx H3) := by
  have fD : F1 D = none := e1.wd.none hD
  refine lc_it w (fun i H' => ∃ F2 acc, Ev T S0 F1 H1 F2 H' ∧ H' D = some (.lst acc) ∧ F2 D = none ∧ Alls (Rout F2) acc ((zs.take i).filterMap f)) ?_ ?_ ?_ ?_
  · exact ⟨F1, [], Ev.new e1.wd hD, upd_same, fD, .nil⟩
  · rintro i H' _ ⟨F2, acc, e2, _⟩
    exact hG F2 H' e2
  · rintro i x H' H'' hi ⟨F2, acc, e2, hacc, fD2, hds⟩ hy
    obtain ⟨z, Fy, hz, ey, hR⟩ := hY i x H' H'' F2 hi e2 hy
    have la : acc.length ≤ i := by
      rw [hds.length]
      refine Nat.le_trans (List.length_filterMap_le _ _) ?_
      rw [List.length_take]
      omega
    have step := take_fm f hz
    have e2y := e2.trans0 ey
    refine turn x z Fy H'' _ _ (List.mem_of_getElem? hz) e2y hR (fun F3 H3 y d hf e3 hy => ?_) (fun F3 H3 hf e3 => ?_)
    · have hacc3 := e3.kp (ey.kp hacc)
      have fD3 := e3.nf (ey.kp hacc) (ey.nf hacc fD2)
      have e4 : Ev T (· = D) F3 H3 F3 (upd H3 D (.lst (acc ++ [y]))) := Ev.set e3.wd hacc3 fD3 (fun _ z => by cases z) (fun _ z => by cases z) rfl
      refine ⟨acc, hacc3, Nat.lt_of_le_of_lt (show acc.length ≤ 100000 by omega) (by decide), F3, acc ++ [y], ?_, upd_same, fD3, ?_⟩
      · exact (e2y.trans0 e3).trans e4 (fun _ z => z) fun b hb => .inr (by rw [hb]; exact hD)
      · rw [step, hf]
        exact (hds.mono fun v b h => mo _ _ _ _ ((ey.trans0 e3).mono) h).snoc hy
    · refine ⟨F3, acc, e2y.trans0 e3, e3.kp (ey.kp hacc), e3.nf (ey.kp hacc) (ey.nf hacc fD2), ?_⟩
      rw [step, hf, List.append_nil]
      exact hds.mono fun v b h => mo _ _ _ _ ((ey.trans0 e3).mono) h
  · rintro H' ⟨F2, acc, e2, hacc, fD2, hds⟩
    rw [hl, List.take_length] at hds
    have e3 := e2.freeze hD hacc fD2
    refine k _ H' acc e3 upd_same ?_
    have m : Same F2 (upd F2 D (.lst acc)) := fun b u e => by
      rw [upd_ne (ne_of_none e fD2)]
      exact e
    exact hds.mono fun v b h => mo _ _ _ _ m h
/-- what YAt gives -/
theorem yAt {α : Type} {R : Hp → V → α → Prop} {xs : List V} {zs : List α} {F1 H1 : Hp} (mo : ∀ F F' v b, Same F F' → R F v b → R F' v b) (hd : Alls (R F1) xs zs) :
    ∀ i x H' H'' F', i < xs.length → Ev T S0 F1 H1 F' H' → YAt xs i H' x H'' → ∃ z F'', zs[i]? = some z ∧ Ev T S0 F' H' F'' H'' ∧ R F'' x z := by
  rintro i x H' H'' F' hi e ⟨rfl, hx⟩
  obtain ⟨z, hz, hr⟩ := hd.get hx
  exact ⟨z, F', hz, Ev.refl e.wd, mo _ _ _ _ e.mono hr⟩
theorem strR_mono : ∀ (F F' : Hp) (v : V) (b : Str), Same F F' → IsStr v b → IsStr v b := fun _ _ _ _ _ h => h
end
/-! ### the program's own things, standing still -/
section
variable {A : Ad}
def StepAt (A : Ad) (F : Hp) (v : V) (s : Stp) : Prop := ∃ a dx fs, v = .ref a ∧ F a = some (.ins A.CS dx fs) ∧ fs.lookup ("text" : Str) = some (.str (stpText s))
def ProgAt (A : Ad) (F : Hp) (v : V) (p : List Stp) : Prop := ∃ a dx fs t xs, v = .ref a ∧ F a = some (.ins A.CP dx fs) ∧ fs.lookup ("text" : Str) = some (.str (progText p)) ∧ fs.lookup ("steps" : Str) = some (.ref t) ∧ F t = some (.tup xs) ∧ Alls (StepAt A F) xs p
def RowAt (A : Ad) (F : Hp) (r : Key × V) (z : Str × List Stp) : Prop := r.1 = .inr z.1 ∧ ProgAt A F r.2 z.2
/-- a dict of programs -/
def DcAt (A : Ad) (F : Hp) (v : V) (st : Bst) : Prop := ∃ d kvs, v = .ref d ∧ F d = some (.dK kvs) ∧ Alls (RowAt A F) kvs st
theorem StepAt.mono {F F' : Hp} (v : V) (s : Stp) (m : Same F F') (h : StepAt A F v s) : StepAt A F' v s := by
  obtain ⟨a, dx, fs, e, h1, h2⟩ := h
  exact ⟨a, dx, fs, e, m _ _ h1, h2⟩
theorem ProgAt.mono {F F' : Hp} (v : V) (p : List Stp) (m : Same F F') (h : ProgAt A F v p) : ProgAt A F' v p := by
  obtain ⟨a, dx, fs, t, xs, e, h1, h2, h3, h4, h5⟩ := h
  exact ⟨a, dx, fs, t, xs, e, m _ _ h1, h2, h3, m _ _ h4, h5.mono fun v s h => h.mono _ _ m⟩
theorem RowAt.mono {F F' : Hp} (v : Key × V) (p : Str × List Stp) (m : Same F F') (h : RowAt A F v p) : RowAt A F' v p := ⟨h.1, h.2.mono _ _ m⟩
theorem DcAt.mono {F F' : Hp} (v : V) (st : Bst) (m : Same F F') (h : DcAt A F v st) : DcAt A F' v st := by
  obtain ⟨d, kvs, e, h1, h2⟩ := h
  exact ⟨d, kvs, e, m _ _ h1, h2.mono fun v s h => h.mono _ _ m⟩
/-- without the dict at d -/
def less (F : Hp) (d : Addr) : Hp := fun b => if b = d then none else F b
theorem less_same {F : Hp} {d : Addr} : less F d d = none := if_pos rfl
theorem less_ne {F : Hp} {d b : Addr} (h : b ≠ d) : less F d b = F b := if_neg h
theorem less_at {F : Hp} {d b : Addr} {o : HO} {kvs : List (Key × V)} (hd : F d = some (.dK kvs)) (h : F b = some o) (n : ∀ ks, o ≠ .dK ks) : less F d b = some o := by
  rw [less_ne fun e => by rw [e, hd] at h; exact n _ (Option.some.inj h).symm]
  exact h
theorem StepAt.less {F : Hp} {d : Addr} {kvs : List (Key × V)} (hd : F d = some (.dK kvs)) {v : V} {s : Stp} (h : StepAt A F v s) : StepAt A (less F d) v s := by
  obtain ⟨a, dx, fs, e, h1, h2⟩ := h
  exact ⟨a, dx, fs, e, less_at hd h1 (fun _ z => by cases z), h2⟩
theorem ProgAt.less {F : Hp} {d : Addr} {kvs : List (Key × V)} (hd : F d = some (.dK kvs)) {v : V} {p : List Stp} (h : ProgAt A F v p) : ProgAt A (less F d) v p := by
  obtain ⟨a, dx, fs, t, xs, e, h1, h2, h3, h4, h5⟩ := h
  exact ⟨a, dx, fs, t, xs, e, less_at hd h1 (fun _ z => by cases z), h2, h3, less_at hd h4 (fun _ z => by cases z), h5.mono fun v s h => h.less hd⟩
theorem RowAt.less {F : Hp} {d : Addr} {kvs : List (Key × V)} (hd : F d = some (.dK kvs)) {v : Key × V} {p : Str × List Stp} (h : RowAt A F v p) : RowAt A (less F d) v p := ⟨h.1, h.2.less hd⟩
/-- the dict is locked, and free again -/
theorem Ev.locked {T : List (Addr × Str)} {F H : Hp} {d : Addr} {kvs : List (Key × V)} {od : Obj} (w : Wd T F H) (hd : F d = some (.dK kvs)) : Wd T (K64.less F d) (upd H d (.frz od (.dK kvs))) := by
  have hH := w.sub _ _ hd
  refine ⟨fun b u e => ?_, tabs_upd w.tab (fun ps z => by rw [hH] at z; cases z) (fun φ z => by rw [hH] at z; cases z), fun b ps e => ?_⟩
  by_cases hb : b = d
  · rw [hb, less_same] at e
    cases e
  · rw [less_ne hb] at e
    rw [upd_ne hb]
    exact w.sub _ _ e
  · by_cases hb : b = d
    · rw [hb, less_same] at e
      cases e
    · rw [less_ne hb] at e
      exact w.nt _ _ e
theorem Ev.unlock {T : List (Addr × Str)} {F H F1 H1 : Hp} {d : Addr} {kvs : List (Key × V)} {od : Obj} (w : Wd T F H) (hd : F d = some (.dK kvs)) (e : Ev T S0 (K64.less F d) (upd H d (.frz od (.dK kvs))) F1 H1) :
    H1 d = some (.frz od (.dK kvs)) ∧ Ev T S0 F H (upd F1 d (.dK kvs)) (upd H1 d (.dK kvs)) ∧ Same F1 (upd F1 d (.dK kvs)) := by
  have hH := w.sub _ _ hd
  have h1 : H1 d = some (.frz od (.dK kvs)) := e.kp upd_same
  have f1 : F1 d = none := e.nf (a := d) (o := .frz od (.dK kvs)) upd_same less_same
  have sm : Same F1 (upd F1 d (.dK kvs)) := fun b u h => by
    rw [upd_ne (ne_of_none h f1)]
    exact h
  refine ⟨h1, ⟨⟨fun b u h => ?_, tabs_upd e.wd.tab (fun ps z => by rw [h1] at z; cases z) (fun φ z => by rw [h1] at z; cases z), nt_upd e.wd.nt (fun ps z => by cases z)⟩, fun b u h => ?_, fun b n h => ?_, fun b o _ h n => ?_, fun b h => ?_⟩, sm⟩
  · by_cases hb : b = d
    · rw [hb, upd_same] at h ⊢
      exact h
    · rw [upd_ne hb] at h ⊢
      exact e.wd.sub _ _ h
  · by_cases hb : b = d
    · rw [hb, hd] at h
      rw [hb, upd_same]
      exact h
    · rw [upd_ne hb]
      exact e.mono _ _ (by rw [less_ne hb]; exact h)
  · have hb : b ≠ d := fun z => by
      rw [z, hd] at h
      cases h
    rw [upd_ne hb]
    exact e.fix b (by rw [upd_ne hb]; exact n) (by rw [less_ne hb]; exact h)
  · by_cases hb : b = d
    · rw [hb, hH] at h
      rw [hb, upd_same]
      exact h
    · rw [upd_ne hb]
      exact e.keep b o (fun z => z) (by rw [upd_ne hb]; exact h) n
  · by_cases hb : b = d
    · rw [hb, upd_same] at h
      cases h
    · rw [upd_ne hb] at h
      have := e.old b h
      rw [upd_ne hb] at this
      exact this
end
section
variable {T : List (Addr × Str)} {S : Addr → Prop} {F H F1 H1 : Hp} {A : Ad} {v : V}
theorem Ev.st {s : Stp} (k : Ev T S F H F1 H1) (h : StepAt A F v s) : StepAt A F1 v s := h.mono _ _ k.mono
theorem Ev.pr {p : List Stp} (k : Ev T S F H F1 H1) (h : ProgAt A F v p) : ProgAt A F1 v p := h.mono _ _ k.mono
theorem Ev.dc {st : Bst} (k : Ev T S F H F1 H1) (h : DcAt A F v st) : DcAt A F1 v st := h.mono _ _ k.mono
end
end K64
/-! ## KP2 -/
set_option Elab.async false
set_option linter.all false
set_option maxRecDepth 100000
set_option maxHeartbeats 2000000
namespace K64
open PySem PySem.Spec PyProof.Rows L2 LamX
theorem deal_plain : ("deal" : Str) ∈ plainK := by decide +kernel
theorem undeal_plain : ("undeal" : Str) ∈ plainK := by decide +kernel
theorem roll_shift : ("roll" : Str) ∈ shiftK := by decide +kernel
theorem sum_shift : ("sum" : Str) ∈ shiftK := by decide +kernel
theorem near_shift : ("near" : Str) ∈ shiftK := by decide +kernel
theorem sum_roll : ("sum" : Str) ≠ "roll" := by decide +kernel
theorem near_roll : ("near" : Str) ≠ "roll" := by decide +kernel
theorem near_sum : ("near" : Str) ≠ "sum" := by decide +kernel
theorem flip_not : ("flip" : Str) ≠ "roll" ∧ ("flip" : Str) ≠ "sum" ∧ ("flip" : Str) ≠ "near" := by decide +kernel
theorem roll_app : (Str.empty ++ ("roll " : Str)) = "roll " := by decide +kernel
theorem shk3 : ∀ k ∈ shiftK, k = ("roll" : Str) ∨ k = ("sum" : Str) ∨ k = ("near" : Str) := by decide +kernel
theorem inv_two {k : Str} {i : Int} (h : (⟨k, some i, none⟩ : Stp) ∈ allStps) : stpText (invStp ⟨k, some i, none⟩) = if k = ("roll" : Str) then ("roll " : Str) ++ iS (-i) else if k = ("sum" : Str) then Txt.join " " [("near" : Str), iS i] else Txt.join " " [("sum" : Str), iS i] := by
  have c := all_of chkInv_all h
  unfold chkInv at c
  dsimp only at c
  by_cases h1 : k = ("roll" : Str)
  · rw [if_pos h1] at c ⊢
    exact of_decide_eq_true c
  · rw [if_neg h1] at c ⊢
    by_cases h2 : k = ("sum" : Str)
    · rw [if_pos h2] at c ⊢
      exact of_decide_eq_true c
    · rw [if_neg h2] at c ⊢
      exact of_decide_eq_true c
theorem inv_six {k : Str} {i a b : Int} (h : (⟨k, some i, some (a, b)⟩ : Stp) ∈ allStps) : (k = ("sum" : Str) → stpText (invStp ⟨k, some i, some (a, b)⟩) = Txt.join " " [("near" : Str), iS i, ("at" : Str), iS a, ("of" : Str), iS b]) ∧
    (k ≠ ("sum" : Str) → i.fmod b = 0 → stpText (invStp ⟨k, some i, some (a, b)⟩) = Txt.join " " [("sum" : Str), iS i, ("at" : Str), iS a, ("of" : Str), iS b]) ∧ (k ≠ ("sum" : Str) → i.fmod b ≠ 0 → invStp ⟨k, some i, some (a, b)⟩ = ⟨k, some i, some (a, b)⟩) := by
  have c := all_of chkInv_all h
  unfold chkInv at c
  dsimp only at c
  refine ⟨fun h1 => ?_, fun h1 h2 => ?_, fun h1 h2 => ?_⟩
  · rw [if_pos h1] at c
    exact of_decide_eq_true c
  · rw [if_neg h1, if_pos h2] at c
    exact of_decide_eq_true c
  · rw [if_neg h1, if_neg h2] at c
    exact of_decide_eq_true c
theorem inv_flip {k : Str} {a b : Int} (h : (⟨k, none, some (a, b)⟩ : Stp) ∈ allStps) : invStp ⟨k, none, some (a, b)⟩ = ⟨k, none, some (a, b)⟩ := by
  have c := all_of chkInv_all h
  exact of_decide_eq_true c
theorem inv_plain {k : Str} (h : (⟨k, none, none⟩ : Stp) ∈ allStps) : (k = ("deal" : Str) → stpText (invStp ⟨k, none, none⟩) = "undeal") ∧ (k = ("undeal" : Str) → stpText (invStp ⟨k, none, none⟩) = "deal") ∧ (k ≠ ("deal" : Str) → k ≠ ("undeal" : Str) → invStp ⟨k, none, none⟩ = ⟨k, none, none⟩) := by
  have c := all_of chkInv_all h
  unfold chkInv at c
  simp only [Bool.or_eq_true, Bool.and_eq_true, decide_eq_true_eq] at c
  have du : ("deal" : Str) ≠ "undeal" := by decide +kernel
  refine ⟨fun h1 => ?_, fun h1 => ?_, fun h1 h2 => ?_⟩
  · rcases c with (⟨_, c⟩ | ⟨c, _⟩) | ⟨c, _⟩
    · exact c
    · exact absurd (h1.symm.trans c) du
    · exact absurd h1 c
  · rcases c with (⟨c, _⟩ | ⟨_, c⟩) | ⟨_, c, _⟩
    · exact absurd (c.symm.trans h1) du
    · exact c
    · exact absurd h1 c
  · rcases c with (⟨c, _⟩ | ⟨c, _⟩) | ⟨_, _, c⟩
    · exact absurd c h1
    · exact absurd c h2
    · exact c
section
variable {P : Program} {w : World} {K : PySem.W.Frag} {mg : Str → Option Value} {base : Heap} {A : Ad} {Tb : List (Addr × Str)}
/-- ' '.join([new] + words[1:]) -/
theorem join_tail {σ : L2.St} {F H : Hp} {Q : VK} {p : Addr} {w0 new : Str} {ws : List Str} (W0 : Wd Tb F H) (hp : H p = some (.lst ((w0 :: ws).map V.str))) (h1 : σ[1]? = some (some (.ref p))) (hb : new.length + (ws.map (·.length)).sum + (ws.length + 1) ≤ 1000)
    (k : ∀ F' H', Ev Tb S0 F H F' H' → Q (.str (Txt.join " " (new :: ws))) H') :
    tM1 (rJoin K) (tC (.str " ")) (tOp rCat (tLst (tCons (tC (.str new)) tNil)) (tSl (rSlL K) (tVar 1) (tPart (tC (.int 1))) tNoPart)) σ H Q := by
  have lw : ∀ ws : List Str, ws.length ≤ (ws.map (·.length)).sum + ws.length := fun ws => Nat.le_add_left _ _
  refine ⟨⟨_, rfl⟩, sz1, fun l hl => ?_⟩
  have e1 := Ev.new (S := S0) (o := .lst [V.str new]) W0 hl
  have hl1 : upd H l (.lst [V.str new]) l = some (.lst [V.str new]) := upd_same
  refine ⟨_, h1, 1, rfl, p, _, rfl, SqL.of (e1.kp hp), fun q hq => ?_⟩
  have ecut : cutV ((w0 :: ws).map V.str) (some 1) none = ws.map V.str := by
    unfold cutV
    rw [HT.sIx_none, show (some (1 : Int)) = some ((1 : Nat) : Int) from rfl, HT.sIx_nat]
    rw [List.map_cons, List.length_cons, show min 1 ((ws.map V.str).length + 1) = 1 by omega]
    rw [List.drop_succ_cons, List.drop_zero]
    exact List.take_of_length_le (by omega)
  rw [ecut]
  have e2 := Ev.new (S := S0) (o := .lst (ws.map V.str)) e1.wd hq
  refine ⟨l, q, _, _, rfl, rfl, e2.kp hl1, upd_same, szN (by rw [List.length_map, List.length_singleton]; omega), fun D hD => ?_⟩
  have e3 := Ev.new (S := S0) (o := .lst ([V.str new] ++ ws.map V.str)) e2.wd hD
  refine ⟨_, D, new :: ws, rfl, rfl, .inl (SqL.of upd_same), ?_, k _ _ ((e1.trans0 e2).trans0 e3)⟩
  rw [sp_len, List.map_cons, List.sum_cons, List.length_cons]
  omega
abbrev s_inverse_text : Stmt := top 28
abbrev N_inverse_text : List Str := [("text" : Str), ("words" : Str)]
abbrev P_inverse_text : List Str := [("text" : Str)]
theorem sc_inverse_text : FnScope N_inverse_text P_inverse_text (defScope s_inverse_text) := ⟨rfl, rfl, rfl, by decide +kernel, rfl, by decide +kernel, by decide +kernel⟩
theorem bd_inverse_text {K : PySem.W.Frag} {f : Addr} {fd : FuncData} (F : L2.Fun K "inverse_text" "inverse_text" s_inverse_text f fd) : Binds K fd P_inverse_text [] := F.binds fun _ _ _ _ _ _ us hl => match us, hl with | [_], _ => rfl

def spInvT (Tb : List (Addr × Str)) : Sp := fun vs H Q _ => ∃ (F : Hp) (s : Stp), vs = [.str (stpText s)] ∧ Wd Tb F H ∧ s ∈ allStps ∧ ∀ F' H', Ev Tb S0 F H F' H' → Q (.str (stpText (invStp s))) H'
theorem at_len1 : ∀ x ∈ atT, x.length ≤ 2 := by decide +kernel
theorem of_len1 : ∀ x ∈ ofT, x.length ≤ 2 := by decide +kernel
theorem sh_len1 : ∀ x ∈ shiftT, x.length ≤ 2 := by decide +kernel
theorem wlen : ("near" : Str).length = 4 ∧ ("sum" : Str).length = 3 ∧ ("at" : Str).length = 2 ∧ ("of" : Str).length = 2 := by decide +kernel
theorem ok_inverse_text {f : Addr} {fd : FuncData} (F : L2.Fun K "inverse_text" "inverse_text" s_inverse_text f fd) (T : Txt P K mg A) : FnOk P w K mg base CX0 1 f fd P_inverse_text (spInvT Tb) := by
  have sc := sc_inverse_text
  refine F.ok sc (fun vs H Q E h => ?_) (fun cdv AA outer s H vs Q E hr h => ?_)
  · obtain ⟨F, s, rfl, _⟩ := h
    rfl
  · obtain ⟨F, z, rfl, W0, hz, k⟩ := h
    refine ⟨_, (pss_cons (ps_if (pt_cmpR op_eq (pv 0) pe_str (nomark _)) (pss_one (ps_ret pe_str)) pss_nil)
      (pss_cons (ps_if (pt_cmpR op_eq (pv 0) pe_str (nomark _)) (pss_one (ps_ret pe_str)) pss_nil)
      (pss_cons (ps_set (i := 1) sc.nd rfl (Or.inl rfl) (pe_split (pv 0) pe_str))
      (pss_cons (ps_if (pt_cmpR op_eq (pe_ix (ix_listK (K := K)) (pv 1) pe_int (fun _ _ => rfl)) pe_str (nomark _)) (pss_one (ps_ret (pe_joined (PJ.cons pe_str (PJ.cons (pe_fmt (pe_un un_neg (pe_callTy call_int_str (by rfl) T.z_int (by decide +kernel) (pa_cons (pe_ix (ix_listK (K := K)) (pv 1) pe_int (fun _ _ => rfl)) pa_nil)))) PJ.nil))))) pss_nil)
      (pss_cons (ps_if (pt_cmpR op_eq (pe_ix (ix_listK (K := K)) (pv 1) pe_int (fun _ _ => rfl)) pe_str (nomark _)) (pss_one (ps_ret (pe_joinK (K := K) pe_str (pe_op op_cat (pe_lst (pa_cons pe_str pa_nil)) (pe_slice (sl_listK (K := K)) (pv 1) (po_some pe_int) po_none))))) pss_nil)
      (pss_cons (ps_if (pt_cmpR op_eq (pe_ix (ix_listK (K := K)) (pv 1) pe_int (fun _ _ => rfl)) pe_str (nomark _)) (pss_one (ps_if (PW.pt (pw_or (pt_cmpR op_eq (pe_callB (call_len_seqK (K := K)) (by rfl) T.z_len PySem.boot_len (pa_cons (pv 1) pa_nil)) pe_int (nomark _)) (pw_or1 (pt_cmpR op_eq (pe_op op_modN (pe_callTy call_int_str (by rfl) T.z_int (by decide +kernel) (pa_cons (pe_ix (ix_listK (K := K)) (pv 1) pe_int (fun _ _ => rfl)) pa_nil)) (pe_callTy call_int_str (by rfl) T.z_int (by decide +kernel) (pa_cons (pe_ix (ix_listK (K := K)) (pv 1) (pe_un un_neg pe_int) (fun _ _ => rfl)) pa_nil))) pe_int (nomark _))))) (pss_one (ps_ret (pe_joinK (K := K) pe_str (pe_op op_cat (pe_lst (pa_cons pe_str pa_nil)) (pe_slice (sl_listK (K := K)) (pv 1) (po_some pe_int) po_none))))) pss_nil)) pss_nil)
      (pss_one (ps_ret (pv 0))))))))), ?_⟩
    have L := (stpF hz).len
    obtain ⟨kd, ob, orr⟩ := z
    cases shp hz with
    | plain hb hr' m kk w0 ws e n =>
      cases hb
      cases hr'
      obtain ⟨i1, i2, i3⟩ := inv_plain hz
      have kk : kd = stpText ⟨kd, none, none⟩ := kk
      refine ⟨_, rfl, rfl, _, rfl, ?_⟩
      rw [dec_str]
      refine it2 (fun c => ?_) (fun c => ?_)
      · rw [i1 (kk.trans (of_decide_eq_true c))] at k
        exact k F H (Ev.refl W0)
      refine ⟨_, rfl, rfl, _, rfl, ?_⟩
      rw [dec_str]
      refine it2 (fun c2 => ?_) (fun c2 => ?_)
      · rw [i2 (kk.trans (of_decide_eq_true c2))] at k
        exact k F H (Ev.refl W0)
      rw [i3 (fun z => of_decide_eq_false c (kk.symm.trans z)) (fun z => of_decide_eq_false c2 (kk.symm.trans z))] at k
      refine ⟨_, rfl, ⟨_, rfl⟩, _, _, rfl, rfl, by rw [sp_len]; rfl, szN (by omega), fun p hp => ?_⟩
      have e1 := Ev.new (S := S0) (o := .lst ((Txt.split (stpText ⟨kd, none, none⟩) " ").map V.str)) W0 hp
      have sl : SqL K (upd H p (.lst ((Txt.split (stpText ⟨kd, none, none⟩) " ").map V.str))) p ((wds ⟨kd, none, none⟩).map V.str) := SqL.of upd_same
      rw [e] at sl
      refine ⟨_, rfl, p, _, 0, _, rfl, rfl, sl, atI_nat (j := 0) rfl, rfl, _, rfl, ?_⟩
      rw [dec_str, decide_eq_false fun z => n (by rw [z]; exact roll_shift)]
      refine itF rfl ⟨_, rfl, p, _, 0, _, rfl, rfl, sl, atI_nat (j := 0) rfl, rfl, _, rfl, ?_⟩
      rw [dec_str, decide_eq_false fun z => n (by rw [z]; exact sum_shift)]
      refine itF rfl ⟨_, rfl, p, _, 0, _, rfl, rfl, sl, atI_nat (j := 0) rfl, rfl, _, rfl, ?_⟩
      rw [dec_str, decide_eq_false fun z => n (by rw [z]; exact near_shift)]
      exact itF rfl ⟨_, rfl, k _ _ e1⟩
    | flip a b hb hr' m kk e ha ho na nb a0 ab b4 =>
      cases hb
      cases hr'
      rw [inv_flip hz] at k
      refine ⟨_, rfl, rfl, _, rfl, ?_⟩
      rw [dec_str, decide_eq_false fun e => m (by rw [e]; exact deal_plain)]
      refine itF rfl ⟨_, rfl, rfl, _, rfl, ?_⟩
      rw [dec_str, decide_eq_false fun e => m (by rw [e]; exact undeal_plain)]
      refine itF rfl ⟨_, rfl, ⟨_, rfl⟩, _, _, rfl, rfl, by rw [sp_len]; rfl, szN (by omega), fun p hp => ?_⟩
      have e1 := Ev.new (S := S0) (o := .lst ((Txt.split (stpText ⟨kd, none, some (a, b)⟩) " ").map V.str)) W0 hp
      have sl : SqL K (upd H p (.lst ((Txt.split (stpText ⟨kd, none, some (a, b)⟩) " ").map V.str))) p ((wds ⟨kd, none, some (a, b)⟩).map V.str) := SqL.of upd_same
      rw [e] at sl
      obtain ⟨f1, f2, f3⟩ := flip_not
      refine ⟨_, rfl, p, _, 0, _, rfl, rfl, sl, atI_nat (j := 0) rfl, rfl, _, rfl, ?_⟩
      rw [dec_str, decide_eq_false f1]
      refine itF rfl ⟨_, rfl, p, _, 0, _, rfl, rfl, sl, atI_nat (j := 0) rfl, rfl, _, rfl, ?_⟩
      rw [dec_str, decide_eq_false f2]
      refine itF rfl ⟨_, rfl, p, _, 0, _, rfl, rfl, sl, atI_nat (j := 0) rfl, rfl, _, rfl, ?_⟩
      rw [dec_str, decide_eq_false f3]
      exact itF rfl ⟨_, rfl, k _ _ e1⟩
    | two i hb hr' m e kk hs ni i0 i1 =>
      cases hb
      cases hr'
      rw [inv_two hz] at k
      have li := sh_len1 _ hs
      obtain ⟨l1, l2, l3, l4⟩ := wlen
      refine ⟨_, rfl, rfl, _, rfl, ?_⟩
      rw [dec_str, decide_eq_false fun e => m (by rw [e]; exact deal_plain)]
      refine itF rfl ⟨_, rfl, rfl, _, rfl, ?_⟩
      rw [dec_str, decide_eq_false fun e => m (by rw [e]; exact undeal_plain)]
      refine itF rfl ⟨_, rfl, ⟨_, rfl⟩, _, _, rfl, rfl, by rw [sp_len]; rfl, szN (by omega), fun p hp => ?_⟩
      have e1 := Ev.new (S := S0) (o := .lst ((Txt.split (stpText ⟨kd, some i, none⟩) " ").map V.str)) W0 hp
      have hp1 : upd H p (.lst ((Txt.split (stpText ⟨kd, some i, none⟩) " ").map V.str)) p = some (.lst ((wds ⟨kd, some i, none⟩).map V.str)) := upd_same
      rw [e] at hp1
      have sl := SqL.of (K := K) hp1
      have kk : kd ∈ shiftK := kk
      refine ⟨_, rfl, p, _, 0, _, rfl, rfl, sl, atI_nat (j := 0) rfl, rfl, _, rfl, ?_⟩
      rw [dec_str]
      refine it2 (fun c => ?_) (fun c => ?_)
      · have c' : kd = ("roll" : Str) := of_decide_eq_true c
        rw [if_pos c'] at k
        refine ⟨_, rfl, szN (by decide), _, rfl, p, _, 1, _, rfl, rfl, sl, atI_nat (j := 1) rfl, _, i, rfl, ni, sh_len _ hs, i, rfl, .inr ⟨-i, rfl, log_small (by omega), _, rfl, ?_, ?_⟩⟩
        · refine szN ?_
          have ln := (stpF (stpF hz).inv).len
          rw [inv_two hz, if_pos c'] at ln
          show (Str.empty ++ ("roll " : Str) ++ iS (-i)).length ≤ 1000000
          rw [roll_app]
          omega
        · show Q (.str (Str.empty ++ ("roll " : Str) ++ iS (-i))) _
          rw [roll_app]
          exact k _ _ e1
      have c' : ¬ kd = ("roll" : Str) := of_decide_eq_false c
      rw [if_neg c'] at k
      refine ⟨_, rfl, p, _, 0, _, rfl, rfl, sl, atI_nat (j := 0) rfl, rfl, _, rfl, ?_⟩
      rw [dec_str]
      refine it2 (fun c2 => ?_) (fun c2 => ?_)
      · have c2' : kd = ("sum" : Str) := of_decide_eq_true c2
        rw [if_pos c2'] at k
        exact join_tail e1.wd hp1 rfl (by simp only [List.map_cons, List.map_nil, List.sum_cons, List.sum_nil, List.length_cons, List.length_nil]; omega) fun F' H' e2 => k _ _ (e1.trans0 e2)
      have c2' : ¬ kd = ("sum" : Str) := of_decide_eq_false c2
      rw [if_neg c2'] at k
      have hn : kd = ("near" : Str) := ((shk3 _ kk).resolve_left c').resolve_left c2'
      refine ⟨_, rfl, p, _, 0, _, rfl, rfl, sl, atI_nat (j := 0) rfl, rfl, _, rfl, ?_⟩
      rw [dec_str, decide_eq_true hn]
      refine itT rfl ⟨_, rfl, p, _, rfl, .inl sl, rfl, _, rfl, itT rfl ?_⟩
      exact join_tail e1.wd hp1 rfl (by simp only [List.map_cons, List.map_nil, List.sum_cons, List.sum_nil, List.length_cons, List.length_nil]; omega) fun F' H' e2 => k _ _ (e1.trans0 e2)
    | six i a b hb hr' m e kk kr hs ni i0 i1 ha ho na nb a0 ab b4 ns =>
      cases hb
      cases hr'
      obtain ⟨v1, v2, v3⟩ := inv_six hz
      have li := sh_len1 _ hs
      have la := at_len1 _ ha
      have lo := of_len1 _ ho
      obtain ⟨l1, l2, l3, l4⟩ := wlen
      refine ⟨_, rfl, rfl, _, rfl, ?_⟩
      rw [dec_str, decide_eq_false fun e => m (by rw [e]; exact deal_plain)]
      refine itF rfl ⟨_, rfl, rfl, _, rfl, ?_⟩
      rw [dec_str, decide_eq_false fun e => m (by rw [e]; exact undeal_plain)]
      refine itF rfl ⟨_, rfl, ⟨_, rfl⟩, _, _, rfl, rfl, by rw [sp_len]; rfl, szN (by omega), fun p hp => ?_⟩
      have e1 := Ev.new (S := S0) (o := .lst ((Txt.split (stpText ⟨kd, some i, some (a, b)⟩) " ").map V.str)) W0 hp
      have hp1 : upd H p (.lst ((Txt.split (stpText ⟨kd, some i, some (a, b)⟩) " ").map V.str)) p = some (.lst ((wds ⟨kd, some i, some (a, b)⟩).map V.str)) := upd_same
      rw [e] at hp1
      have sl := SqL.of (K := K) hp1
      have kk : kd ∈ shiftK := kk
      have c' : ¬ kd = ("roll" : Str) := kr
      refine ⟨_, rfl, p, _, 0, _, rfl, rfl, sl, atI_nat (j := 0) rfl, rfl, _, rfl, ?_⟩
      rw [dec_str, decide_eq_false kr]
      refine itF rfl ⟨_, rfl, p, _, 0, _, rfl, rfl, sl, atI_nat (j := 0) rfl, rfl, _, rfl, ?_⟩
      rw [dec_str]
      refine it2 (fun c2 => ?_) (fun c2 => ?_)
      · have c2' : kd = ("sum" : Str) := of_decide_eq_true c2
        rw [v1 c2'] at k
        exact join_tail e1.wd hp1 rfl (by simp only [List.map_cons, List.map_nil, List.sum_cons, List.sum_nil, List.length_cons, List.length_nil]; omega) fun F' H' e2 => k _ _ (e1.trans0 e2)
      have c2' : ¬ kd = ("sum" : Str) := of_decide_eq_false c2
      have hn : kd = ("near" : Str) := ((shk3 _ kk).resolve_left c').resolve_left c2'
      refine ⟨_, rfl, p, _, 0, _, rfl, rfl, sl, atI_nat (j := 0) rfl, rfl, _, rfl, ?_⟩
      rw [dec_str, decide_eq_true hn]
      refine itT rfl ⟨_, rfl, p, _, rfl, .inl sl, rfl, _, rfl, itF rfl ?_⟩
      refine ⟨_, rfl, p, _, 1, _, rfl, rfl, sl, atI_nat (j := 1) rfl, _, i, rfl, ni, sh_len _ hs, _, rfl, 1, rfl, p, _, -1, _, rfl, rfl, sl, rfl, _, b, rfl, nb, of_len _ ho, i, b, rfl, rfl, by omega, rfl, _, rfl, ?_⟩
      rw [dec_int]
      refine it2 (fun c3 => ?_) (fun c3 => ?_)
      · rw [v2 c2' (of_decide_eq_true c3)] at k
        exact join_tail e1.wd hp1 rfl (by simp only [List.map_cons, List.map_nil, List.sum_cons, List.sum_nil, List.length_cons, List.length_nil]; omega) fun F' H' e2 => k _ _ (e1.trans0 e2)
      · rw [v3 c2' (of_decide_eq_false c3)] at k
        exact ⟨_, rfl, k _ _ e1⟩
end
end K64
/-! ## KP3 -/
set_option Elab.async false
set_option linter.all false
set_option maxRecDepth 100000
set_option maxHeartbeats 2000000
namespace K64
open PySem PySem.Spec PyProof.Rows L2 LamX
/-! ### a classmethod by its class's name -/
structure CmG (P : Program) (w : World) (K : PySem.W.Frag) (mg : Str → Option Value) (base : Heap) (CX : CXT) (k : Nat) (C : Addr) (m : Str) (sp : Sp) : Prop where
  ex : ∃ p g, ClX.CMet K C (.type "type") m p g ∧ FnR P w K mg base CX k g sp
structure DefC (K : PySem.W.Frag) (C : Addr) (m qual : Str) (st : Stmt) : Prop where
  ex : ∃ p g fd, ClX.CMet K C (.type "type") m p g ∧ L2.Fun K m qual st g fd
section
variable {P : Program} {w : World} {K : PySem.W.Frag} {mg : Str → Option Value} {base : Heap} {CX : CXT} {k j : Nat} {C : Addr} {m qual : Str} {st : Stmt} {ps : List Str} {sp : Sp}
theorem DefC.mk' (D : DefC K C m qual st) (hb : ∀ f fd, L2.Fun K m qual st f fd → Binds K fd ps []) (h : ∀ f fd, L2.Fun K m qual st f fd → FnOk P w K mg base CX k f fd ps sp) : CmG P w K mg base CX k C m sp := by
  obtain ⟨p, g, fd, e, F⟩ := D.ex
  exact ⟨p, g, e, ((h g fd F).raw (hb g fd F) .nil).imp fun vs H Q E h => by rw [List.append_nil]; exact h⟩
theorem pe_cm {X : Cx} {E : XK} {o e : Expr} {es : List Expr} {pos apos : Pos} {ta : TE} {t : TA} {pl : Sem Bool} (F : CmG X.prog X.w X.K X.mg X.base CX k C m sp) (he : PE X o ta) (r : ClX.CRead X.K C (.type "type")) (hr : Room j X.A) (hx : Passes CX X E) (ha : PA X (e :: es) t) (hk : k ≤ j := by decide)
    (hst : starEach (e :: es) X.env = (false, eval e X.env) :: starEach es X.env := by rfl) (hpl : (backTo pos (starEach es X.env)).any (·.1) = false := by rfl)
    (ht : eval (.Call (.Attribute o m apos) (e :: es) [] pos) X.env = (do
      let ov ← eval o X.env
      standAt apos.atName
      let (f, first) ← holding [ov] (getMethod ov m pl)
      callWith pos f first (backTo pos (starEach (e :: es) X.env)) (backToKw pos (keywordEach [] X.env))) := by rfl) :
    PE X (.Call (.Attribute o m apos) (e :: es) [] pos) (ClX.tCMeth C sp E ta t) := by
  obtain ⟨p, g, c, G⟩ := F.ex
  exact ClX.pe_cmeth he r c G (hr.mono hk) hx ha hst hpl ht
end
/-! ### a field is written -/
theorem putF_eq {f : Str} {v x : V} {r : List (Str × V)} : putF f v ((f, x) :: r) = (f, v) :: r := if_pos rfl
theorem putF_ne {f g : Str} {v x : V} {r : List (Str × V)} (h : g ≠ f) : putF f v ((g, x) :: r) = (g, x) :: putF f v r := if_neg h
theorem put_ {T : List (Addr × Str)} {K : PySem.W.Frag} {F H : Hp} {a C dx : Addr} {fs : List (Str × V)} {f : Str} {y : V} {σ : L2.St} {nx : L2.St → Hp → Prop} (w : Wd T F H) (ha : H a = some (.ins C dx fs)) (fa : F a = none) (cl : Cls K C) (na : NoAttr K C f) (hl : fs.length < 1000)
    (k : ∀ H2, Ev T (· = a) F H F H2 → H2 a = some (.ins C dx (putF f y fs)) → nx σ H2) :
    ∃ a' C' dx' fs', V.ref a = .ref a' ∧ H a' = some (.ins C' dx' fs') ∧ Cls K C' ∧ NoAttr K C' f ∧ fs'.length < 1000 ∧ nx σ (upd H a' (.ins C' dx' (putF f y fs'))) :=
  ⟨a, C, dx, fs, rfl, ha, cl, na, hl, k _ (Ev.set w ha fa (fun _ z => by cases z) (fun _ z => by cases z) rfl) upd_same⟩
theorem k_tk : ("text" : Str) ≠ "kind" := by decide +kernel
theorem k_tb : ("text" : Str) ≠ "by" := by decide +kernel
theorem k_tr : ("text" : Str) ≠ "rest" := by decide +kernel
theorem k_kb : ("kind" : Str) ≠ "by" := by decide +kernel
theorem k_kr : ("kind" : Str) ≠ "rest" := by decide +kernel
theorem k_br : ("by" : Str) ≠ "rest" := by decide +kernel
theorem shk_of : ∀ k ∈ shiftK, k ≠ ("of" : Str) := by decide +kernel
theorem k_ts : ("text" : Str) ≠ "steps" := by decide +kernel
theorem look_put {f g : Str} {v u : V} {fs : List (Str × V)} (h : fs.lookup g = some u) (n : g ≠ f) : (putF f v fs).lookup g = some u := by
  rw [lookup_putF, if_neg n]
  exact h
section
variable {P : Program} {w : World} {K : PySem.W.Frag} {mg : Str → Option Value} {base : Heap} {A : Ad} {Tb : List (Addr × Str)}
abbrev s_inverted : Stmt := top 39
abbrev N_inverted : List Str := [("steps" : Str), ("each" : Str)]
abbrev P_inverted : List Str := [("steps" : Str)]
theorem sc_inverted : FnScope N_inverted P_inverted (defScope s_inverted) := ⟨rfl, rfl, rfl, by decide +kernel, rfl, by decide +kernel, by decide +kernel⟩
theorem bd_inverted {K : PySem.W.Frag} {f : Addr} {fd : FuncData} (F : L2.Fun K "inverted" "inverted" s_inverted f fd) : Binds K fd P_inverted [] := F.binds fun _ _ _ _ _ _ us hl => match us, hl with | [_], _ => rfl

def spInvS (A : Ad) (Tb : List (Addr × Str)) : Sp := fun vs H Q _ => ∃ (F : Hp) (t : Addr) (xs : List V) (p : List Stp), vs = [.ref t] ∧ Wd Tb F H ∧ F t = some (.tup xs) ∧ Alls (StepAt A F) xs p ∧ okStps p ∧ p.length ≤ 100 ∧ ∀ F' H', Ev Tb S0 F H F' H' → Q (.str (progText (invP p))) H'
theorem ok_inverted {f : Addr} {fd : FuncData} (F : L2.Fun K "inverted" "inverted" s_inverted f fd) (T : Txt P K mg A) (F_inverse_text : FnG P w K mg base CX0 1 "inverse_text" P_inverse_text (spInvT Tb)) : FnOk P w K mg base CX0 2 f fd P_inverted (spInvS A Tb) := by
  have sc := sc_inverted
  refine F.ok sc (fun vs H Q E h => ?_) (fun cdv AA outer s H vs Q E hr h => ?_)
  · obtain ⟨F, t, xs, p, rfl, _⟩ := h
    rfl
  · obtain ⟨F, t, xs, p, rfl, W0, ht, hxs, hp, hl, k⟩ := h
    refine ⟨_, (pss_one (ps_ret (pe_joinK (K := K) (pe_glob (v := .str _) rfl T.g_BETWEEN ⟨_, rfl⟩) (pe_lc (own := [("each", 1)]) rfl sc.nd (pi_tupK (K := K) (pe_revTK (K := K) (pv 0))) (blkOk_by (own := [("each", 1)]) (N := N_inverted) (sc := defScope s_inverted) (by decide +kernel)) (fun _ _ _ _ _ => by exact (pg_name (i := 1) sc.nd rfl (Or.inl rfl))) (fun _ _ _ _ _ => by exact pts_nil) (fun _ _ _ _ _ => by exact (pe_fn0 F_inverse_text hr (pa_cons (pe_fldK (K := K) (pv 1)) pa_nil))))))), ?_⟩
    refine ⟨⟨_, rfl⟩, _, rfl, t, xs, rfl, SqT.of (W0.sub _ _ ht), fun r hr => ?_⟩
    have e1 : Ev Tb S0 F H (upd F r (.tup xs.reverse)) (upd H r (.tup xs.reverse)) := Ev.frz W0 hr
    refine ⟨r, rfl, ⟨_, SqT.of upd_same⟩, fun D hD => ?_⟩
    have lx : xs.length = p.length := hxs.length
    have hrev : Alls (StepAt A (upd F r (.tup xs.reverse))) xs.reverse p.reverse := (hxs.mono fun v s h => e1.st h).reverse
    refine lcG (S := S0) (R := StepAt A) (walk_tup (K := K) (a := r) (xs := xs.reverse)) p.reverse (fun s => some (stpText (invStp s))) (fun _ v x => IsStr v x) e1 hrev.length (by rw [List.length_reverse]; omega) hD (fun F F' v b m h => h)
      (fun F' H' e => SqT.of (e.wd.sub _ _ (e.mono _ _ upd_same))) (yAt (fun F F' v s m h => h.mono _ _ m) hrev) (fun x z F2 H2 R R0 hz e2 hx hk hn => ?_) fun F2 H2 ys e2 hD2 hys => ?_
    · obtain ⟨a, dx, fs, rfl, ha, hf⟩ := hx
      exact ⟨rfl, yes_ ⟨_, rfl, a, A.CS, dx, fs, _, rfl, e2.wd.sub _ _ ha, T.clS, T.nSt, hf, F2, z, rfl, e2.wd, hp z (List.mem_reverse.mp hz), fun F3 H3 e3 => hk F3 H3 _ _ rfl e3 rfl⟩⟩
    · rw [fm_some] at hys
      have ey := hys.strs
      have eq : p.reverse.map (fun s => stpText (invStp s)) = (invP p).map stpText := by
        unfold invP
        rw [List.map_map]
        rfl
      rw [eq] at ey
      have ok2 := inv_ok hp
      have l1 := texts_sum ok2
      have l2 : (invP p).length = p.length := by unfold invP; rw [List.length_map, List.length_reverse]
      refine ⟨_, D, (invP p).map stpText, rfl, rfl, .inl (SqL.of (by rw [← ey]; exact e2.wd.sub _ _ hD2)), ?_, k _ _ (e1.trans0 e2)⟩
      rw [then_len, List.length_map]
      omega
abbrev s_Step_init : Stmt := inClass (top 27) 0
abbrev N_Step_init : List Str := [("self" : Str), ("text" : Str), ("words" : Str)]
abbrev P_Step_init : List Str := [("self" : Str), ("text" : Str)]
theorem sc_Step_init : FnScope N_Step_init P_Step_init (defScope s_Step_init) := ⟨rfl, rfl, rfl, by decide +kernel, rfl, by decide +kernel, by decide +kernel⟩
theorem bd_Step_init {K : PySem.W.Frag} {f : Addr} {fd : FuncData} (F : L2.Fun K "__init__" "Step.__init__" s_Step_init f fd) : Binds K fd P_Step_init [] := F.binds fun _ _ _ _ _ _ us hl => match us, hl with | [_, _], _ => rfl

def spStepI (A : Ad) (Tb : List (Addr × Str)) : Sp := fun vs H Q _ => ∃ (F : Hp) (a dx : Addr) (s : Stp), vs = [.ref a, .str (stpText s)] ∧ Wd Tb F H ∧ s ∈ allStps ∧ H a = some (.ins A.CS dx []) ∧ F a = none ∧
  ∀ F' H' fs, Ev Tb (· = a) F H F' H' → H' a = some (.ins A.CS dx fs) → fs.lookup ("text" : Str) = some (.str (stpText s)) → Q .non H'
theorem ok_step_init {f : Addr} {fd : FuncData} (F : L2.Fun K "__init__" "Step.__init__" s_Step_init f fd) (T : Txt P K mg A) (F_is_step_text : FnG P w K mg base CX0 2 "is_step_text" P_is_step_text (spIsStep Tb)) : FnOk P w K mg base CX0 3 f fd P_Step_init (spStepI A Tb) := by
  have sc := sc_Step_init
  refine F.ok sc (fun vs H Q E h => ?_) (fun cdv AA outer s H vs Q E hr h => ?_)
  · obtain ⟨F, a, dx, s, rfl, _⟩ := h
    rfl
  · obtain ⟨F, a, dx, z, rfl, W0, hz, ha, fa, k⟩ := h
    refine ⟨_, (pss_cons (ps_if (pt_not (pt_val (pe_fn0 F_is_step_text hr (pa_cons (pv 1) pa_nil)))) (pss_one ps_never) pss_nil)
      (pss_cons (ps_fldK (K := K) (pv 0) (pv 1))
      (pss_cons (ps_fldK (K := K) (pv 0) (pv 1))
      (pss_cons (ps_fldK (K := K) (pv 0) pe_non)
      (pss_cons (ps_fldK (K := K) (pv 0) pe_non)
      (pss_cons (ps_set (i := 2) sc.nd rfl (Or.inl rfl) (pe_split (pv 1) pe_str))
      (pss_one (ps_if (pt_cmpR (op_notIn_seqK (K := K)) (pv 1) (pe_glob (v := .ref _) rfl T.g_PLAIN rfl) (by with_unfolding_all rfl)) (pss_cons (ps_fldK (K := K) (pv 0) (pe_ix (ix_listK (K := K)) (pv 2) pe_int (fun _ _ => rfl)))
      (pss_cons (ps_if (pt_cmpR op_ne (pe_ix (ix_listK (K := K)) (pv 2) pe_int (fun _ _ => rfl)) pe_str (nomark _)) (pss_one (ps_fldK (K := K) (pv 0) (pe_callTy call_int_str (by rfl) T.z_int (by decide +kernel) (pa_cons (pe_ix (ix_listK (K := K)) (pv 2) pe_int (fun _ _ => rfl)) pa_nil)))) pss_nil)
      (pss_one (ps_if (pt_cmpR op_eq (pe_ix (ix_listK (K := K)) (pv 2) (pe_un un_neg pe_int) (fun _ _ => rfl)) pe_str (nomark _)) (pss_one (ps_fldK (K := K) (pv 0) (pe_tup (pa_cons (pe_callTy call_int_str (by rfl) T.z_int (by decide +kernel) (pa_cons (pe_ix (ix_listK (K := K)) (pv 2) (pe_un un_neg pe_int) (fun _ _ => rfl)) pa_nil)) (pa_cons (pe_callTy call_int_str (by rfl) T.z_int (by decide +kernel) (pa_cons (pe_ix (ix_listK (K := K)) (pv 2) (pe_un un_neg pe_int) (fun _ _ => rfl)) pa_nil)) pa_nil))))) pss_nil)))) pss_nil)))))))), ?_⟩
    have L := (stpF hz).len
    refine ⟨_, rfl, F, z, rfl, W0, hz, fun F1 H1 e1 => ⟨_, rfl, itF rfl ?_⟩⟩
    have ha1 := e1.kp ha
    have fa1 := e1.nf ha fa
    refine ⟨_, rfl, _, rfl, put_ e1.wd ha1 fa1 T.clS T.nSt (by decide) fun H2 e2 ha2 => ?_⟩
    have fa2 := e2.nf ha1 fa1
    refine ⟨_, rfl, _, rfl, put_ e2.wd ha2 fa2 T.clS T.nSk (by show 1 < 1000; decide) fun H3 e3 ha3 => ?_⟩
    have fa3 := e3.nf ha2 fa2
    have q3 : (putF ("kind" : Str) (V.str (stpText z)) (putF ("text" : Str) (V.str (stpText z)) [])).length ≤ 2 := Nat.le_trans (length_putF _ _ _) (by exact Nat.succ_le_succ (length_putF _ _ _))
    refine ⟨_, rfl, put_ e3.wd ha3 fa3 T.clS T.nSb (by omega) fun H4 e4 ha4 => ?_⟩
    have fa4 := e4.nf ha3 fa3
    have q4 := length_putF ("by" : Str) V.non (putF ("kind" : Str) (V.str (stpText z)) (putF ("text" : Str) (V.str (stpText z)) []))
    refine ⟨_, rfl, put_ e4.wd ha4 fa4 T.clS T.nSr (by omega) fun H5 e5 ha5 => ?_⟩
    have fa5 := e5.nf ha4 fa4
    have q5 := length_putF ("rest" : Str) V.non (putF ("by" : Str) V.non (putF ("kind" : Str) (V.str (stpText z)) (putF ("text" : Str) (V.str (stpText z)) [])))
    have t5 : (putF ("rest" : Str) V.non (putF ("by" : Str) V.non (putF ("kind" : Str) (V.str (stpText z)) (putF ("text" : Str) (V.str (stpText z)) [])))).lookup ("text" : Str) = some (.str (stpText z)) :=
      look_put (look_put (look_put (by rw [lookup_putF, if_pos rfl]) k_tk) k_tb) k_tr
    generalize putF ("rest" : Str) V.non (putF ("by" : Str) V.non (putF ("kind" : Str) (V.str (stpText z)) (putF ("text" : Str) (V.str (stpText z)) []))) = fs5 at *
    have l5 : fs5.length ≤ 4 := by omega
    have e15 : Ev Tb (· = a) F H F1 H5 := (((e1.to0.then e2).then e3).then e4).then e5
    clear e1 e2 e3 e4 q3 q4 q5 ha1 ha2 ha3 ha4 fa1 fa2 fa3 fa4 ha fa
    have W5 := e5.wd
    clear e5
    refine ⟨_, rfl, ⟨_, rfl⟩, _, _, rfl, rfl, by rw [sp_len]; rfl, szN (by omega), fun p hp => ?_⟩
    have e6 := Ev.new (S := S0) (o := .lst ((wds z).map V.str)) W5 hp
    have hp6 : upd H5 p (.lst ((wds z).map V.str)) p = some (.lst ((wds z).map V.str)) := upd_same
    have ha6 := e6.kp ha5
    have fa6 := e6.nf ha5 fa5
    have fin : ∀ H7 fs7, Ev Tb (· = a) F1 (upd H5 p (.lst ((wds z).map V.str))) F1 H7 → H7 a = some (.ins A.CS dx fs7) → fs7.lookup ("text" : Str) = some (.str (stpText z)) → Q .non H7 := fun H7 fs7 e7 h7 t7 => k F1 H7 fs7 ((e15.trans0 e6).then e7) h7 t7
    change tIfS (tTest (tOp (rIn K true) (tVar 1) (tC (.ref A.aPlain)))) _ _ _ _ (upd H5 p (.lst ((wds z).map V.str)))
    refine ⟨_, rfl, A.aPlain, _, rfl, .inr (T.s_PLAIN _), rfl, flat_strs _, _, rfl, ?_⟩
    show if (!L2.inV (.str (stpText z)) (plainK.map V.str)) = true then _ else _
    rw [inV_str]
    cases shp hz with
    | plain hb hr' m kk w0 ws e n =>
      rw [decide_eq_true m]
      exact itF rfl (fin _ fs5 (Ev.refl e6.wd) ha6 t5)
    | flip x y hb hr' m kk e hx hy nx ny x0 xy y4 =>
      rw [decide_eq_false m]
      refine itT rfl ?_
      rw [e] at hp6 e6 ha6 fin ⊢
      have sl := SqL.of (K := K) hp6
      refine ⟨_, rfl, p, _, 0, _, rfl, rfl, sl, atI_nat (j := 0) rfl, _, rfl, put_ e6.wd ha6 fa6 T.clS T.nSk (by omega) fun H7 e7 ha7 => ?_⟩
      have pa : p ≠ a := fun z => by rw [z, ha5] at hp; cases hp
      have fa7 := e7.nf ha6 fa6
      have sl7 := SqL.of (K := K) (e7.kp hp6 pa)
      have t7 := look_put (f := ("kind" : Str)) (v := V.str "flip") t5 k_tk
      have l7 := length_putF ("kind" : Str) (V.str "flip") fs5
      refine ⟨_, rfl, p, _, 0, _, rfl, rfl, sl7, atI_nat (j := 0) rfl, rfl, _, rfl, itF rfl ?_⟩
      unfold tNext
      dsimp only
      refine ⟨_, rfl, 2, rfl, p, _, -2, _, rfl, rfl, sl7, rfl, rfl, _, rfl, itT rfl ?_⟩
      refine ⟨_, rfl, 3, rfl, p, _, -3, _, rfl, rfl, sl7, rfl, _, x, rfl, nx, at_len _ hx, _, rfl, 1, rfl, p, _, -1, _, rfl, rfl, sl7, rfl, _, y, rfl, ny, of_len _ hy, sz2, fun t ht => ?_⟩
      have e8 := Ev.new (S := (· = a)) (o := .tup [V.int x, .int y]) e7.wd ht
      have e8' := Ev.new (S := S0) (o := .tup [V.int x, .int y]) e7.wd ht
      exact ⟨_, rfl, put_ e8.wd (e8'.kp ha7) (e8'.nf ha7 fa7) T.clS T.nSr (by omega) fun H9 e9 ha9 => fin H9 _ ((e7.then e8).then e9) ha9 (look_put t7 k_tr)⟩
    | two i hb hr' m e kk hs ni i0 i1 =>
      rw [decide_eq_false m]
      refine itT rfl ?_
      rw [e] at hp6 e6 ha6 fin ⊢
      have sl := SqL.of (K := K) hp6
      have pa : p ≠ a := fun z => by rw [z, ha5] at hp; cases hp
      refine ⟨_, rfl, p, _, 0, _, rfl, rfl, sl, atI_nat (j := 0) rfl, _, rfl, put_ e6.wd ha6 fa6 T.clS T.nSk (by omega) fun H7 e7 ha7 => ?_⟩
      have fa7 := e7.nf ha6 fa6
      have sl7 := SqL.of (K := K) (e7.kp hp6 pa)
      have t7 := look_put (f := ("kind" : Str)) (v := V.str z.kind) t5 k_tk
      have l7 := length_putF ("kind" : Str) (V.str z.kind) fs5
      refine ⟨_, rfl, p, _, 0, _, rfl, rfl, sl7, atI_nat (j := 0) rfl, rfl, _, rfl, ?_⟩
      show if (!decide (V.str z.kind = V.str "flip")) = true then _ else _
      rw [dec_str, decide_eq_false (shk_ne _ kk)]
      refine itT rfl ⟨_, rfl, p, _, 1, _, rfl, rfl, sl7, atI_nat (j := 1) rfl, _, i, rfl, ni, sh_len _ hs, _, rfl, put_ e7.wd ha7 fa7 T.clS T.nSb (by omega) fun H8 e8 ha8 => ?_⟩
      have fa8 := e8.nf ha7 fa7
      have sl8 := SqL.of (K := K) (e8.kp (e7.kp hp6 pa) pa)
      have t8 := look_put (f := ("by" : Str)) (v := V.int i) t7 k_tb
      have l8 := length_putF ("by" : Str) (V.int i) (putF ("kind" : Str) (V.str z.kind) fs5)
      refine ⟨_, rfl, 2, rfl, p, _, -2, _, rfl, rfl, sl8, rfl, rfl, _, rfl, ?_⟩
      rw [dec_str, decide_eq_false (shk_of _ kk)]
      exact itF rfl (fin H8 _ (e7.then e8) ha8 t8)
    | six i x y hb hr' m e kk kr hs ni i0 i1 hx hy nx ny x0 xy y4 ns =>
      rw [decide_eq_false m]
      refine itT rfl ?_
      rw [e] at hp6 e6 ha6 fin ⊢
      have sl := SqL.of (K := K) hp6
      have pa : p ≠ a := fun z => by rw [z, ha5] at hp; cases hp
      refine ⟨_, rfl, p, _, 0, _, rfl, rfl, sl, atI_nat (j := 0) rfl, _, rfl, put_ e6.wd ha6 fa6 T.clS T.nSk (by omega) fun H7 e7 ha7 => ?_⟩
      have fa7 := e7.nf ha6 fa6
      have sl7 := SqL.of (K := K) (e7.kp hp6 pa)
      have t7 := look_put (f := ("kind" : Str)) (v := V.str z.kind) t5 k_tk
      have l7 := length_putF ("kind" : Str) (V.str z.kind) fs5
      refine ⟨_, rfl, p, _, 0, _, rfl, rfl, sl7, atI_nat (j := 0) rfl, rfl, _, rfl, ?_⟩
      show if (!decide (V.str z.kind = V.str "flip")) = true then _ else _
      rw [dec_str, decide_eq_false (shk_ne _ kk)]
      refine itT rfl ⟨_, rfl, p, _, 1, _, rfl, rfl, sl7, atI_nat (j := 1) rfl, _, i, rfl, ni, sh_len _ hs, _, rfl, put_ e7.wd ha7 fa7 T.clS T.nSb (by omega) fun H8 e8 ha8 => ?_⟩
      have fa8 := e8.nf ha7 fa7
      have sl8 := SqL.of (K := K) (e8.kp (e7.kp hp6 pa) pa)
      have t8 := look_put (f := ("by" : Str)) (v := V.int i) t7 k_tb
      have l8 := length_putF ("by" : Str) (V.int i) (putF ("kind" : Str) (V.str z.kind) fs5)
      refine ⟨_, rfl, 2, rfl, p, _, -2, _, rfl, rfl, sl8, rfl, rfl, _, rfl, itT rfl ?_⟩
      refine ⟨_, rfl, 3, rfl, p, _, -3, _, rfl, rfl, sl8, rfl, _, x, rfl, nx, at_len _ hx, _, rfl, 1, rfl, p, _, -1, _, rfl, rfl, sl8, rfl, _, y, rfl, ny, of_len _ hy, sz2, fun t ht => ?_⟩
      have e9 := Ev.new (S := (· = a)) (o := .tup [V.int x, .int y]) e8.wd ht
      have e9' := Ev.new (S := S0) (o := .tup [V.int x, .int y]) e8.wd ht
      exact ⟨_, rfl, put_ e9.wd (e9'.kp ha8) (e9'.nf ha8 fa8) T.clS T.nSr (by omega) fun H10 e10 ha10 => fin H10 _ (((e7.then e8).then e9).then e10) ha10 (look_put t8 k_tr)⟩
end
end K64
/-! ## KP4 -/
set_option Elab.async false
set_option linter.all false
set_option maxRecDepth 100000
set_option maxHeartbeats 2000000
namespace K64
open PySem PySem.Spec PyProof.Rows L2 LamX
theorem deal_fm : ∀ {p : List Stp}, okStps p → ((p.map stpText).filterMap fun x => if (decide (x = ("deal" : Str)) || decide (x = ("undeal" : Str))) = true then some x else none).length = deals p
  | [], _ => rfl
  | s :: p, h => by
    have ih := deal_fm (p := p) fun x hx => h x (List.mem_cons_of_mem _ hx)
    have f := stpF (h s List.mem_cons_self)
    have e : (decide (stpText s = ("deal" : Str)) || decide (stpText s = ("undeal" : Str))) = dealK s := by
      unfold dealK
      rw [decide_eq_decide.mpr f.deal, decide_eq_decide.mpr f.undeal]
    unfold deals at ih ⊢
    rw [List.map_cons, List.filterMap_cons, List.filter_cons, e]
    by_cases q : dealK s = true
    · rw [if_pos q, if_pos q, List.length_cons, List.length_cons, ih]
    · rw [if_neg q, if_neg q, ih]
theorem then_ne : ((" then " : Str).length == 0) = false := by decide +kernel
section
variable {P : Program} {w : World} {K : PySem.W.Frag} {mg : Str → Option Value} {base : Heap} {A : Ad} {Tb : List (Addr × Str)}
theorem frz_at {F1 : Hp} {x : Addr} {o : HO} (f : F1 x = none) : Same F1 (upd F1 x o) := fun b u e => by
  rw [upd_ne (ne_of_none e f)]
  exact e
/-- Step(text) -/
theorem mk_step {F H : Hp} {s : Stp} {Q : VK} {E : XK} (w : Wd Tb F H) (hs : s ∈ allStps) (k : ∀ F' H' r, Ev Tb S0 F H F' H' → StepAt A F' r s → Q r H') :
    ∀ x dx, H x = none → H dx = none → dx ≠ x → spStepI A Tb (.ref x :: ([.str (stpText s)] ++ [])) (upd (upd H dx (.own x)) x (.ins A.CS dx [])) (fun v H2 => v = .non ∧ Q (.ref x) H2) E := by
  intro x dx hx hdx ne
  have e1 : Ev Tb S0 F H F (upd H dx (.own x)) := Ev.new w hdx
  have hx1 : upd H dx (.own x) x = none := by rw [upd_ne (Ne.symm ne)]; exact hx
  have e2 : Ev Tb S0 F (upd H dx (.own x)) F (upd (upd H dx (.own x)) x (.ins A.CS dx [])) := Ev.new e1.wd hx1
  refine ⟨F, x, dx, s, rfl, e2.wd, hs, upd_same, w.none hx, fun F' H' fs e3 h3 t3 => ⟨rfl, ?_⟩⟩
  have e123 : Ev Tb S0 F H F' H' := (e1.trans0 e2).trans e3 (fun _ z => z) fun b hb => .inr (by rw [hb]; exact hx)
  have f3 := e3.nf (a := x) upd_same (w.none hx)
  exact k _ _ _ (e123.freeze hx h3 f3) ⟨x, dx, fs, rfl, upd_same, t3⟩
abbrev s_Program_init : Stmt := inClass (top 37) 0
abbrev N_Program_init : List Str := [("self" : Str), ("text" : Str), ("parts" : Str), ("index" : Str), ("part" : Str)]
abbrev P_Program_init : List Str := [("self" : Str), ("text" : Str)]
theorem sc_Program_init : FnScope N_Program_init P_Program_init (defScope s_Program_init) := ⟨rfl, rfl, rfl, by decide +kernel, rfl, by decide +kernel, by decide +kernel⟩
theorem bd_Program_init {K : PySem.W.Frag} {f : Addr} {fd : FuncData} (F : L2.Fun K "__init__" "Program.__init__" s_Program_init f fd) : Binds K fd P_Program_init [] := F.binds fun _ _ _ _ _ _ us hl => match us, hl with | [_, _], _ => rfl

def spProg (A : Ad) (Tb : List (Addr × Str)) : Sp := fun vs H Q E => ∃ (F : Hp) (a dx : Addr) (p : List Stp), vs = [.ref a, .str (progText p)] ∧ Wd Tb F H ∧ okStps p ∧ p.length ≤ 100 ∧ H a = some (.ins A.CP dx []) ∧ F a = none ∧
  (OkP p → ∀ F' H' fs t xs, Ev Tb (· = a) F H F' H' → H' a = some (.ins A.CP dx fs) → fs.lookup ("text" : Str) = some (.str (progText p)) → fs.lookup ("steps" : Str) = some (.ref t) → F' t = some (.tup xs) → Alls (StepAt A F') xs p → Q .non H') ∧
  (5 < p.length → ∀ F' H' d, Ev Tb S0 F H F' H' → H' d = some (.xd [(("most" : Str), .int 5)]) → E (.ref A.xTM) (some d) H') ∧
  (¬ 5 < p.length → 2 < deals p → ∀ F' H' d, Ev Tb S0 F H F' H' → H' d = some (.xd [(("most" : Str), .int 2)]) → E (.ref A.xTM) (some d) H')
/-- text.split(' then ') if text else [] -/
theorem parts_ {F H : Hp} {p : List Stp} {σ : L2.St} {Q : VK} (W0 : Wd Tb F H) (hp : okStps p) (hl : p.length ≤ 100) (h1 : σ[1]? = some (some (.str (progText p)))) (k : ∀ pl H2, Ev Tb S0 F H F H2 → H2 pl = some (.lst ((p.map stpText).map V.str)) → Q (.ref pl) H2) :
    tIf (tTru K (tVar 1)) (tM1 (fun x xs H Q => ∃ a b, x = .str a ∧ xs = [.str b] ∧ (b.length == 0) = false ∧ a.length + 2 ≤ sizeLine ∧ rNewStrs (Txt.split a b) H Q) (tVar 1) (tC (.str " then "))) (tLst tNil) σ H Q := by
  have L := prog_len hp
  refine ⟨_, h1, _, ⟨szN (by omega), rfl⟩, ?_⟩
  by_cases hn : p = []
  · subst hn
    refine itF (by rw [prog_nil]; decide +kernel) ⟨sz0, fun l hl => k l _ (Ev.new W0 hl) upd_same⟩
  · have l1 := prog_pos hp hn
    refine itT (by simp; omega) ⟨_, h1, ⟨_, rfl⟩, _, _, rfl, rfl, then_ne, szN (by omega), fun pl hpl => ?_⟩
    rw [split_prog hp hn]
    exact k pl _ (Ev.new W0 hpl) upd_same
theorem ok_prog_init {f : Addr} {fd : FuncData} (F : L2.Fun K "__init__" "Program.__init__" s_Program_init f fd) (T : Txt P K mg A) (F_is_step_text : FnG P w K mg base CX0 2 "is_step_text" P_is_step_text (spIsStep Tb)) (F_Step_init : MkG P w K mg base CX0 3 A.CS "Step" P_Step_init (spStepI A Tb)) :
    FnOk P w K mg base (L2.CX P w) 5 f fd P_Program_init (spProg A Tb) := by
  have sc := sc_Program_init
  refine F.okX sc (fun vs H Q E h => ?_) (fun cdv AA outer s H vs Q E hr h => ?_)
  · obtain ⟨F, a, dx, p, rfl, _⟩ := h
    rfl
  · obtain ⟨F, a, dx, p, rfl, W0, hp, hlen, ha, fa, k1, k2, k3⟩ := h
    refine ⟨_, (pss_cons (ps_if (pt_not (pt_val (pe_callB (call_isiK (K := K)) (by rfl) T.z_isinstance (by decide +kernel) (pa_cons (pv 1) (pa_cons (pe_bltn (v := .ty "str") (by rfl) T.z_str (by decide +kernel) rfl) pa_nil))))) (pss_one ps_never) pss_nil)
      (pss_cons (ps_set (i := 2) sc.nd rfl (Or.inl rfl) (pe_ifExp (pt_truthK (K := K) (pv 1)) (pe_split (pv 1) (pe_glob (v := .str _) rfl T.g_BETWEEN ⟨_, rfl⟩)) (pe_lst pa_nil)))
      (pss_cons (ps_for (passes_of rfl) rfl (pi_enumK (K := K) (by rfl) T.z_enumerate (pa_cons (pv 2) pa_nil)) (pg_tupK (K := K) (n := 2) (pgs_cons (pg_name (i := 3) sc.nd rfl (Or.inl rfl)) (pgs_cons (pg_name (i := 4) sc.nd rfl (Or.inl rfl)) pgs_nil)))
      (pss_one (ps_if (pt_not (pt_val (pe_fn0 F_is_step_text hr (pa_cons (pv 4) pa_nil)))) (pss_one ps_never) pss_nil)))
      (pss_cons (ps_if (pt_cmpR op_gt (pe_callB (call_len_seqK (K := K)) (by rfl) T.z_len PySem.boot_len (pa_cons (pv 2) pa_nil)) (pe_glob (v := .int _) rfl T.g_MOST_STEPS ⟨_, rfl⟩) (nomark _)) (pss_one (ps_raise rfl (takes_of rfl rfl rfl rfl) (pmk_x1 T.x_TooMany Z_TooMany T.rdT.noN hr (pa_cons (pe_glob (v := .int _) rfl T.g_MOST_STEPS ⟨_, rfl⟩) pa_nil)))) pss_nil)
      (pss_cons (ps_if (pt_cmpR op_gt (pe_callB (call_len_seqK (K := K)) (by rfl) T.z_len PySem.boot_len (pa_cons (pe_lc (own := [("part", 4)]) rfl sc.nd (pi_listK (K := K) (pv 2)) (blkOk_by (own := [("part", 4)]) (N := N_Program_init) (sc := defScope s_Program_init) (by decide +kernel)) (fun _ _ _ _ _ => by exact (pg_name (i := 4) sc.nd rfl (Or.inl rfl))) (fun _ _ _ _ _ => by exact (pts_one (pt_cmpR (op_in_seqK (K := K)) (pv 4) (pe_tup (pa_cons pe_str (pa_cons pe_str pa_nil))) (by with_unfolding_all rfl)))) (fun _ _ _ _ _ => by exact (pv 4))) pa_nil)) (pe_glob (v := .int _) rfl T.g_MOST_DEALS ⟨_, rfl⟩) (nomark _)) (pss_one (ps_raise rfl (takes_of rfl rfl rfl rfl) (pmk_x1 T.x_TooMany Z_TooMany T.rdT.noN hr (pa_cons (pe_glob (v := .int _) rfl T.g_MOST_DEALS ⟨_, rfl⟩) pa_nil)))) pss_nil)
      (pss_cons (ps_fldK (K := K) (pv 0) (pv 1))
      (pss_one (ps_fldK (K := K) (pv 0) (pe_callTy (call_tuple_ofK (K := K)) (by rfl) T.z_tuple (by decide +kernel) (pa_cons (pe_lc (own := [("part", 4)]) rfl sc.nd (pi_listK (K := K) (pv 2)) (blkOk_by (own := [("part", 4)]) (N := N_Program_init) (sc := defScope s_Program_init) (by decide +kernel)) (fun _ _ _ _ _ => by exact (pg_name (i := 4) sc.nd rfl (Or.inl rfl))) (fun _ _ _ _ _ => by exact pts_nil) (fun _ _ _ _ _ => by exact (pe_mk F_Step_init hr pass0 (pa_cons (pv 4) pa_nil)))) pa_nil)))))))))), ?_⟩
    refine ⟨_, rfl, _, _, _, _, true, rfl, .ty "str", .base (.str _), kit_str, true, rfl, ?_⟩
    refine itF rfl ?_
    unfold tNext
    dsimp only
    refine tSeq_ (tAsg_ (parts_ W0 hp hlen rfl fun pl H2 e2 hpl => ?_))
    have la : ((p.map stpText).map V.str).length = p.length := by rw [List.length_map, List.length_map]
    refine ⟨_, rfl, pl, _, rfl, SqL.of hpl, ?_⟩
    refine for_it (walk_enum (K := K) (a := pl) (xs := (p.map stpText).map V.str)) (fun i σ H' => ∃ F' c3 c4, σ = [some (.ref a), some (.str (progText p)), some (.ref pl), c3, c4] ∧ Ev Tb S0 F H2 F' H') ⟨F, none, none, rfl, Ev.refl e2.wd⟩ (fun i σ H' _ ⟨F', c3, c4, _, e⟩ => SqL.of (e.kp hpl)) ?_ ?_
    · rintro i x σ H' H'' hi ⟨F', c3, c4, rfl, e3⟩ ⟨t, u, v, rfl, ht, rfl, hu, hv⟩
      cases hu
      have e4 := Ev.new (S := S0) (o := .tup [V.int (i : Nat), v]) e3.wd ht
      dsimp only at hv
      rw [List.getElem?_map, List.getElem?_map] at hv
      obtain ⟨s, hs, rfl⟩ : ∃ s, p[i]? = some s ∧ v = .str (stpText s) := by
        cases q : p[i]? with
        | none => rw [q] at hv; cases hv
        | some s => rw [q] at hv; exact ⟨s, rfl, (Option.some.inj hv).symm⟩
      refine ⟨t, _, rfl, SqT.of upd_same, rfl, _, _, rfl, _, _, rfl, rfl, ?_⟩
      exact ⟨_, rfl, F', s, rfl, e4.wd, hp s (List.mem_of_getElem? hs), fun F5 H5 e5 => ⟨_, rfl, itF rfl ⟨F5, _, _, rfl, (e3.trans0 e4).trans0 e5⟩⟩⟩
    · rintro σ H' ⟨F', c3, c4, rfl, e3⟩
      have e23 := e2.trans0 e3
      have hpl3 := e3.kp hpl
      refine ⟨_, rfl, pl, _, rfl, .inl (SqL.of hpl3), _, _, rfl, rfl, _, rfl, ?_⟩
      rw [la]
      refine it2 (fun h => ?_) (fun h => ?_)
      · have h5 : 5 < p.length := by have := of_decide_eq_true h; omega
        refine ⟨_, rfl, fun d hd => ?_⟩
        exact k2 h5 F' _ d (e23.trans0 (Ev.new e3.wd hd)) upd_same
      have h5 : ¬ 5 < p.length := by have := of_decide_eq_false h; omega
      dsimp only
      refine tSeq_ (tIfS_ (tTest_ (tOp_ (tCB_ (tCons_ ?_)))))
      refine ⟨_, rfl, pl, rfl, ⟨_, SqL.of hpl3⟩, fun D hD => ?_⟩
      have hal : Alls (fun v x => IsStr v x) ((p.map stpText).map V.str) (p.map stpText) := alls_strs _
      refine lcG (S := S0) (R := fun _ v x => IsStr v x) (walk_list (K := K) (a := pl) (xs := (p.map stpText).map V.str)) (p.map stpText) (fun x => if (decide (x = ("deal" : Str)) || decide (x = ("undeal" : Str))) = true then some x else none) (fun _ v x => IsStr v x) (Ev.refl e3.wd) (by rw [List.length_map]) (by omega) hD (fun F F' v b m h => h)
        (fun F4 H4 e => SqL.of (e.kp hpl3)) (yAt (fun F F' v b m h => h) hal) (fun x z F4 H4 R R0 hz e4 hx hk hn => ?_) fun F4 H4 ys e4 hD4 hys => ?_
      · obtain rfl : x = .str z := hx
        refine ⟨rfl, _, rfl, sz2, fun t ht => ?_⟩
        obtain ⟨e5, h5⟩ := new_tup (S := S0) e4.wd ht (.cons (.str "deal") (.cons (.str "undeal") .nil))
        refine ⟨t, _, rfl, .inr (SqT.of upd_same), rfl, rfl, _, rfl, ?_⟩
        show if (L2.inV (.str z) [V.str "deal", V.str "undeal"]) = true then _ else _
        rw [in_deals]
        refine it2 (fun h => ?_) (fun h => ?_)
        · exact ⟨_, rfl, hk _ _ _ _ (by rw [if_pos h]) e5 rfl⟩
        · exact hn _ _ (by rw [if_neg (by rw [h]; exact Bool.false_ne_true)]) e5
      have ly : ys.length = deals p := by rw [hys.length, deal_fm hp]
      have e34 := e3.trans0 e4
      refine ⟨D, ys, rfl, .inl (SqL.of (e4.wd.sub _ _ hD4)), _, _, rfl, rfl, _, rfl, ?_⟩
      rw [ly]
      refine it2 (fun h => ?_) (fun h => ?_)
      · have h2 : 2 < deals p := by have := of_decide_eq_true h; omega
        refine ⟨_, rfl, fun d hd => ?_⟩
        exact k3 h5 h2 F4 _ d ((e2.trans0 e34).trans0 (Ev.new e4.wd hd)) upd_same
      have h2 : ¬ 2 < deals p := by have := of_decide_eq_false h; omega
      have e24 := e2.trans0 e34
      have hpl4 := e34.kp hpl
      have ha4 := e24.kp ha
      have fa4 := e24.nf ha fa
      refine ⟨_, rfl, _, rfl, put_ e24.wd ha4 fa4 T.clP T.nPt (by decide) fun H5 e5 ha5 => ?_⟩
      have fa5 := e5.nf ha4 fa4
      have pa : pl ≠ a := fun z => by
        have := e24.kp ha
        rw [← z, hpl4] at this
        cases this
      have hpl5 := e5.kp hpl4 pa
      dsimp only
      refine ⟨_, rfl, pl, rfl, ⟨_, SqL.of hpl5⟩, fun D2 hD2 => ?_⟩
      refine lcG (S := S0) (R := fun _ v s => v = .str (stpText s)) (walk_list (K := K) (a := pl) (xs := (p.map stpText).map V.str)) p (fun s => some s) (StepAt A) (Ev.refl e5.wd) la (by omega) hD2 (fun F F' v b m h => h.mono _ _ m)
        (fun F6 H6 e => SqL.of (e.kp hpl5)) (yAt (fun F F' v b m h => h) (by rw [List.map_map]; exact Alls.ofMap (f := V.str ∘ stpText) (R := fun x z => x = V.str (stpText z)) (fun s => rfl) p)) (fun x z F6 H6 R R0 hz e6 hx hk hn => ?_) fun F6 H6 ys2 e6 hD6 hys2 => ?_
      · obtain rfl : x = .str (stpText z) := hx
        exact ⟨rfl, yes_ ⟨_, rfl, mk_step e6.wd (hp z hz) fun F7 H7 r e7 hr => hk F7 H7 r _ rfl e7 hr⟩⟩
      have eid : p.filterMap (fun s => some s) = p := by rw [fm_some, List.map_id']
      rw [eid] at hys2
      refine ⟨D2, ys2, rfl, .inl ⟨SqL.of (e6.wd.sub _ _ hD6), fun l hl => ?_⟩⟩
      have e7 : Ev Tb S0 F6 H6 (upd F6 l (.tup ys2)) (upd H6 l (.tup ys2)) := Ev.frz e6.wd hl
      have e57 := e6.trans0 e7
      have ha7 := e57.kp ha5
      have fa7 := e57.nf ha5 fa5
      refine ⟨_, rfl, put_ e57.wd ha7 fa7 T.clP T.nPs (by show 1 < 1000; decide) fun H8 e8 ha8 => ?_⟩
      refine k1 ⟨hp, by omega, by omega⟩ _ H8 _ l ys2 ((((e24.to0).then e5).trans0 e57).then e8) ha8 (look_put (by rw [lookup_putF, if_pos rfl]) k_ts) (by rw [lookup_putF, if_pos rfl]) upd_same (hys2.mono fun v s h => e7.st h)
end
end K64
/-! ## KP5 -/
set_option Elab.async false
set_option linter.all false
set_option maxRecDepth 100000
set_option maxHeartbeats 2000000
namespace K64
open PySem PySem.Spec PyProof.Rows L2 LamX
section
variable {P : Program} {w : World} {K : PySem.W.Frag} {mg : Str → Option Value} {base : Heap} {A : Ad} {Tb : List (Addr × Str)}
/-- Program(text) -/
theorem mk_prog {F H : Hp} {p : List Stp} {Q : Addr → Hp → Prop} {E : XK} (w : Wd Tb F H) (hp : okStps p) (hl : p.length ≤ 100) (k1 : OkP p → ∀ F' H' r, Ev Tb S0 F H F' H' → ProgAt A F' (.ref r) p → Q r H')
    (k2 : 5 < p.length → ∀ F' H' d, Ev Tb S0 F H F' H' → H' d = some (.xd [(("most" : Str), .int 5)]) → E (.ref A.xTM) (some d) H')
    (k3 : ¬ 5 < p.length → 2 < deals p → ∀ F' H' d, Ev Tb S0 F H F' H' → H' d = some (.xd [(("most" : Str), .int 2)]) → E (.ref A.xTM) (some d) H') :
    ∀ x dx, H x = none → H dx = none → dx ≠ x → spProg A Tb (.ref x :: ([.str (progText p)] ++ [])) (upd (upd H dx (.own x)) x (.ins A.CP dx [])) (fun v H2 => v = .non ∧ Q x H2) E := by
  intro x dx hx hdx ne
  have e1 : Ev Tb S0 F H F (upd H dx (.own x)) := Ev.new w hdx
  have hx1 : upd H dx (.own x) x = none := by rw [upd_ne (Ne.symm ne)]; exact hx
  have e2 : Ev Tb S0 F (upd H dx (.own x)) F (upd (upd H dx (.own x)) x (.ins A.CP dx [])) := Ev.new e1.wd hx1
  have e12 := e1.trans0 e2
  refine ⟨F, x, dx, p, rfl, e2.wd, hp, hl, upd_same, w.none hx, fun ok F' H' fs t xs e3 h3 t3 s3 ht hxs => ⟨rfl, ?_⟩, fun h F' H' d e3 hd => k2 h F' H' d (e12.trans0 e3) hd, fun h h' F' H' d e3 hd => k3 h h' F' H' d (e12.trans0 e3) hd⟩
  have e123 : Ev Tb S0 F H F' H' := e12.trans e3 (fun _ z => z) fun b hb => .inr (by rw [hb]; exact hx)
  have f3 := e3.nf (a := x) upd_same (w.none hx)
  have sm := frz_at (o := .ins A.CP dx fs) f3
  exact k1 ok _ _ _ (e123.freeze hx h3 f3) ⟨x, dx, fs, t, xs, rfl, upd_same, t3, s3, sm _ _ ht, hxs.mono fun v s h => h.mono _ _ sm⟩
abbrev s_Program_of : Stmt := inClass (top 37) 1
abbrev N_Program_of : List Str := [("cls" : Str), ("steps" : Str), ("index" : Str), ("step" : Str), ("each" : Str)]
abbrev P_Program_of : List Str := [("cls" : Str), ("steps" : Str)]
theorem sc_Program_of : FnScope N_Program_of P_Program_of (defScope s_Program_of) := ⟨rfl, rfl, rfl, by decide +kernel, rfl, by decide +kernel, by decide +kernel⟩
theorem bd_Program_of {K : PySem.W.Frag} {f : Addr} {fd : FuncData} (F : L2.Fun K "of" "Program.of" s_Program_of f fd) : Binds K fd P_Program_of [] := F.binds fun _ _ _ _ _ _ us hl => match us, hl with | [_, _], _ => rfl

def spOf (A : Ad) (Tb : List (Addr × Str)) : Sp := fun vs H Q E => ∃ (F : Hp) (l : Addr) (xs : List V) (p : List Stp), vs = [.ref A.CP, .ref l] ∧ Wd Tb F H ∧ H l = some (.lst xs) ∧ Alls (StepAt A F) xs p ∧ okStps p ∧ p.length ≤ 100 ∧
  (OkP p → ∀ F' H' r, Ev Tb S0 F H F' H' → ProgAt A F' r p → Q r H') ∧ (5 < p.length → ∀ F' H' d, Ev Tb S0 F H F' H' → H' d = some (.xd [(("most" : Str), .int 5)]) → E (.ref A.xTM) (some d) H') ∧
  (¬ 5 < p.length → 2 < deals p → ∀ F' H' d, Ev Tb S0 F H F' H' → H' d = some (.xd [(("most" : Str), .int 2)]) → E (.ref A.xTM) (some d) H')
theorem ok_of {f : Addr} {fd : FuncData} (F : L2.Fun K "of" "Program.of" s_Program_of f fd) (T : Txt P K mg A) (F_Program_init : MkG P w K mg base (L2.CX P w) 5 A.CP "Program" P_Program_init (spProg A Tb)) : FnOk P w K mg base (L2.CX P w) 7 f fd P_Program_of (spOf A Tb) := by
  have sc := sc_Program_of
  refine F.okX sc (fun vs H Q E h => ?_) (fun cdv AA outer s H vs Q E hr h => ?_)
  · obtain ⟨F, l, xs, p, rfl, _⟩ := h
    rfl
  · obtain ⟨F, l, xs, p, rfl, W0, hl, hxs, hp, hlen, k1, k2, k3⟩ := h
    refine ⟨_, (pss_cons (ps_for (passes_of rfl) rfl (pi_enumK (K := K) (by rfl) T.z_enumerate (pa_cons (pv 1) pa_nil)) (pg_tupK (K := K) (n := 2) (pgs_cons (pg_name (i := 2) sc.nd rfl (Or.inl rfl)) (pgs_cons (pg_name (i := 3) sc.nd rfl (Or.inl rfl)) pgs_nil)))
      (pss_one (ps_if (pt_not (pt_val (pe_callB (call_isiK (K := K)) (by rfl) T.z_isinstance (by decide +kernel) (pa_cons (pv 3) (pa_cons (pe_glob (v := .ref _) rfl T.g_Step rfl) pa_nil))))) (pss_one ps_never) pss_nil)))
      (pss_one (ps_ret (pe_makeL F_Program_init hr (passE (takes_of rfl rfl rfl rfl)) (i := 0) rfl (Or.inl rfl) (pa_cons (pe_joinK (K := K) (pe_glob (v := .str _) rfl T.g_BETWEEN ⟨_, rfl⟩) (pe_lc (own := [("each", 4)]) rfl sc.nd (pi_listK (K := K) (pv 1)) (blkOk_by (own := [("each", 4)]) (N := N_Program_of) (sc := defScope s_Program_of) (by decide +kernel)) (fun _ _ _ _ _ => by exact (pg_name (i := 4) sc.nd rfl (Or.inl rfl))) (fun _ _ _ _ _ => by exact pts_nil) (fun _ _ _ _ _ => by exact (pe_fldK (K := K) (pv 4))))) pa_nil))))), ?_⟩
    have lx := hxs.length
    refine ⟨_, rfl, l, _, rfl, SqL.of hl, ?_⟩
    refine for_it (walk_enum (K := K) (a := l) (xs := xs)) (fun i σ H' => ∃ F' c3 c4, σ = [some (.ref A.CP), some (.ref l), c3, c4, none] ∧ Ev Tb S0 F H F' H') ⟨F, none, none, rfl, Ev.refl W0⟩ (fun i σ H' _ ⟨F', c3, c4, _, e⟩ => SqL.of (e.kp hl)) ?_ ?_
    · rintro i x σ H' H'' hi ⟨F', c3, c4, rfl, e3⟩ ⟨t, u, v, rfl, ht, rfl, hu, hv⟩
      cases hu
      have e4 := Ev.new (S := S0) (o := .tup [V.int (i : Nat), v]) e3.wd ht
      dsimp only at hv
      obtain ⟨s, hs, hst⟩ := hxs.get hv
      obtain ⟨a, dx, fs, rfl, ha, hf⟩ := e3.st hst
      refine ⟨t, _, rfl, SqT.of upd_same, rfl, _, _, rfl, _, _, rfl, rfl, ?_⟩
      exact ⟨_, rfl, _, _, _, _, true, rfl, .own _, T.isaS (e4.wd.sub _ _ (e4.mono _ _ ha)), T.isS, true, rfl, itF rfl ⟨F', _, _, rfl, e3.trans0 e4⟩⟩
    · rintro σ H' ⟨F', c3, c4, rfl, e3⟩
      have hl3 := e3.kp hl
      refine ⟨rfl, ⟨_, rfl⟩, _, rfl, l, rfl, ⟨_, SqL.of hl3⟩, fun D hD => ?_⟩
      refine lcG (S := S0) (R := StepAt A) (walk_list (K := K) (a := l) (xs := xs)) p (fun s => some (stpText s)) (fun _ v x => IsStr v x) (Ev.refl e3.wd) lx (by omega) hD (fun F F' v b m h => h)
        (fun F4 H4 e => SqL.of (e.kp hl3)) (yAt (fun F F' v b m h => h.mono _ _ m) (hxs.mono fun v s h => e3.st h)) (fun x z F4 H4 R R0 hz e4 hx hk hn => ?_) fun F4 H4 ys e4 hD4 hys => ?_
      · obtain ⟨a, dx, fs, rfl, ha, hf⟩ := hx
        exact ⟨rfl, yes_ ⟨_, rfl, a, A.CS, dx, fs, _, rfl, e4.wd.sub _ _ ha, T.clS, T.nSt, hf, hk F4 H4 _ _ rfl (Ev.refl e4.wd) rfl⟩⟩
      · rw [fm_some] at hys
        have ey := hys.strs
        have l1 := texts_sum hp
        refine ⟨_, D, p.map stpText, rfl, rfl, .inl (SqL.of (by rw [← ey]; exact e4.wd.sub _ _ hD4)), ?_, ?_⟩
        · rw [then_len, List.length_map]
          omega
        · have e34 := e3.trans0 e4
          exact mk_prog e4.wd hp hlen (fun ok F5 H5 r e5 hr => k1 ok F5 H5 (.ref r) (e34.trans0 e5) hr) (fun h F5 H5 d e5 hd => k2 h F5 H5 d (e34.trans0 e5) hd) (fun h h' F5 H5 d e5 hd => k3 h h' F5 H5 d (e34.trans0 e5) hd)
abbrev s_Program_eq : Stmt := inClass (top 37) 2
abbrev N_Program_eq : List Str := [("self" : Str), ("other" : Str)]
abbrev P_Program_eq : List Str := [("self" : Str), ("other" : Str)]
theorem sc_Program_eq : FnScope N_Program_eq P_Program_eq (defScope s_Program_eq) := ⟨rfl, rfl, rfl, by decide +kernel, rfl, by decide +kernel, by decide +kernel⟩
theorem bd_Program_eq {K : PySem.W.Frag} {f : Addr} {fd : FuncData} (F : L2.Fun K "__eq__" "Program.__eq__" s_Program_eq f fd) : Binds K fd P_Program_eq [] := F.binds fun _ _ _ _ _ _ us hl => match us, hl with | [_, _], _ => rfl

def spPEq (A : Ad) : Sp := fun vs H Q _ => ∃ (F : Hp) (v u : V) (p q : List Stp), vs = [v, u] ∧ Same F H ∧ ProgAt A F v p ∧ ProgAt A F u q ∧ Q (.bl (decide (progText p = progText q))) H
theorem ok_peq {f : Addr} {fd : FuncData} (F : L2.Fun K "__eq__" "Program.__eq__" s_Program_eq f fd) (T : Txt P K mg A) : FnOk P w K mg base CX0 1 f fd P_Program_eq (spPEq A) := by
  have sc := sc_Program_eq
  refine F.ok sc (fun vs H Q E h => ?_) (fun cdv AA outer s H vs Q E hr h => ?_)
  · obtain ⟨F, v, u, p, q, rfl, _⟩ := h
    rfl
  · obtain ⟨F, v, u, p, q, rfl, sub, ⟨a, dx, fs, t, xs, rfl, ha, hat, _⟩, ⟨b, dy, gs, t2, ys, rfl, hb, hbt, _⟩, k⟩ := h
    refine ⟨_, (pss_one (ps_ret (pe_and (pe_callB (call_isiK (K := K)) (by rfl) T.z_isinstance (by decide +kernel) (pa_cons (pv 1) (pa_cons (pe_glob (v := .ref _) rfl T.g_Program rfl) pa_nil))) (pe_one (pe_cmpR op_eq (pe_fldK (K := K) (pv 0)) (pe_fldK (K := K) (pv 1)) (nomark _)))))), ?_⟩
    refine ⟨_, rfl, _, _, _, _, true, rfl, .own _, T.isaP (sub _ _ hb), T.isP, true, rfl, itT rfl ?_⟩
    refine ⟨_, rfl, a, A.CP, dx, fs, _, rfl, sub _ _ ha, T.clP, T.nPt, hat, _, rfl, b, A.CP, dy, gs, _, rfl, sub _ _ hb, T.clP, T.nPt, hbt, rfl, ?_⟩
    show Q (.bl (decide (V.str (progText p) = V.str (progText q)))) H
    rw [dec_str]
    exact k
abbrev s_Program_invert : Stmt := inClass (top 37) 9
abbrev N_Program_invert : List Str := [("self" : Str)]
abbrev P_Program_invert : List Str := [("self" : Str)]
theorem sc_Program_invert : FnScope N_Program_invert P_Program_invert (defScope s_Program_invert) := ⟨rfl, rfl, rfl, by decide +kernel, rfl, by decide +kernel, by decide +kernel⟩
theorem bd_Program_invert {K : PySem.W.Frag} {f : Addr} {fd : FuncData} (F : L2.Fun K "__invert__" "Program.__invert__" s_Program_invert f fd) : Binds K fd P_Program_invert [] := F.binds fun _ _ _ _ _ _ us hl => match us, hl with | [_], _ => rfl

def spPInv (A : Ad) (Tb : List (Addr × Str)) : Sp := fun vs H Q _ => ∃ (F : Hp) (v : V) (p : List Stp), vs = [v] ∧ Wd Tb F H ∧ ProgAt A F v p ∧ OkP p ∧ ∀ F' H' r, Ev Tb S0 F H F' H' → ProgAt A F' r (invP p) → Q r H'
theorem ok_pinv {f : Addr} {fd : FuncData} (F : L2.Fun K "__invert__" "Program.__invert__" s_Program_invert f fd) (T : Txt P K mg A) (F_Program_init : MkG P w K mg base (L2.CX P w) 5 A.CP "Program" P_Program_init (spProg A Tb)) (F_inverted : FnG P w K mg base CX0 2 "inverted" P_inverted (spInvS A Tb)) :
    FnOk P w K mg base CX0 7 f fd P_Program_invert (spPInv A Tb) := by
  have sc := sc_Program_invert
  refine F.ok sc (fun vs H Q E h => ?_) (fun cdv AA outer s H vs Q E hr h => ?_)
  · obtain ⟨F, v, p, rfl, _⟩ := h
    rfl
  · obtain ⟨F, v, p, rfl, W0, ⟨a, dx, fs, t, xs, rfl, ha, hat, has, ht, hxs⟩, hp, k⟩ := h
    refine ⟨_, (pss_one (ps_ret (pe_mk F_Program_init hr pass0X (pa_cons (pe_fn0 F_inverted hr (pa_cons (pe_fldK (K := K) (pv 0)) pa_nil)) pa_nil)))), ?_⟩
    refine ⟨_, rfl, a, A.CP, dx, fs, _, rfl, W0.sub _ _ ha, T.clP, T.nPs, has, F, t, xs, p, rfl, W0, ht, hxs, hp.st, by have := hp.len; omega, fun F1 H1 e1 => ?_⟩
    have hi := hp.inv
    exact mk_prog e1.wd hi.st (by have := hi.len; omega) (fun ok F2 H2 r e2 hr => k F2 H2 (.ref r) (e1.trans0 e2) hr) (fun h => absurd h (by have := hi.len; omega)) (fun _ h => absurd h (by have := hi.dl; omega))
abbrev s_is_name : Stmt := top 44
abbrev N_is_name : List Str := [("name" : Str), ("letter" : Str)]
abbrev P_is_name : List Str := [("name" : Str)]
theorem sc_is_name : FnScope N_is_name P_is_name (defScope s_is_name) := ⟨rfl, rfl, rfl, by decide +kernel, rfl, by decide +kernel, by decide +kernel⟩
theorem bd_is_name {K : PySem.W.Frag} {f : Addr} {fd : FuncData} (F : L2.Fun K "is_name" "is_name" s_is_name f fd) : Binds K fd P_is_name [] := F.binds fun _ _ _ _ _ _ us hl => match us, hl with | [_], _ => rfl

def spIsName (Tb : List (Addr × Str)) : Sp := fun vs H Q _ => ∃ (F : Hp) (x : Str) (b : Bool), vs = [.str x] ∧ Wd Tb F H ∧ ((NmOk x ∧ b = true) ∨ (x = ("9" : Str) ∧ b = false)) ∧ ∀ F' H', Ev Tb S0 F H F' H' → Q (.bl b) H'
theorem abc_all : ∀ c, c < 123 → 97 ≤ c → c ∈ TL.tl ("abcdefghijklmnopqrstuvwxyz" : Str) := by decide +kernel
def inAbc (c : Nat) : Bool := decide (c ∈ TL.tl ("abcdefghijklmnopqrstuvwxyz" : Str))
theorem name_all {x : Str} {b : Bool} (h : (NmOk x ∧ b = true) ∨ (x = ("9" : Str) ∧ b = false)) : 1 ≤ x.length ∧ x.length ≤ 12 ∧ ((TL.tl x).map inAbc).all id = b := by
  rcases h with ⟨h, rfl⟩ | ⟨rfl, rfl⟩
  · refine ⟨h.l1, h.l2, List.all_eq_true.mpr fun y hy => ?_⟩
    obtain ⟨c, hc, rfl⟩ := List.mem_map.mp hy
    obtain ⟨h1, h2⟩ := h.lt c hc
    exact decide_eq_true (abc_all c (by omega) h1)
  · exact ⟨by decide +kernel, by decide +kernel, by decide +kernel⟩
theorem alls_bools {ys : List V} {bs : List Bool} (h : Alls (fun v b => v = V.bl b) ys bs) : ys = bs.map V.bl := by
  induction h with
  | nil => rfl
  | cons h t ih => rw [h, ih]; rfl
theorem ok_is_name {f : Addr} {fd : FuncData} (F : L2.Fun K "is_name" "is_name" s_is_name f fd) (T : Txt P K mg A) : FnOk P w K mg base CX0 1 f fd P_is_name (spIsName Tb) := by
  have sc := sc_is_name
  refine F.ok sc (fun vs H Q E h => ?_) (fun cdv AA outer s H vs Q E hr h => ?_)
  · obtain ⟨F, x, b, rfl, _⟩ := h
    rfl
  · obtain ⟨F, x, b, rfl, W0, hb, k⟩ := h
    refine ⟨_, (pss_cons (ps_if (PW.pt (pw_or (pt_not (pt_val (pe_callB (call_isiK (K := K)) (by rfl) T.z_isinstance (by decide +kernel) (pa_cons (pv 0) (pa_cons (pe_bltn (v := .ty "str") (by rfl) T.z_str (by decide +kernel) rfl) pa_nil))))) (pw_or1 (pt_not (pt_chain op_le op_le pe_int (pe_callB call_len_str (by rfl) T.z_len PySem.boot_len (pa_cons (pv 0) pa_nil)) (pe_glob (v := .int _) rfl T.g_MOST_LETTERS ⟨_, rfl⟩)))))) (pss_one (ps_ret pe_bl)) pss_nil)
      (pss_one (ps_ret (pe_callB (cr_allK (K := K)) (by rfl) T.z_all (by decide +kernel) (pa_cons (pe_lc (own := [("letter", 1)]) rfl sc.nd (pi_str (pv 0)) (blkOk_by (own := [("letter", 1)]) (N := N_is_name) (sc := defScope s_is_name) (by decide +kernel)) (fun _ _ _ _ _ => by exact (pg_name (i := 1) sc.nd rfl (Or.inl rfl))) (fun _ _ _ _ _ => by exact pts_nil) (fun _ _ _ _ _ => by exact (pe_cmpR op_in_sign (pv 1) (pe_glob (v := .str _) rfl T.g_LETTERS ⟨_, rfl⟩) rfl))) pa_nil))))), ?_⟩
    obtain ⟨l1, l2, hall⟩ := name_all hb
    refine ⟨_, rfl, _, _, _, _, true, rfl, .ty "str", .base (.str _), kit_str, true, rfl, itF rfl ?_⟩
    refine ⟨_, rfl, _, rfl, szN (by omega), _, _, rfl, rfl, _, rfl, ?_⟩
    rw [decide_eq_true (show (1 : Int) ≤ (x.length : Int) by omega)]
    refine itT rfl ⟨_, _, rfl, rfl, _, rfl, ?_⟩
    rw [decide_eq_true (show (x.length : Int) ≤ 12 by omega)]
    refine itF rfl ?_
    unfold tNext
    dsimp only
    refine tRet_ (tCB_ (tCons_ ?_))
    refine ⟨_, rfl, x, rfl, fun D hD => ?_⟩
    have ls : x.cps.size = (TL.tl x).length := by unfold TL.tl; rw [Array.length_toList]
    have lx : x.length = (TL.tl x).length := TL.len_tl x
    refine lcG (S := S0) (R := fun _ v c => v = .str ⟨#[c]⟩) (walk_str (z := x)) (TL.tl x) (fun c => some (inAbc c)) (fun _ v y => v = .bl y) (Ev.refl W0) ls (by omega) hD (fun F F' v b m h => h) (fun _ _ _ => True.intro) ?_ (fun v c F4 H4 R R0 hz e4 hx hk hn => ?_) fun F4 H4 ys e4 hD4 hys => ?_
    · rintro i v H' H'' F' hi e ⟨rfl, c, hc, rfl⟩
      refine ⟨c, F', ?_, Ev.refl e.wd, rfl⟩
      unfold TL.tl
      rw [Array.getElem?_toList]
      exact hc
    · subst hx
      exact ⟨rfl, yes_ ⟨_, rfl, c, _, rfl, rfl, hk F4 H4 _ _ rfl (Ev.refl e4.wd) rfl⟩⟩
    · rw [fm_some] at hys
      have ey := alls_bools hys
      refine ⟨D, _, rfl, SqL.of (by rw [← ey]; exact e4.wd.sub _ _ hD4), ?_⟩
      rw [hall]
      exact k F4 H4 e4
end
end K64
/-! ## KP6 -/
set_option Elab.async false
set_option linter.all false
set_option maxRecDepth 100000
set_option maxHeartbeats 2000000
namespace K64
open PySem PySem.Spec PyProof.Rows L2 LamX
/-! ### a dict of programs -/
section
variable {A : Ad} {F : Hp}
theorem inr_inj {a b : Str} : ((Sum.inr a : Key) = Sum.inr b) ↔ a = b := ⟨fun e => Sum.inr.inj e, fun e => by rw [e]⟩
theorem dc_none : ∀ {kvs : List (Key × V)} {st : Bst} {n : Str}, Alls (RowAt A F) kvs st → n ∉ names st → valV kvs (.inr n) = none
  | _, _, n, .nil, _ => rfl
  | _, _, n, .cons (v := r) (z := z) (vs := kvs) (zs := st) h t, hn => by
    have h1 : ¬ r.1 = .inr n := by
      rw [h.1, inr_inj]
      exact fun e => hn (by rw [← e]; exact List.mem_cons_self)
    rw [valV_neg h1]
    exact dc_none t fun q => hn (List.mem_cons_of_mem _ q)
theorem dc_get : ∀ {kvs : List (Key × V)} {st : Bst} {n : Str}, Alls (RowAt A F) kvs st → n ∈ names st → ∃ v, valV kvs (.inr n) = some v ∧ ProgAt A F v (stepsOf st n)
  | _, _, n, .nil, hn => by cases hn
  | _, _, n, .cons (v := r) (z := z) (vs := kvs) (zs := st) h t, hn => by
    by_cases e : z.1 = n
    · refine ⟨r.2, valV_pos (by rw [h.1, e]), ?_⟩
      have : stepsOf (z :: st) n = z.2 := by
        unfold stepsOf
        rw [List.filter_cons, if_pos (decide_eq_true e)]
        rfl
      rw [this]
      exact h.2
    · have h1 : ¬ r.1 = .inr n := by rw [h.1, inr_inj]; exact e
      have hn2 : n ∈ names st := by
        rcases List.mem_cons.mp hn with q | q
        · exact absurd q.symm e
        · exact q
      obtain ⟨v, hv, hp⟩ := dc_get t hn2
      refine ⟨v, by rw [valV_neg h1]; exact hv, ?_⟩
      have : stepsOf (z :: st) n = stepsOf st n := by
        unfold stepsOf
        rw [List.filter_cons, if_neg (by simpa using e)]
      rw [this]
      exact hp
theorem dc_some {kvs : List (Key × V)} {st : Bst} {n : Str} (h : Alls (RowAt A F) kvs st) : (valV kvs (.inr n)).isSome = decide (n ∈ names st) := by
  by_cases hn : n ∈ names st
  · obtain ⟨v, hv, _⟩ := dc_get h hn
    rw [hv, decide_eq_true hn]
    rfl
  · rw [dc_none h hn, decide_eq_false hn]
    rfl
theorem dc_any {kvs : List (Key × V)} {st : Bst} {n : Str} (h : Alls (RowAt A F) kvs st) : (kvs.any fun kv => decide (kv.1 = .inr n)) = decide (n ∈ names st) := by
  rw [valV_any, dc_some h]
theorem dc_map {v : V} {n : Str} {p : List Stp} (hp : ProgAt A F v p) : ∀ {kvs : List (Key × V)} {st : Bst}, Alls (RowAt A F) kvs st → Alls (RowAt A F) (kvs.map fun kv => if kv.1 = .inr n then (kv.1, v) else kv) (st.map fun r => (r.1, if r.1 = n then p else r.2))
  | _, _, .nil => .nil
  | _, _, .cons (v := r) (z := z) h t => by
    refine .cons ?_ (dc_map hp t)
    dsimp only
    by_cases e : z.1 = n
    · rw [if_pos (by rw [h.1, e]), if_pos e]
      exact ⟨h.1, hp⟩
    · rw [if_neg (by rw [h.1, inr_inj]; exact e), if_neg e]
      exact h
theorem dc_put {kvs : List (Key × V)} {st : Bst} {v : V} {n : Str} {p : List Stp} (h : Alls (RowAt A F) kvs st) (hp : ProgAt A F v p) : Alls (RowAt A F) (putK kvs (.inr n) v) (putIn st n p) := by
  unfold putK putIn
  rw [dc_any h]
  by_cases hn : n ∈ names st
  · rw [if_pos (decide_eq_true hn), if_pos hn]
    exact dc_map hp h
  · rw [if_neg (by rw [decide_eq_false hn]; exact Bool.false_ne_true), if_neg hn]
    exact h.snoc ⟨rfl, hp⟩
theorem merge_go : ∀ {more acc : List (Key × V)} {sm sa : Bst}, Alls (RowAt A F) more sm → Alls (RowAt A F) acc sa → (names (sa ++ sm)).Nodup → mergeK acc more = acc ++ more
  | _, acc, _, sa, .nil, _, _ => by rw [List.append_nil]; rfl
  | _, acc, _, sa, .cons (v := r) (vs := more) (z := z) (zs := sm) h t, ha, nd => by
    have hn : z.1 ∉ names sa := fun q => by
      unfold names at nd q
      rw [List.map_append] at nd
      exact (List.nodup_append.mp nd).2.2 _ q _ List.mem_cons_self rfl
    have e : putK acc r.1 r.2 = acc ++ [r] := by
      unfold putK
      rw [h.1, dc_any ha, if_neg (by rw [decide_eq_false hn]; exact Bool.false_ne_true)]
      congr 1
      congr 1
      exact Prod.ext h.1.symm rfl
    show mergeK (putK acc r.1 r.2) more = _
    rw [e, merge_go t (ha.snoc h) (by rw [List.append_assoc]; exact nd), List.append_assoc]
    rfl
theorem merge_dc {kvs : List (Key × V)} {st : Bst} (h : Alls (RowAt A F) kvs st) (nd : (names st).Nodup) : mergeK [] kvs = kvs := merge_go h .nil nd
theorem dc_keys : ∀ {kvs : List (Key × V)} {st : Bst}, Alls (RowAt A F) kvs st → (kvs.map fun p => kV p.1) = (names st).map V.str
  | _, _, .nil => rfl
  | _, _, .cons h t => by
    show kV _ :: _ = _
    rw [h.1, dc_keys t]
    rfl
end
/-! ### the bench -/
abbrev bF (d a b : Addr) : List (Str × V) := [(("programs" : Str), .ref d), (("past" : Str), .ref a), (("future" : Str), .ref b)]
theorem b_pa : ("programs" : Str) ≠ "past" := by decide +kernel
theorem b_pf : ("programs" : Str) ≠ "future" := by decide +kernel
theorem b_af : ("past" : Str) ≠ "future" := by decide +kernel
theorem look_ne {f g : Str} {v : V} {fs : List (Str × V)} (h : g ≠ f) : ((f, v) :: fs).lookup g = fs.lookup g := by
  rw [List.lookup_cons, show (g == f) = false from beq_eq_false_iff_ne.mpr h]
theorem look_eq {f : Str} {v : V} {fs : List (Str × V)} : ((f, v) :: fs).lookup f = some v := by
  rw [List.lookup_cons, beq_self_eq_true]
theorem bf_p {d a b : Addr} : (bF d a b).lookup ("programs" : Str) = some (.ref d) := look_eq
theorem bf_a {d a b : Addr} : (bF d a b).lookup ("past" : Str) = some (.ref a) := by rw [look_ne (Ne.symm b_pa)]; exact look_eq
theorem bf_f {d a b : Addr} : (bF d a b).lookup ("future" : Str) = some (.ref b) := by rw [look_ne (Ne.symm b_pf), look_ne (Ne.symm b_af)]; exact look_eq
theorem bp_p {d a b d' : Addr} : putF ("programs" : Str) (.ref d') (bF d a b) = bF d' a b := putF_eq
theorem bp_a {d a b a' : Addr} : putF ("past" : Str) (.ref a') (bF d a b) = bF d a' b := by rw [putF_ne b_pa, putF_eq]
theorem bp_f {d a b b' : Addr} : putF ("future" : Str) (.ref b') (bF d a b) = bF d a b' := by rw [putF_ne b_pf, putF_ne b_af, putF_eq]
structure BenchX (A : Ad) (F H : Hp) (p a b : Addr) (m : Mst) (dx d : Addr) (xs ys : List V) : Prop where
  hp : H p = some (.ins A.CB dx (bF d a b))
  hd : DcAt A F (.ref d) m.st
  ha : H a = some (.lst xs)
  hb : H b = some (.lst ys)
  hx : Alls (DcAt A F) xs m.past
  hy : Alls (DcAt A F) ys m.fut
  fp : F p = none
  fa : F a = none
  fb : F b = none
  ne : a ≠ b
def BenchAt (A : Ad) (F H : Hp) (p a b : Addr) (m : Mst) : Prop := ∃ dx d xs ys, BenchX A F H p a b m dx d xs ys
structure BGo (A : Ad) (T : List (Addr × Str)) (p a b : Addr) (F H : Hp) (m' : Mst) (F' H' : Hp) (b' : Addr) : Prop where
  e : Ev T (mS p a b) F H F' H'
  bb : b' = b ∨ H b' = none
  md : BenchAt A F' H' p a b' m'
section
variable {T : List (Addr × Str)} {S : Addr → Prop} {A : Ad} {F H F1 H1 F2 H2 : Hp} {p a b b1 b2 dx d : Addr} {m m1 m2 : Mst} {xs ys : List V}
theorem BenchX.pa (h : BenchX A F H p a b m dx d xs ys) : p ≠ a := fun e => by
  have := h.hp
  rw [e, h.ha] at this
  cases this
theorem BenchX.pb (h : BenchX A F H p a b m dx d xs ys) : p ≠ b := fun e => by
  have := h.hp
  rw [e, h.hb] at this
  cases this
theorem BenchX.ev (h : BenchX A F H p a b m dx d xs ys) (e : Ev T S F H F1 H1) (h1 : ¬ S p) (h2 : ¬ S a) (h3 : ¬ S b) : BenchX A F1 H1 p a b m dx d xs ys :=
  ⟨e.kp h.hp h1, e.dc h.hd, e.kp h.ha h2, e.kp h.hb h3, h.hx.mono fun v s k => e.dc k, h.hy.mono fun v s k => e.dc k, e.nf h.hp h.fp, e.nf h.ha h.fa, e.nf h.hb h.fb, h.ne⟩
theorem BenchAt.ev (h : BenchAt A F H p a b m) (e : Ev T S F H F1 H1) (h1 : ¬ S p) (h2 : ¬ S a) (h3 : ¬ S b) : BenchAt A F1 H1 p a b m := by
  obtain ⟨dx, d, xs, ys, h⟩ := h
  exact ⟨dx, d, xs, ys, h.ev e h1 h2 h3⟩
theorem BenchAt.ev0 (h : BenchAt A F H p a b m) (e : Ev T S0 F H F1 H1) : BenchAt A F1 H1 p a b m := h.ev e (fun z => z) (fun z => z) (fun z => z)
theorem bs_sub (bb : b1 = b ∨ H b1 = none) (x : Addr) (hx : mS p a b1 x) : mS p a b x ∨ H x = none := by
  rcases hx with z | z | z
  · exact .inl (.inl z)
  · exact .inl (.inr (.inl z))
  · rcases bb with c | c
    · exact .inl (.inr (.inr (z.trans c)))
    · exact .inr (by rw [z]; exact c)
theorem BGo.refl (w : Wd T F H) (md : BenchAt A F H p a b m) : BGo A T p a b F H m F H b := ⟨Ev.refl w, .inl rfl, md⟩
theorem BGo.trans (g : BGo A T p a b F H m1 F1 H1 b1) (k : BGo A T p a b1 F1 H1 m2 F2 H2 b2) : BGo A T p a b F H m2 F2 H2 b2 := by
  refine ⟨g.e.trans k.e (fun _ z => z) (bs_sub g.bb), ?_, k.md⟩
  rcases k.bb with c | c
  · rw [c]
    exact g.bb
  · exact .inr (g.e.fr c)
theorem BGo.then0 (g : BGo A T p a b F H m1 F1 H1 b1) (e : Ev T S0 F1 H1 F2 H2) : BGo A T p a b F H m1 F2 H2 b1 := g.trans ⟨e.to0, .inl rfl, g.md.ev0 e⟩
theorem BGo.pre (e : Ev T S0 F H F1 H1) (g : BGo A T p a b F1 H1 m1 F2 H2 b1) : BGo A T p a b F H m1 F2 H2 b1 := by
  refine ⟨(e.to0).trans g.e (fun _ z => z) (fun x hx => .inl hx), ?_, g.md⟩
  rcases g.bb with c | c
  · exact .inl c
  · exact .inr (e.fr c)
end
section
variable {P : Program} {w : World} {K : PySem.W.Frag} {mg : Str → Option Value} {base : Heap} {A : Ad} {Tb : List (Addr × Str)}
theorem call_lenRd {X : Cx} : CallR X (.builtin "len") (fun xs H Q => ∃ a kvs, xs = [V.ref a] ∧ Rd H a (.dK kvs) ∧ Q (.int kvs.length) H) := by
  intro pins s σ H xs us Q I r h
  obtain ⟨a, kvs, rfl, ha, q⟩ := h
  obtain ⟨u, rfl, ru⟩ := vals1 r
  cases ru
  exact d_len I ha fun t s' I' => ⟨.int kvs.length, H, I', ⟨t, rfl⟩, q⟩
abbrev s_Bench_contains : Stmt := inClass (top 47) 2
abbrev N_Bench_contains : List Str := [("self" : Str), ("name" : Str)]
abbrev P_Bench_contains : List Str := [("self" : Str), ("name" : Str)]
theorem sc_Bench_contains : FnScope N_Bench_contains P_Bench_contains (defScope s_Bench_contains) := ⟨rfl, rfl, rfl, by decide +kernel, rfl, by decide +kernel, by decide +kernel⟩
theorem bd_Bench_contains {K : PySem.W.Frag} {f : Addr} {fd : FuncData} (F : L2.Fun K "__contains__" "Bench.__contains__" s_Bench_contains f fd) : Binds K fd P_Bench_contains [] := F.binds fun _ _ _ _ _ _ us hl => match us, hl with | [_, _], _ => rfl

def spBIn (A : Ad) : Sp := fun vs H Q _ => ∃ (F : Hp) (p dx d : Addr) (fs : List (Str × V)) (st : Bst) (n : Str), vs = [.ref p, .str n] ∧ H p = some (.ins A.CB dx fs) ∧ fs.lookup ("programs" : Str) = some (.ref d) ∧ Same F H ∧ DcAt A F (.ref d) st ∧ Q (.bl (decide (n ∈ names st))) H
theorem ok_bin {f : Addr} {fd : FuncData} (F : L2.Fun K "__contains__" "Bench.__contains__" s_Bench_contains f fd) (T : Txt P K mg A) : FnOk P w K mg base CX0 1 f fd P_Bench_contains (spBIn A) := by
  have sc := sc_Bench_contains
  refine F.ok sc (fun vs H Q E h => ?_) (fun cdv AA outer s H vs Q E hr h => ?_)
  · obtain ⟨F, p, dx, d, fs, st, n, rfl, _⟩ := h
    rfl
  · obtain ⟨F, p, dx, d, fs, st, n, rfl, hp, hf, sub, ⟨d', kvs, ed, hd, hrows⟩, k⟩ := h
    cases ed
    refine ⟨_, (pss_one (ps_ret (pe_and (pe_callB (call_isiK (K := K)) (by rfl) T.z_isinstance (by decide +kernel) (pa_cons (pv 1) (pa_cons (pe_bltn (v := .ty "str") (by rfl) T.z_str (by decide +kernel) rfl) pa_nil))) (pe_one (pe_cmp (pc_din (hu_of hr) (pv 1) (pe_fldK (K := K) (pv 0))) rfl))))), ?_⟩
    refine ⟨_, rfl, _, _, _, _, true, rfl, .ty "str", .base (.str _), kit_str, true, rfl, itT rfl ?_⟩
    refine ⟨_, rfl, _, rfl, p, A.CB, dx, fs, _, rfl, hp, T.clB, T.nBp, hf, d, valV kvs (.inr n), rfl, .inl ⟨kvs, .inr n, .inl (sub _ _ hd), rfl, rfl⟩, ?_⟩
    rw [dc_some hrows]
    exact k
abbrev s_Bench_len : Stmt := inClass (top 47) 3
abbrev N_Bench_len : List Str := [("self" : Str)]
abbrev P_Bench_len : List Str := [("self" : Str)]
theorem sc_Bench_len : FnScope N_Bench_len P_Bench_len (defScope s_Bench_len) := ⟨rfl, rfl, rfl, by decide +kernel, rfl, by decide +kernel, by decide +kernel⟩
theorem bd_Bench_len {K : PySem.W.Frag} {f : Addr} {fd : FuncData} (F : L2.Fun K "__len__" "Bench.__len__" s_Bench_len f fd) : Binds K fd P_Bench_len [] := F.binds fun _ _ _ _ _ _ us hl => match us, hl with | [_], _ => rfl

theorem ok_blen {f : Addr} {fd : FuncData} (F : L2.Fun K "__len__" "Bench.__len__" s_Bench_len f fd) (T : Txt P K mg A) : FnOk P w K mg base CX0 1 f fd P_Bench_len (spLenF A.CB "programs") := by
  have sc := sc_Bench_len
  refine F.ok sc (fun vs H Q E h => ?_) (fun cdv AA outer s H vs Q E hr h => ?_)
  · obtain ⟨a, dx, fs, d, kvs, rfl, _⟩ := h
    rfl
  · obtain ⟨a, dx, fs, d, kvs, rfl, ha, hf, hd, k⟩ := h
    refine ⟨_, (pss_one (ps_ret (pe_callB call_lenRd (by rfl) T.z_len PySem.boot_len (pa_cons (pe_fldK (K := K) (pv 0)) pa_nil)))), ?_⟩
    exact ⟨_, rfl, a, A.CB, dx, fs, _, rfl, ha, T.clB, T.nBp, hf, d, kvs, rfl, hd, k⟩
abbrev s_Bench_iter : Stmt := inClass (top 47) 4
abbrev N_Bench_iter : List Str := [("self" : Str)]
abbrev P_Bench_iter : List Str := [("self" : Str)]
theorem sc_Bench_iter : FnScope N_Bench_iter P_Bench_iter (defScope s_Bench_iter) := ⟨rfl, rfl, rfl, by decide +kernel, rfl, by decide +kernel, by decide +kernel⟩
theorem bd_Bench_iter {K : PySem.W.Frag} {f : Addr} {fd : FuncData} (F : L2.Fun K "__iter__" "Bench.__iter__" s_Bench_iter f fd) : Binds K fd P_Bench_iter [] := F.binds fun _ _ _ _ _ _ us hl => match us, hl with | [_], _ => rfl

theorem ok_biter {f : Addr} {fd : FuncData} (F : L2.Fun K "__iter__" "Bench.__iter__" s_Bench_iter f fd) (T : Txt P K mg A) : FnOk P w K mg base CX0 1 f fd P_Bench_iter (spIterF A.CB "programs") := by
  have sc := sc_Bench_iter
  refine F.ok sc (fun vs H Q E h => ?_) (fun cdv AA outer s H vs Q E hr h => ?_)
  · obtain ⟨a, dx, fs, d, od, kvs, rfl, _⟩ := h
    rfl
  · obtain ⟨a, dx, fs, d, od, kvs, rfl, ha, hf, hd, k⟩ := h
    refine ⟨_, (pss_one (ps_ret (pe_callB call_iterK (by rfl) T.z_iter (by decide +kernel) (pa_cons (pe_fldK (K := K) (pv 0)) pa_nil)))), ?_⟩
    exact ⟨_, rfl, a, A.CB, dx, fs, _, rfl, ha, T.clB, T.nBp, hf, d, od, kvs, rfl, hd, k⟩
abbrev s_Bench_getitem : Stmt := inClass (top 47) 6
abbrev N_Bench_getitem : List Str := [("self" : Str), ("name" : Str)]
abbrev P_Bench_getitem : List Str := [("self" : Str), ("name" : Str)]
theorem sc_Bench_getitem : FnScope N_Bench_getitem P_Bench_getitem (defScope s_Bench_getitem) := ⟨rfl, rfl, rfl, by decide +kernel, rfl, by decide +kernel, by decide +kernel⟩
theorem bd_Bench_getitem {K : PySem.W.Frag} {f : Addr} {fd : FuncData} (F : L2.Fun K "__getitem__" "Bench.__getitem__" s_Bench_getitem f fd) : Binds K fd P_Bench_getitem [] := F.binds fun _ _ _ _ _ _ us hl => match us, hl with | [_, _], _ => rfl

def spBGet (A : Ad) (Tb : List (Addr × Str)) : Sp := fun vs H Q E => ∃ (F : Hp) (p dx d : Addr) (fs : List (Str × V)) (st : Bst) (n : Str), vs = [.ref p, .str n] ∧ H p = some (.ins A.CB dx fs) ∧ fs.lookup ("programs" : Str) = some (.ref d) ∧ Wd Tb F H ∧ DcAt A F (.ref d) st ∧
  (n ∈ names st → ∀ r, ProgAt A F r (stepsOf st n) → Q r H) ∧ (n ∉ names st → ∀ F' H' dd, Ev Tb S0 F H F' H' → H' dd = some (.xd [(("name" : Str), .str n)]) → E (.ref A.xNN) (some dd) H')
theorem ok_bget {f : Addr} {fd : FuncData} (F : L2.Fun K "__getitem__" "Bench.__getitem__" s_Bench_getitem f fd) (T : Txt P K mg A) : FnOk P w K mg base (L2.CX P w) 1 f fd P_Bench_getitem (spBGet A Tb) := by
  have sc := sc_Bench_getitem
  refine F.okX sc (fun vs H Q E h => ?_) (fun cdv AA outer s H vs Q E hr h => ?_)
  · obtain ⟨F, p, dx, d, fs, st, n, rfl, _⟩ := h
    rfl
  · obtain ⟨F, p, dx, d, fs, st, n, rfl, hp, hf, W0, ⟨d', kvs, ed, hd, hrows⟩, k1, k2⟩ := h
    cases ed
    refine ⟨_, (pss_cons (ps_if (PW.pt (pw_or (pt_not (pt_val (pe_callB (call_isiK (K := K)) (by rfl) T.z_isinstance (by decide +kernel) (pa_cons (pv 1) (pa_cons (pe_bltn (v := .ty "str") (by rfl) T.z_str (by decide +kernel) rfl) pa_nil))))) (pw_or1 (pt_cmp (pc_dnotin (hu_of hr) (pv 1) (pe_fldK (K := K) (pv 0))))))) (pss_one (ps_raise rfl (takes_of rfl rfl rfl rfl) (pmk_x1 T.x_NoName Z_NoName T.rdN.noN hr (pa_cons (pv 1) pa_nil)))) pss_nil)
      (pss_one (ps_ret (pe_dget (hu_of hr) (pe_fldK (K := K) (pv 0)) (pv 1) (fun _ _ => rfl))))), ?_⟩
    refine ⟨_, rfl, _, _, _, _, true, rfl, .ty "str", .base (.str _), kit_str, true, rfl, itF rfl ?_⟩
    refine ⟨_, rfl, _, rfl, p, A.CB, dx, fs, _, rfl, hp, T.clB, T.nBp, hf, d, valV kvs (.inr n), rfl, .inl ⟨kvs, .inr n, .inl (W0.sub _ _ hd), rfl, rfl⟩, _, rfl, ?_⟩
    rw [dc_some hrows]
    by_cases hn : n ∈ names st
    · rw [decide_eq_true hn]
      obtain ⟨v, hv, hpr⟩ := dc_get hrows hn
      refine itF rfl ⟨_, rfl, p, A.CB, dx, fs, _, rfl, hp, T.clB, T.nBp, hf, _, rfl, d, v, rfl, .inl ⟨kvs, .inr n, .inl (W0.sub _ _ hd), rfl, hv.symm⟩, k1 hn v hpr⟩
    · rw [decide_eq_false hn]
      exact itT rfl ⟨_, rfl, _, rfl, fun dd hdd => k2 hn F _ dd (Ev.new W0 hdd) upd_same⟩
abbrev s_Bench_settle : Stmt := inClass (top 47) 8
abbrev N_Bench_settle : List Str := [("self" : Str), ("programs" : Str)]
abbrev P_Bench_settle : List Str := [("self" : Str), ("programs" : Str)]
theorem sc_Bench_settle : FnScope N_Bench_settle P_Bench_settle (defScope s_Bench_settle) := ⟨rfl, rfl, rfl, by decide +kernel, rfl, by decide +kernel, by decide +kernel⟩
theorem bd_Bench_settle {K : PySem.W.Frag} {f : Addr} {fd : FuncData} (F : L2.Fun K "settle" "Bench.settle" s_Bench_settle f fd) : Binds K fd P_Bench_settle [] := F.binds fun _ _ _ _ _ _ us hl => match us, hl with | [_, _], _ => rfl

def spSettle (A : Ad) (Tb : List (Addr × Str)) : Sp := fun vs H Q _ => ∃ (F : Hp) (p a b : Addr) (m : Mst) (v : V) (st' : Bst), vs = [.ref p, v] ∧ Wd Tb F H ∧ BenchAt A F H p a b m ∧ DcAt A F v st' ∧ m.past.length ≤ 100000 ∧ ∀ F' H' b', BGo A Tb p a b F H ⟨st', m.past ++ [m.st], []⟩ F' H' b' → Q .non H'
theorem ok_settle {f : Addr} {fd : FuncData} (F : L2.Fun K "settle" "Bench.settle" s_Bench_settle f fd) (T : Txt P K mg A) : FnOk P w K mg base CX0 1 f fd P_Bench_settle (spSettle A Tb) := by
  have sc := sc_Bench_settle
  refine F.ok sc (fun vs H Q E h => ?_) (fun cdv AA outer s H vs Q E hr h => ?_)
  · obtain ⟨F, p, a, b, m, v, st', rfl, _⟩ := h
    rfl
  · obtain ⟨F, p, a, b, m, v, st', rfl, W0, ⟨dx, d, xs, ys, h⟩, hv, hlen, k⟩ := h
    refine ⟨_, (pss_cons (ps_expr (pe_bmK (K := K) PySem.F.plainAttrs_list PySem.F.slot_list_append PySem.F.type_list_append mt_append (pe_fldK (K := K) (pv 0)) (pa_cons (pe_fldK (K := K) (pv 0)) pa_nil)))
      (pss_cons (ps_fldK (K := K) (pv 0) (pe_lst pa_nil))
      (pss_one (ps_fldK (K := K) (pv 0) (pv 1))))), ?_⟩
    have lx := h.hx.length
    refine ⟨_, rfl, p, A.CB, dx, _, _, rfl, h.hp, T.clB, T.nBa, bf_a, .inl ⟨rfl, _, SqL.of h.ha⟩, _, rfl, p, A.CB, dx, _, _, rfl, h.hp, T.clB, T.nBp, bf_p, a, xs, _, rfl, rfl, h.ha, szL (by omega), ?_⟩
    have e1 : Ev Tb (mS p a b) F H F (upd H a (.lst (xs ++ [V.ref d]))) := Ev.set W0 h.ha h.fa (fun _ z => by cases z) (fun _ z => by cases z) (.inr (.inl rfl))
    have hp1 : upd H a (.lst (xs ++ [V.ref d])) p = some (.ins A.CB dx (bF d a b)) := by rw [upd_ne h.pa]; exact h.hp
    have ha1 : upd H a (.lst (xs ++ [V.ref d])) a = some (.lst (xs ++ [V.ref d])) := upd_same
    refine ⟨sz0, fun b' hb' => ?_⟩
    have e2 : Ev Tb S0 F (upd H a (.lst (xs ++ [V.ref d]))) F (upd (upd H a (.lst (xs ++ [V.ref d]))) b' (.lst [])) := Ev.new e1.wd hb'
    have hb2 : upd (upd H a (.lst (xs ++ [V.ref d]))) b' (.lst []) b' = some (.lst []) := upd_same
    have nb : b' ≠ a := fun z => by rw [z, ha1] at hb'; cases hb'
    have nq : b' ≠ p := fun z => by rw [z, hp1] at hb'; cases hb'
    refine ⟨_, rfl, put_ e2.wd (e2.kp hp1) h.fp T.clB T.nBf (by show 3 < 1000; decide) fun H3 e3 hp3 => ?_⟩
    rw [bp_f] at hp3
    have e13 := (e1.trans0 e2).then (e3.to fun x hx => .inl (.inl hx))
    have ha3 := e3.kp (e2.kp ha1) (Ne.symm h.pa)
    have hb3 := e3.kp hb2 nq
    obtain ⟨d', kvs, rfl, hd', hrows⟩ := hv
    refine ⟨_, rfl, _, rfl, put_ e3.wd hp3 h.fp T.clB T.nBp (by show 3 < 1000; decide) fun H4 e4 hp4 => ?_⟩
    rw [bp_p] at hp4
    have e14 := e13.then (e4.to fun x hx => .inl (.inl hx))
    refine k F H4 b' ⟨e14, .inr (e1.fr hb'), dx, d', xs ++ [V.ref d], [], hp4, ⟨d', kvs, rfl, hd', hrows⟩, e4.kp ha3 (Ne.symm h.pa), e4.kp hb3 nq, h.hx.snoc h.hd, .nil, h.fp, h.fa, W0.none (e1.fr hb'), Ne.symm nb⟩
abbrev s_written_text : Stmt := top 48
abbrev N_written_text : List Str := [("programs" : Str), ("name" : Str), ("program" : Str)]
abbrev P_written_text : List Str := [("programs" : Str)]
theorem sc_written_text : FnScope N_written_text P_written_text (defScope s_written_text) := ⟨rfl, rfl, rfl, by decide +kernel, rfl, by decide +kernel, by decide +kernel⟩
theorem bd_written_text {K : PySem.W.Frag} {f : Addr} {fd : FuncData} (F : L2.Fun K "written_text" "written_text" s_written_text f fd) : Binds K fd P_written_text [] := F.binds fun _ _ _ _ _ _ us hl => match us, hl with | [_], _ => rfl

def spWT (A : Ad) (Tb : List (Addr × Str)) : Sp := fun vs H Q _ => ∃ (F : Hp) (v : V) (st : Bst), vs = [v] ∧ Wd Tb F H ∧ DcAt A F v st ∧ SV st ∧ ∀ F' H', Ev Tb S0 F H F' H' → Q (.str (stText st)) H'
/-- what the pairs of a locked dict give -/
theorem yItems {F F1 H1 : Hp} {d : Addr} {kvs : List (Key × V)} {st : Bst} (hd : F d = some (.dK kvs)) (h : Alls (RowAt A F) kvs st) (m1 : Same (less F d) F1) :
    ∀ i x H' H'' F', i < kvs.length → Ev Tb S0 F1 H1 F' H' → YPair (fun i => kvs[i]?.map fun kv => kV kv.1) (fun i => kvs[i]?.map Prod.snd) i H' x H'' →
      ∃ z F'', st[i]? = some z ∧ Ev Tb S0 F' H' F'' H'' ∧ (∃ T v, x = .ref T ∧ F'' T = some (.tup [V.str z.1, v]) ∧ ProgAt A F'' v z.2) := by
  rintro i x H' H'' F' hi e ⟨T, u, v, rfl, hT, rfl, hu, hv⟩
  obtain ⟨r, hr⟩ : ∃ r, kvs[i]? = some r := ⟨_, List.getElem?_eq_getElem hi⟩
  obtain ⟨z, hz, hrow⟩ := h.get hr
  dsimp only at hu hv
  rw [hr] at hu hv
  cases hu
  cases hv
  have e2 : Ev Tb S0 F' H' (upd F' T (.tup [kV r.1, r.2])) (upd H' T (.tup [kV r.1, r.2])) := Ev.frz e.wd hT
  refine ⟨z, _, hz, e2, T, r.2, rfl, ?_, e2.pr (e.pr (((hrow.less hd).2).mono _ _ m1))⟩
  rw [upd_same, hrow.1]
  rfl
theorem ok_written_text {f : Addr} {fd : FuncData} (F : L2.Fun K "written_text" "written_text" s_written_text f fd) (T : Txt P K mg A) : FnOk P w K mg base CX0 1 f fd P_written_text (spWT A Tb) := by
  have sc := sc_written_text
  refine F.ok sc (fun vs H Q E h => ?_) (fun cdv AA outer s H vs Q E hr h => ?_)
  · obtain ⟨F, v, st, rfl, _⟩ := h
    rfl
  · obtain ⟨F, v, st, rfl, W0, ⟨d, kvs, rfl, hd, hrows⟩, hs, k⟩ := h
    refine ⟨_, (pss_one (ps_ret (pe_joinK (K := K) pe_str (pe_lock (pe_lc (own := [("name", 1), ("program", 2)]) rfl sc.nd (pi_items (pv 0)) (blkOk_by (own := [("name", 1), ("program", 2)]) (N := N_written_text) (sc := defScope s_written_text) (by decide +kernel)) (fun _ _ _ _ _ => by exact (pg_tupK (K := K) (n := 2) (pgs_cons (pg_name (i := 1) sc.nd rfl (Or.inl rfl)) (pgs_cons (pg_name (i := 2) sc.nd rfl (Or.inl rfl)) pgs_nil)))) (fun _ _ _ _ _ => by exact pts_nil) (fun _ _ _ _ _ => by exact (pe_op op_add_str (pe_op op_add_str (pv 1) pe_str) (pe_fldK (K := K) (pv 2))))))))), ?_⟩
    have l2 := hs.len
    have lk := hrows.length
    refine ⟨⟨_, rfl⟩, d, _, W0.sub _ _ hd, True.intro, fun od => ?_⟩
    have wl := Ev.locked (od := od) W0 hd
    refine ⟨_, rfl, d, od, kvs, rfl, upd_same, fun D hD => ?_⟩
    refine lcG (S := S0) (R := fun F'' x z => ∃ T v, x = V.ref T ∧ F'' T = some (.tup [V.str z.1, v]) ∧ ProgAt A F'' v z.2) (walk_items (d := d) (o := od) (kvs := kvs)) st (fun r => some (rowText r)) (fun _ v x => IsStr v x) (Ev.refl wl) lk (by omega) hD (fun F F' v b m h => h)
      (fun F4 H4 e => e.kp upd_same) (yItems hd hrows (Same.refl _)) (fun x r F4 H4 R R0 hz e4 hx hk hn => ?_) fun F4 H4 ys e4 hD4 hys => ?_
    · obtain ⟨t, v, rfl, ht, a, dx, fs, t2, xs, rfl, ha, hf, _⟩ := hx
      obtain ⟨hn1, hn2⟩ := hs.row r hz
      have l1 := row_len hn1 hn2
      unfold rowText at l1
      simp only [len_app] at l1
      refine ⟨t, _, rfl, SqT.of (e4.wd.sub _ _ ht), rfl, _, _, rfl, _, _, rfl, rfl, rfl, yes_ ⟨_, rfl, _, _, rfl, rfl, szN (by omega), _, rfl, a, A.CP, dx, fs, _, rfl, e4.wd.sub _ _ ha, T.clP, T.nPt, hf, _, _, rfl, rfl, szN (by simp only [len_app]; omega), hk F4 H4 _ _ rfl (Ev.refl e4.wd) rfl⟩⟩
    · rw [fm_some] at hys
      have ey := hys.strs
      obtain ⟨h1, e5, sm⟩ := Ev.unlock W0 hd e4
      refine ⟨h1, _, D, st.map rowText, rfl, rfl, .inl (SqL.of ?_), ?_, k _ _ e5⟩
      · rw [← ey]
        exact e5.wd.sub _ _ (sm _ _ hD4)
      · have l3 := rows_sum hs
        rw [nl_len, List.length_map]
        omega
abbrev s_Bench_written : Stmt := inClass (top 47) 15
abbrev N_Bench_written : List Str := [("self" : Str)]
abbrev P_Bench_written : List Str := [("self" : Str)]
theorem sc_Bench_written : FnScope N_Bench_written P_Bench_written (defScope s_Bench_written) := ⟨rfl, rfl, rfl, by decide +kernel, rfl, by decide +kernel, by decide +kernel⟩
theorem bd_Bench_written {K : PySem.W.Frag} {f : Addr} {fd : FuncData} (F : L2.Fun K "written" "Bench.written" s_Bench_written f fd) : Binds K fd P_Bench_written [] := F.binds fun _ _ _ _ _ _ us hl => match us, hl with | [_], _ => rfl

def spWritten (A : Ad) (Tb : List (Addr × Str)) : Sp := fun vs H Q _ => ∃ (F : Hp) (p dx d : Addr) (fs : List (Str × V)) (st : Bst), vs = [.ref p] ∧ H p = some (.ins A.CB dx fs) ∧ fs.lookup ("programs" : Str) = some (.ref d) ∧ Wd Tb F H ∧ DcAt A F (.ref d) st ∧ SV st ∧ ∀ F' H', Ev Tb S0 F H F' H' → Q (.str (stText st)) H'
theorem ok_written {f : Addr} {fd : FuncData} (F : L2.Fun K "written" "Bench.written" s_Bench_written f fd) (T : Txt P K mg A) (F_written_text : FnG P w K mg base CX0 1 "written_text" P_written_text (spWT A Tb)) : FnOk P w K mg base CX0 2 f fd P_Bench_written (spWritten A Tb) := by
  have sc := sc_Bench_written
  refine F.ok sc (fun vs H Q E h => ?_) (fun cdv AA outer s H vs Q E hr h => ?_)
  · obtain ⟨F, p, dx, d, fs, st, rfl, _⟩ := h
    rfl
  · obtain ⟨F, p, dx, d, fs, st, rfl, hp, hf, W0, hd, hs, k⟩ := h
    refine ⟨_, (pss_one (ps_ret (pe_fn0 F_written_text hr (pa_cons (pe_fldK (K := K) (pv 0)) pa_nil)))), ?_⟩
    exact ⟨_, rfl, p, A.CB, dx, fs, _, rfl, hp, T.clB, T.nBp, hf, F, _, st, rfl, W0, hd, hs, k⟩
end
end K64
/-! ## KP7 -/
set_option Elab.async false
set_option linter.all false
set_option maxRecDepth 100000
set_option maxHeartbeats 2000000
namespace K64
open PySem PySem.Spec PyProof.Rows L2 LamX
theorem bf_none {d a b : Addr} {m : Str} (h1 : m ≠ "programs") (h2 : m ≠ "past") (h3 : m ≠ "future") : (bF d a b).lookup m = none := by
  rw [look_ne h1, look_ne h2, look_ne h3]
  rfl
/-- how an exception tells what is seen -/
def XIs (A : Ad) (o : Obs) (cls : Value) (fl : Str × V) : Prop := (∃ n, o = .prS "NoName" n ∧ cls = .ref A.xNN ∧ fl = (("name" : Str), .str n)) ∨ (∃ k, o = .prI "TooMany" k ∧ cls = .ref A.xTM ∧ fl = (("most" : Str), .int k))
section
variable {P : Program} {w : World} {K : PySem.W.Frag} {mg : Str → Option Value} {base : Heap} {A : Ad} {Tb : List (Addr × Str)}
abbrev s_Bench_init : Stmt := inClass (top 47) 0
abbrev N_Bench_init : List Str := [("self" : Str)]
abbrev P_Bench_init : List Str := [("self" : Str)]
theorem sc_Bench_init : FnScope N_Bench_init P_Bench_init (defScope s_Bench_init) := ⟨rfl, rfl, rfl, by decide +kernel, rfl, by decide +kernel, by decide +kernel⟩
theorem bd_Bench_init {K : PySem.W.Frag} {f : Addr} {fd : FuncData} (F : L2.Fun K "__init__" "Bench.__init__" s_Bench_init f fd) : Binds K fd P_Bench_init [] := F.binds fun _ _ _ _ _ _ us hl => match us, hl with | [_], _ => rfl

def spBInit (A : Ad) (Tb : List (Addr × Str)) : Sp := fun vs H Q _ => ∃ (F : Hp) (p dx : Addr), vs = [.ref p] ∧ Wd Tb F H ∧ H p = some (.ins A.CB dx []) ∧ F p = none ∧ ∀ F' H' a b, Ev Tb (· = p) F H F' H' → H a = none → H b = none → BenchAt A F' H' p a b ⟨[], [], []⟩ → Q .non H'
theorem ok_binit {f : Addr} {fd : FuncData} (F : L2.Fun K "__init__" "Bench.__init__" s_Bench_init f fd) (T : Txt P K mg A) : FnOk P w K mg base CX0 1 f fd P_Bench_init (spBInit A Tb) := by
  have sc := sc_Bench_init
  refine F.ok sc (fun vs H Q E h => ?_) (fun cdv AA outer s H vs Q E hr h => ?_)
  · obtain ⟨F, p, dx, rfl, _⟩ := h
    rfl
  · obtain ⟨F, p, dx, rfl, W0, hp, fp, k⟩ := h
    refine ⟨_, (pss_cons (ps_fldK (K := K) (pv 0) pe_dnewK)
      (pss_cons (ps_fldK (K := K) (pv 0) (pe_lst pa_nil))
      (pss_one (ps_fldK (K := K) (pv 0) (pe_lst pa_nil))))), ?_⟩
    intro d hd
    have e1 : Ev Tb S0 F H (upd F d (.dK [])) (upd H d (.dK [])) := Ev.frz W0 hd
    refine ⟨_, rfl, put_ e1.wd (e1.kp hp) (e1.nf hp fp) T.clB T.nBp (by decide) fun H2 e2 hp2 => ?_⟩
    have fp2 := e2.nf (e1.kp hp) (e1.nf hp fp)
    refine ⟨sz0, fun a ha => ?_⟩
    have e3 : Ev Tb S0 (upd F d (.dK [])) H2 (upd F d (.dK [])) (upd H2 a (.lst [])) := Ev.new e2.wd ha
    have a3 : upd H2 a (.lst []) a = some (.lst []) := upd_same
    have pa : p ≠ a := ne_of_none hp2 ha
    refine ⟨_, rfl, put_ e3.wd (e3.kp hp2) fp2 T.clB T.nBa (by show 1 < 1000; decide) fun H4 e4 hp4 => ?_⟩
    refine ⟨sz0, fun b hb => ?_⟩
    have e5 : Ev Tb S0 (upd F d (.dK [])) H4 (upd F d (.dK [])) (upd H4 b (.lst [])) := Ev.new e4.wd hb
    have b5 : upd H4 b (.lst []) b = some (.lst []) := upd_same
    have pb : p ≠ b := ne_of_none hp4 hb
    have ha4 := e4.kp a3 (Ne.symm pa)
    have ab : a ≠ b := ne_of_none ha4 hb
    refine ⟨_, rfl, put_ e5.wd (e5.kp hp4) fp2 T.clB T.nBf (Nat.lt_of_le_of_lt (length_putF _ _ _) (by show 2 < 1000; decide)) fun H6 e6 hp6 => ?_⟩
    have efs : putF ("future" : Str) (V.ref b) (putF ("past" : Str) (V.ref a) (putF ("programs" : Str) (V.ref d) [])) = bF d a b := by
      show putF ("future" : Str) (V.ref b) (putF ("past" : Str) (V.ref a) [(("programs" : Str), V.ref d)]) = _
      rw [putF_ne b_pa]
      show putF ("future" : Str) (V.ref b) [(("programs" : Str), V.ref d), (("past" : Str), V.ref a)] = _
      rw [putF_ne b_pf, putF_ne b_af]
      rfl
    rw [efs] at hp6
    have e13 := ((e1.to0 (S := (· = p))).then e2)
    have e16 := ((((e13.trans0 e3).then e4).trans0 e5).then e6)
    have a0 : H a = none := e13.fr ha
    have b0 : H b = none := ((e13.trans0 e3).then e4).fr hb
    refine k _ H6 a b e16 a0 b0 ⟨dx, d, [], [], hp6, ⟨d, [], rfl, upd_same, .nil⟩, e6.kp (e5.kp ha4) (Ne.symm pa), e6.kp b5 (Ne.symm pb), .nil, .nil, fp2, e6.nf (e5.kp ha4) (e5.nf ha4 (e4.nf a3 (e2.wd.none ha))), e4.wd.none hb, ab⟩
abbrev s_Bench_undo : Stmt := inClass (top 47) 12
abbrev N_Bench_undo : List Str := [("self" : Str)]
abbrev P_Bench_undo : List Str := [("self" : Str)]
theorem sc_Bench_undo : FnScope N_Bench_undo P_Bench_undo (defScope s_Bench_undo) := ⟨rfl, rfl, rfl, by decide +kernel, rfl, by decide +kernel, by decide +kernel⟩
theorem bd_Bench_undo {K : PySem.W.Frag} {f : Addr} {fd : FuncData} (F : L2.Fun K "undo" "Bench.undo" s_Bench_undo f fd) : Binds K fd P_Bench_undo [] := F.binds fun _ _ _ _ _ _ us hl => match us, hl with | [_], _ => rfl

def spUndo (A : Ad) (Tb : List (Addr × Str)) : Sp := fun vs H Q E => ∃ (F : Hp) (p a b : Addr) (m : Mst), vs = [.ref p] ∧ Wd Tb F H ∧ BenchAt A F H p a b m ∧ m.past.length + m.fut.length ≤ 100000 ∧ (m.past = [] → E (.ref A.xNU) none H) ∧ (m.past ≠ [] → ∀ F' H', Ev Tb (mS p a b) F H F' H' → BenchAt A F' H' p a b (undoM m).1 → Q .non H')
theorem ok_undo {f : Addr} {fd : FuncData} (F : L2.Fun K "undo" "Bench.undo" s_Bench_undo f fd) (T : Txt P K mg A) : FnOk P w K mg base (L2.CX P w) 1 f fd P_Bench_undo (spUndo A Tb) := by
  have sc := sc_Bench_undo
  refine F.okX sc (fun vs H Q E h => ?_) (fun cdv AA outer s H vs Q E hr h => ?_)
  · obtain ⟨F, p, a, b, m, rfl, _⟩ := h
    rfl
  · obtain ⟨F, p, a, b, m, rfl, W0, ⟨dx, d, xs, ys, h⟩, hlen, k0, k1⟩ := h
    refine ⟨_, (pss_cons (ps_if (pt_not (pt_truthK (K := K) (pe_fldK (K := K) (pv 0)))) (pss_one (ps_raise rfl (takes_of rfl rfl rfl rfl) (pmk_x0 T.x_NothingToUndo Z_NothingToUndo hr))) pss_nil)
      (pss_cons (ps_expr (pe_bmK (K := K) PySem.F.plainAttrs_list PySem.F.slot_list_append PySem.F.type_list_append mt_append (pe_fldK (K := K) (pv 0)) (pa_cons (pe_fldK (K := K) (pv 0)) pa_nil)))
      (pss_one (ps_fldK (K := K) (pv 0) (pe_bm0K' (K := K) PySem.F.plainAttrs_list PySem.F.slot_list_pop PySem.F.type_list_pop mt_pop (pe_fldK (K := K) (pv 0))))))), ?_⟩
    have lx := h.hx.length
    have ly := h.hy.length
    refine ⟨_, rfl, p, A.CB, dx, _, _, rfl, h.hp, T.clB, T.nBa, bf_a, _, .inl ⟨xs, SqL.of h.ha, rfl⟩, ?_⟩
    cases el : m.past.getLast? with
    | none =>
      have en : m.past = [] := List.getLast?_eq_none_iff.mp el
      have ex : xs = [] := List.eq_nil_of_length_eq_zero (by rw [lx, en]; rfl)
      subst ex
      exact itT rfl (k0 en)
    | some st =>
      have en : m.past ≠ [] := fun e => by rw [e] at el; cases el
      have ex : xs.isEmpty = false := by
        cases xs with
        | nil => exact absurd (List.eq_nil_of_length_eq_zero (lx.symm.trans rfl)) en
        | cons a b => rfl
      refine itF (by rw [ex]; rfl) ?_
      obtain ⟨y, hy, hyd⟩ := h.hx.last el
      refine ⟨_, rfl, p, A.CB, dx, _, _, rfl, h.hp, T.clB, T.nBf, bf_f, .inl ⟨rfl, _, SqL.of h.hb⟩, _, rfl, p, A.CB, dx, _, _, rfl, h.hp, T.clB, T.nBp, bf_p, b, ys, _, rfl, rfl, h.hb, szL (by omega), ?_⟩
      have e1 : Ev Tb (mS p a b) F H F (upd H b (.lst (ys ++ [V.ref d]))) := Ev.set W0 h.hb h.fb (fun _ z => by cases z) (fun _ z => by cases z) (.inr (.inr rfl))
      have hp1 : upd H b (.lst (ys ++ [V.ref d])) p = some (.ins A.CB dx (bF d a b)) := by rw [upd_ne h.pb]; exact h.hp
      have ha1 : upd H b (.lst (ys ++ [V.ref d])) a = some (.lst xs) := by rw [upd_ne h.ne]; exact h.ha
      have hb1 : upd H b (.lst (ys ++ [V.ref d])) b = some (.lst (ys ++ [V.ref d])) := upd_same
      refine ⟨_, rfl, p, A.CB, dx, _, _, rfl, hp1, T.clB, T.nBa, bf_a, .inl ⟨rfl, _, SqL.of ha1⟩, a, xs, y, rfl, rfl, ha1, hy, ?_⟩
      have e2 : Ev Tb (mS p a b) F _ F (upd (upd H b (.lst (ys ++ [V.ref d]))) a (.lst xs.dropLast)) := Ev.set e1.wd ha1 h.fa (fun _ z => by cases z) (fun _ z => by cases z) (.inr (.inl rfl))
      have hp2 : upd (upd H b (.lst (ys ++ [V.ref d]))) a (.lst xs.dropLast) p = some (.ins A.CB dx (bF d a b)) := by rw [upd_ne h.pa]; exact hp1
      have hb2 : upd (upd H b (.lst (ys ++ [V.ref d]))) a (.lst xs.dropLast) b = some (.lst (ys ++ [V.ref d])) := by rw [upd_ne (Ne.symm h.ne)]; exact hb1
      have ha2 : upd (upd H b (.lst (ys ++ [V.ref d]))) a (.lst xs.dropLast) a = some (.lst xs.dropLast) := upd_same
      obtain ⟨d', kvs, rfl, hd', hrows⟩ := hyd
      refine ⟨_, rfl, put_ e2.wd hp2 h.fp T.clB T.nBp (by show 3 < 1000; decide) fun H3 e3 hp3 => ?_⟩
      rw [bp_p] at hp3
      have um : (undoM m).1 = ⟨st, m.past.dropLast, m.fut ++ [m.st]⟩ := by unfold undoM; rw [el]
      rw [um] at k1
      exact k1 en F H3 ((e1.then e2).then (e3.to fun x hx => .inl (.inl hx))) ⟨dx, d', _, _, hp3, ⟨d', kvs, rfl, hd', hrows⟩, e3.kp ha2 (Ne.symm h.pa), e3.kp hb2 (Ne.symm h.pb), h.hx.dropLast, h.hy.snoc h.hd, h.fp, h.fa, h.fb, h.ne⟩
abbrev s_Bench_redo : Stmt := inClass (top 47) 13
abbrev N_Bench_redo : List Str := [("self" : Str)]
abbrev P_Bench_redo : List Str := [("self" : Str)]
theorem sc_Bench_redo : FnScope N_Bench_redo P_Bench_redo (defScope s_Bench_redo) := ⟨rfl, rfl, rfl, by decide +kernel, rfl, by decide +kernel, by decide +kernel⟩
theorem bd_Bench_redo {K : PySem.W.Frag} {f : Addr} {fd : FuncData} (F : L2.Fun K "redo" "Bench.redo" s_Bench_redo f fd) : Binds K fd P_Bench_redo [] := F.binds fun _ _ _ _ _ _ us hl => match us, hl with | [_], _ => rfl

def spRedo (A : Ad) (Tb : List (Addr × Str)) : Sp := fun vs H Q E => ∃ (F : Hp) (p a b : Addr) (m : Mst), vs = [.ref p] ∧ Wd Tb F H ∧ BenchAt A F H p a b m ∧ m.past.length + m.fut.length ≤ 100000 ∧ (m.fut = [] → E (.ref A.xNR) none H) ∧ (m.fut ≠ [] → ∀ F' H', Ev Tb (mS p a b) F H F' H' → BenchAt A F' H' p a b (redoM m).1 → Q .non H')
theorem ok_redo {f : Addr} {fd : FuncData} (F : L2.Fun K "redo" "Bench.redo" s_Bench_redo f fd) (T : Txt P K mg A) : FnOk P w K mg base (L2.CX P w) 1 f fd P_Bench_redo (spRedo A Tb) := by
  have sc := sc_Bench_redo
  refine F.okX sc (fun vs H Q E h => ?_) (fun cdv AA outer s H vs Q E hr h => ?_)
  · obtain ⟨F, p, a, b, m, rfl, _⟩ := h
    rfl
  · obtain ⟨F, p, a, b, m, rfl, W0, ⟨dx, d, xs, ys, h⟩, hlen, k0, k1⟩ := h
    refine ⟨_, (pss_cons (ps_if (pt_not (pt_truthK (K := K) (pe_fldK (K := K) (pv 0)))) (pss_one (ps_raise rfl (takes_of rfl rfl rfl rfl) (pmk_x0 T.x_NothingToRedo Z_NothingToRedo hr))) pss_nil)
      (pss_cons (ps_expr (pe_bmK (K := K) PySem.F.plainAttrs_list PySem.F.slot_list_append PySem.F.type_list_append mt_append (pe_fldK (K := K) (pv 0)) (pa_cons (pe_fldK (K := K) (pv 0)) pa_nil)))
      (pss_one (ps_fldK (K := K) (pv 0) (pe_bm0K' (K := K) PySem.F.plainAttrs_list PySem.F.slot_list_pop PySem.F.type_list_pop mt_pop (pe_fldK (K := K) (pv 0))))))), ?_⟩
    have lx := h.hx.length
    have ly := h.hy.length
    refine ⟨_, rfl, p, A.CB, dx, _, _, rfl, h.hp, T.clB, T.nBf, bf_f, _, .inl ⟨ys, SqL.of h.hb, rfl⟩, ?_⟩
    cases el : m.fut.getLast? with
    | none =>
      have en : m.fut = [] := List.getLast?_eq_none_iff.mp el
      have ex : ys = [] := List.eq_nil_of_length_eq_zero (by rw [ly, en]; rfl)
      subst ex
      exact itT rfl (k0 en)
    | some st =>
      have en : m.fut ≠ [] := fun e => by rw [e] at el; cases el
      have ex : ys.isEmpty = false := by
        cases ys with
        | nil => exact absurd (List.eq_nil_of_length_eq_zero (ly.symm.trans rfl)) en
        | cons a b => rfl
      refine itF (by rw [ex]; rfl) ?_
      obtain ⟨y, hy, hyd⟩ := h.hy.last el
      refine ⟨_, rfl, p, A.CB, dx, _, _, rfl, h.hp, T.clB, T.nBa, bf_a, .inl ⟨rfl, _, SqL.of h.ha⟩, _, rfl, p, A.CB, dx, _, _, rfl, h.hp, T.clB, T.nBp, bf_p, a, xs, _, rfl, rfl, h.ha, szL (by omega), ?_⟩
      have e1 : Ev Tb (mS p a b) F H F (upd H a (.lst (xs ++ [V.ref d]))) := Ev.set W0 h.ha h.fa (fun _ z => by cases z) (fun _ z => by cases z) (.inr (.inl rfl))
      have hp1 : upd H a (.lst (xs ++ [V.ref d])) p = some (.ins A.CB dx (bF d a b)) := by rw [upd_ne h.pa]; exact h.hp
      have hb1 : upd H a (.lst (xs ++ [V.ref d])) b = some (.lst ys) := by rw [upd_ne (Ne.symm h.ne)]; exact h.hb
      have ha1 : upd H a (.lst (xs ++ [V.ref d])) a = some (.lst (xs ++ [V.ref d])) := upd_same
      refine ⟨_, rfl, p, A.CB, dx, _, _, rfl, hp1, T.clB, T.nBf, bf_f, .inl ⟨rfl, _, SqL.of hb1⟩, b, ys, y, rfl, rfl, hb1, hy, ?_⟩
      have e2 : Ev Tb (mS p a b) F _ F (upd (upd H a (.lst (xs ++ [V.ref d]))) b (.lst ys.dropLast)) := Ev.set e1.wd hb1 h.fb (fun _ z => by cases z) (fun _ z => by cases z) (.inr (.inr rfl))
      have hp2 : upd (upd H a (.lst (xs ++ [V.ref d]))) b (.lst ys.dropLast) p = some (.ins A.CB dx (bF d a b)) := by rw [upd_ne h.pb]; exact hp1
      have ha2 : upd (upd H a (.lst (xs ++ [V.ref d]))) b (.lst ys.dropLast) a = some (.lst (xs ++ [V.ref d])) := by rw [upd_ne h.ne]; exact ha1
      have hb2 : upd (upd H a (.lst (xs ++ [V.ref d]))) b (.lst ys.dropLast) b = some (.lst ys.dropLast) := upd_same
      obtain ⟨d', kvs, rfl, hd', hrows⟩ := hyd
      refine ⟨_, rfl, put_ e2.wd hp2 h.fp T.clB T.nBp (by show 3 < 1000; decide) fun H3 e3 hp3 => ?_⟩
      rw [bp_p] at hp3
      have um : (redoM m).1 = ⟨st, m.past ++ [m.st], m.fut.dropLast⟩ := by unfold redoM; rw [el]
      rw [um] at k1
      exact k1 en F H3 ((e1.then e2).then (e3.to fun x hx => .inl (.inl hx))) ⟨dx, d', _, _, hp3, ⟨d', kvs, rfl, hd', hrows⟩, e3.kp ha2 (Ne.symm h.pa), e3.kp hb2 (Ne.symm h.pb), h.hx.snoc h.hd, h.hy.dropLast, h.fp, h.fa, h.fb, h.ne⟩
abbrev s_Bench_setitem : Stmt := inClass (top 47) 7
abbrev N_Bench_setitem : List Str := [("self" : Str), ("name" : Str), ("program" : Str)]
abbrev P_Bench_setitem : List Str := [("self" : Str), ("name" : Str), ("program" : Str)]
theorem sc_Bench_setitem : FnScope N_Bench_setitem P_Bench_setitem (defScope s_Bench_setitem) := ⟨rfl, rfl, rfl, by decide +kernel, rfl, by decide +kernel, by decide +kernel⟩
theorem bd_Bench_setitem {K : PySem.W.Frag} {f : Addr} {fd : FuncData} (F : L2.Fun K "__setitem__" "Bench.__setitem__" s_Bench_setitem f fd) : Binds K fd P_Bench_setitem [] := F.binds fun _ _ _ _ _ _ us hl => match us, hl with | [_, _, _], _ => rfl

def spBSet (A : Ad) (Tb : List (Addr × Str)) : Sp := fun vs H Q E => ∃ (F : Hp) (p a b : Addr) (m : Mst) (n : Str) (r : V) (pr : List Stp), vs = [.ref p, .str n, r] ∧ Wd Tb F H ∧ BenchAt A F H p a b m ∧ SV m.st ∧ m.past.length ≤ 100000 ∧ ProgAt A F r pr ∧ (NmOk n ∨ n = ("9" : Str)) ∧
  (n = ("9" : Str) → ∀ F' H' dd, Ev Tb S0 F H F' H' → H' dd = some (.xd [(("name" : Str), .str n)]) → E (.ref A.xBN) (some dd) H') ∧
  (NmOk n → n ∉ names m.st ∧ 20 ≤ m.st.length → ∀ F' H' dd, Ev Tb S0 F H F' H' → H' dd = some (.xd [(("most" : Str), .int 20)]) → E (.ref A.xTM) (some dd) H') ∧
  (NmOk n → ¬ (n ∉ names m.st ∧ 20 ≤ m.st.length) → ∀ F' H' b', BGo A Tb p a b F H ⟨putIn m.st n pr, m.past ++ [m.st], []⟩ F' H' b' → Q .non H')
theorem nine_not : ¬ NmOk ("9" : Str) := fun h => by
  have := (h.lt 57 (by decide +kernel)).1
  omega
theorem ok_bset {f : Addr} {fd : FuncData} (F : L2.Fun K "__setitem__" "Bench.__setitem__" s_Bench_setitem f fd) (T : Txt P K mg A) (F_is_name : FnG P w K mg base CX0 1 "is_name" P_is_name (spIsName Tb)) (F_Bench_settle : MtG P w K mg base CX0 1 A.CB "settle" P_Bench_settle (spSettle A Tb)) :
    FnOk P w K mg base (L2.CX P w) 2 f fd P_Bench_setitem (spBSet A Tb) := by
  have sc := sc_Bench_setitem
  refine F.okX sc (fun vs H Q E h => ?_) (fun cdv AA outer s H vs Q E hr h => ?_)
  · obtain ⟨F, p, a, b, m, n, r, pr, rfl, _⟩ := h
    rfl
  · obtain ⟨F, p, a, b, m, n, r, pr, rfl, W0, hb, hs, hlen, hpr, hn, k0, k1, k2⟩ := h
    refine ⟨_, (pss_cons (ps_if (pt_not (pt_val (pe_fn0 F_is_name hr (pa_cons (pv 1) pa_nil)))) (pss_one (ps_raise rfl (takes_of rfl rfl rfl rfl) (pmk_x1 T.x_BadName Z_BadName T.rdB.noN hr (pa_cons (pv 1) pa_nil)))) pss_nil)
      (pss_cons (ps_if (PW.pt (pw_and (pt_cmp (pc_dnotin (hu_of hr) (pv 1) (pe_fldK (K := K) (pv 0)))) (pw_and1 (pt_cmpR op_ge (pe_callB call_lenRd (by rfl) T.z_len PySem.boot_len (pa_cons (pe_fldK (K := K) (pv 0)) pa_nil)) (pe_glob (v := .int _) rfl T.g_MOST_NAMES ⟨_, rfl⟩) (nomark _))))) (pss_one (ps_raise rfl (takes_of rfl rfl rfl rfl) (pmk_x1 T.x_TooMany Z_TooMany T.rdT.noN hr (pa_cons (pe_glob (v := .int _) rfl T.g_MOST_NAMES ⟨_, rfl⟩) pa_nil)))) pss_nil)
      (pss_one (ps_expr (pe_methE (pv 0) T.clB F_Bench_settle (hr.mono (by decide)) (fun σ => passAt0 σ) (pa_cons (pe_dstar (pe_fldK (K := K) (pv 0)) (pv 1) (pv 2)) pa_nil)))))), ?_⟩
    rcases hn with hn | hn
    · refine ⟨_, rfl, F, n, true, rfl, W0, .inl ⟨hn, rfl⟩, fun F1 H1 e1 => ⟨_, rfl, itF rfl ?_⟩⟩
      obtain ⟨dx, d, xs, ys, h⟩ := hb.ev0 e1
      obtain ⟨d', kvs, ed, hd, hrows⟩ := h.hd
      cases ed
      have lk := hrows.length
      have l20 := hs.len
      have lx := h.hx.length
      unfold tNext
      dsimp only
      refine tSeq_ (tIf_and (b1 := !decide (n ∈ names m.st)) (b2 := decide ((20 : Int) ≤ (kvs.length : Int))) (fun Q' hq => ⟨_, rfl, _, rfl, p, A.CB, dx, _, _, rfl, h.hp, T.clB, T.nBp, bf_p, d, valV kvs (.inr n), rfl, .inl ⟨kvs, .inr n, .inl (e1.wd.sub _ _ hd), rfl, rfl⟩, _, rfl, by rw [dc_some hrows]; exact hq⟩)
        (fun _ Q' hq => ⟨_, rfl, p, A.CB, dx, _, _, rfl, h.hp, T.clB, T.nBp, bf_p, d, kvs, rfl, .inl (e1.wd.sub _ _ hd), _, _, rfl, rfl, _, rfl, hq⟩) (fun c1 c2 => ?_) (fun c => ?_))
      · have hn1 : n ∉ names m.st := by simpa using c1
        have hn2 := of_decide_eq_true c2
        exact ⟨_, rfl, fun dd hdd => k1 hn ⟨hn1, by omega⟩ F1 _ dd (e1.trans0 (Ev.new e1.wd hdd)) upd_same⟩
      · have hno : ¬ (n ∉ names m.st ∧ 20 ≤ m.st.length) := fun ⟨z1, z2⟩ => by
          rw [decide_eq_false z1] at c
          have c2 := of_decide_eq_false (show decide ((20 : Int) ≤ (kvs.length : Int)) = false from c)
          omega
        dsimp only
        refine ⟨_, rfl, p, dx, _, rfl, h.hp, bf_none (by decide +kernel) (by decide +kernel) (by decide +kernel), ?_⟩
        intro d0 hd0
        have e2 : Ev Tb S0 F1 H1 F1 (upd H1 d0 (.dK [])) := Ev.new e1.wd hd0
        have z2 : upd H1 d0 (.dK []) d0 = some (.dK []) := upd_same
        have f0 := e1.wd.none hd0
        have h2 := h.ev e2 (fun z => z) (fun z => z) (fun z => z)
        have hd2 := e2.wd.sub _ _ hd
        have dd0 : d ≠ d0 := fun z => by rw [z, f0] at hd; cases hd
        refine ⟨_, rfl, p, A.CB, dx, _, _, rfl, h2.hp, T.clB, T.nBp, bf_p, d, kvs, rfl, dd0, hd2, z2, szL (by omega), ?_⟩
        rw [merge_dc hrows hs.nd]
        have e3 : Ev Tb (· = d0) F1 _ F1 (upd (upd H1 d0 (.dK [])) d0 (.dK kvs)) := Ev.set e2.wd z2 f0 (fun _ z => by cases z) (fun _ z => by cases z) rfl
        have z3 : upd (upd H1 d0 (.dK [])) d0 (.dK kvs) d0 = some (.dK kvs) := upd_same
        intro q hq
        have e4 : Ev Tb S0 F1 (upd (upd H1 d0 (.dK [])) d0 (.dK kvs)) F1 (upd (upd (upd H1 d0 (.dK [])) d0 (.dK kvs)) q (.dK [])) := Ev.new e3.wd hq
        have q4 : upd (upd (upd H1 d0 (.dK [])) d0 (.dK kvs)) q (.dK []) q = some (.dK []) := upd_same
        have z4 := e4.kp z3
        have fq := e3.wd.none hq
        have qd : q ≠ d0 := fun z => by rw [z, z3] at hq; cases hq
        refine ⟨_, rfl, .inr n, rfl, _, rfl, q4, z4, ?_⟩
        have e5 : Ev Tb (· = q) F1 _ F1 (upd (upd (upd (upd H1 d0 (.dK [])) d0 (.dK kvs)) q (.dK [])) q (.dK [((.inr n : Key), r)])) := Ev.set e4.wd q4 fq (fun _ z => by cases z) (fun _ z => by cases z) rfl
        have z5 : upd (upd (upd (upd H1 d0 (.dK [])) d0 (.dK kvs)) q (.dK [])) q (.dK [((.inr n : Key), r)]) d0 = some (.dK kvs) := by rw [upd_ne (Ne.symm qd)]; exact z4
        have e6 : Ev Tb (· = d0) F1 _ F1 (upd (upd (upd (upd (upd H1 d0 (.dK [])) d0 (.dK kvs)) q (.dK [])) q (.dK [((.inr n : Key), r)])) d0 (.dK (putK kvs (.inr n) r))) := Ev.set e5.wd z5 f0 (fun _ z => by cases z) (fun _ z => by cases z) rfl
        have nq : H1 q = none := e2.fr (e3.fr hq)
        have e26 : Ev Tb S0 F1 H1 F1 (upd (upd (upd (upd (upd H1 d0 (.dK [])) d0 (.dK kvs)) q (.dK [])) q (.dK [((.inr n : Key), r)])) d0 (.dK (putK kvs (.inr n) r))) :=
          (((e2.trans e3 (fun _ z => z) fun b hb => .inr (by rw [hb]; exact hd0)).trans0 e4).trans e5 (fun _ z => z) fun b hb => .inr (by rw [hb]; exact nq)).trans e6 (fun _ z => z) fun b hb => .inr (by rw [hb]; exact hd0)
        have z6 : upd (upd (upd (upd (upd H1 d0 (.dK [])) d0 (.dK kvs)) q (.dK [])) q (.dK [((.inr n : Key), r)])) d0 (.dK (putK kvs (.inr n) r)) d0 = some (.dK (putK kvs (.inr n) r)) := upd_same
        have e7 := e26.freeze hd0 z6 f0
        have sm := frz_at (o := .dK (putK kvs (.inr n) r)) f0
        have hput : Alls (RowAt A (upd F1 d0 (.dK (putK kvs (.inr n) r)))) (putK kvs (.inr n) r) (putIn m.st n pr) := dc_put (hrows.mono fun v s k => k.mono _ _ sm) ((e1.trans0 e7).pr hpr)
        exact ⟨_, p, a, b, m, .ref d0, putIn m.st n pr, rfl, e7.wd, (hb.ev0 e1).ev0 e7, ⟨d0, _, rfl, upd_same, hput⟩, hlen, fun F8 H8 b8 g8 => k2 hn hno F8 H8 b8 (BGo.pre (e1.trans0 e7) g8)⟩
    · refine ⟨_, rfl, F, n, false, rfl, W0, .inr ⟨hn, rfl⟩, fun F1 H1 e1 => ⟨_, rfl, itT rfl ?_⟩⟩
      exact ⟨_, rfl, _, rfl, fun dd hdd => k0 hn F1 _ dd (e1.trans0 (Ev.new e1.wd hdd)) upd_same⟩
end
end K64
/-! ## KP8 -/
set_option Elab.async false
set_option linter.all false
set_option maxRecDepth 100000
set_option maxHeartbeats 2000000
namespace K64
open PySem PySem.Spec PyProof.Rows L2 LamX
section
variable {P : Program} {w : World} {K : PySem.W.Frag} {mg : Str → Option Value} {base : Heap} {A : Ad} {Tb : List (Addr × Str)}
theorem kv_flat {k : Key} : True := True.intro
/-- {k: v for k, v in d.items() if k != n}, d locked -/
theorem dc_drop {F F1 H1 : Hp} {d D : Addr} {od : Obj} {kvs : List (Key × V)} {st : Bst} {n : Str} {σ : L2.St} {g : TG} {tt : TT} {tk tv : TE} {vs : List Nat} {Qd : Hp → Prop} (hd : F d = some (.dK kvs)) (hrows : Alls (RowAt A F) kvs st) (nd : (names st).Nodup) (hl : kvs.length ≤ 100000) (m1 : Same (less F d) F1) (w1 : Wd Tb F1 H1) (hf : H1 d = some (.frz od (.dK kvs))) (hD : H1 D = none)
    (turn : ∀ x r F2 H2 (v : V) (R : V → V → Hp → Prop) (R0 : Hp → Prop), Ev Tb S0 F1 H1 F2 H2 → (∃ T, x = V.ref T ∧ F2 T = some (.tup [V.str r, v])) → (r ≠ n → R (.str r) v H2) → (r = n → R0 H2) →
      g x (wipe σ vs) H2 fun σ2 H3 => wipe σ2 vs = wipe σ vs ∧ tt σ2 H3 fun b H4 => if b = true then tk σ2 H4 fun y H5 => tv σ2 H5 fun z H6 => R y z H6 else R0 H4)
    (k : ∀ F2 H2, Ev Tb S0 F1 H1 F2 H2 → DcAt A F2 (.ref D) (st.filter fun r => decide (r.1 ≠ n)) → Qd H2) :
    ∃ W : Nat → Nat → Hp → Prop, (∃ m, W 0 m (upd H1 D (.dK []))) ∧ ∀ i m H, W i m H →
      ((Iti d od kvs).stop i H ∧ Qd H) ∨ ((Iti d od kvs).go i H ∧ ∃ Nx : Hp → Prop, (∀ H', Nx H' → ∃ m', m' < m ∧ W (i + 1) m' H') ∧ ∀ x H', (Iti d od kvs).yld i H x H' → g x (wipe σ vs) H' fun σ2 H2 => wipe σ2 vs = wipe σ vs ∧ tt σ2 H2 fun b H3 =>
        if b = true then tk σ2 H3 fun y H4 => tv σ2 H4 fun z H5 => ∃ kvs k, y = kV k ∧ H5 D = some (.dK kvs) ∧ kvs.length < sizeLine ∧ Nx (upd H5 D (.dK (putK kvs k z))) else Nx H3) := by
  have fD := w1.none hD
  have dD : d ≠ D := ne_of_none hf hD
  refine ⟨fun i m H => m = kvs.length - i ∧ i ≤ kvs.length ∧ ∃ F2 acc, Ev Tb S0 F1 H1 F2 H ∧ H D = some (.dK acc) ∧ F2 D = none ∧ Alls (RowAt A F2) acc ((st.take i).filter fun r => decide (r.1 ≠ n)), ⟨kvs.length, by simp, Nat.zero_le _, F1, [], Ev.new w1 hD, upd_same, fD, .nil⟩, ?_⟩
  rintro i m H ⟨rfl, hi, F2, acc, e2, hacc, facc, hal⟩
  have wk := walk_items (d := d) (o := od) (kvs := kvs)
  have hf2 := e2.kp hf
  by_cases hlt : i < kvs.length
  · refine .inr ⟨wk.goes i H hlt hf2, fun H' => ∃ F3 acc', Ev Tb S0 F1 H1 F3 H' ∧ H' D = some (.dK acc') ∧ F3 D = none ∧ Alls (RowAt A F3) acc' ((st.take (i + 1)).filter fun r => decide (r.1 ≠ n)), fun H' ⟨F3, acc', q⟩ => ⟨kvs.length - (i + 1), by omega, rfl, hlt, F3, acc', q⟩, fun x H' y => ?_⟩
    obtain ⟨z, F3, hz, e3, T, v, rfl, hT, hpr⟩ := yItems hd hrows m1 i x H H' F2 hlt e2 (wk.yields i H x H' hlt hf2 y)
    have tk1 : st.take (i + 1) = st.take i ++ [z] := by rw [List.take_add_one, hz]; rfl
    have e23 := e2.trans0 e3
    have hacc3 := e3.kp hacc
    have facc3 := e3.nf hacc facc
    have hal3 : Alls (RowAt A F3) acc ((st.take i).filter fun r => decide (r.1 ≠ n)) := hal.mono fun v s k => k.mono _ _ e3.mono
    refine turn (.ref T) z.1 F3 H' v _ _ e23 ⟨T, rfl, hT⟩ (fun hne => ?_) (fun he => ?_)
    · have e4 : Ev Tb (· = D) F3 H' F3 (upd H' D (.dK (putK acc (.inr z.1) v))) := Ev.set e3.wd hacc3 facc3 (fun _ z => by cases z) (fun _ z => by cases z) rfl
      have hnot : z.1 ∉ names ((st.take i).filter fun r => decide (r.1 ≠ n)) := fun q => by
        obtain ⟨r, hr, er⟩ := List.mem_map.mp q
        have hr2 := (List.mem_filter.mp hr).1
        have e9 : st = st.take i ++ z :: st.drop (i + 1) := by
          have h1 : i < st.length := (List.getElem?_eq_some_iff.mp hz).1
          have h2 : st[i] = z := (List.getElem?_eq_some_iff.mp hz).2
          rw [← h2, List.getElem_cons_drop, List.take_append_drop]
        rw [e9] at nd
        unfold names at nd
        rw [List.map_append] at nd
        exact (List.nodup_append.mp nd).2.2 r.1 (List.mem_map.mpr ⟨r, hr2, rfl⟩) z.1 List.mem_cons_self er
      have ep : putK acc (.inr z.1) v = acc ++ [((.inr z.1 : Key), v)] := by
        unfold putK
        rw [dc_any hal3, if_neg (by rw [decide_eq_false hnot]; exact Bool.false_ne_true)]
      have la : acc.length ≤ 100000 := by
        have q1 := hal3.length
        have q2 := List.length_filter_le (fun r : Str × List Stp => decide (r.1 ≠ n)) (st.take i)
        rw [List.length_take] at q2
        omega
      refine ⟨acc, .inr z.1, rfl, hacc3, szL (by omega), F3, _, e23.trans e4 (fun _ z => z) (fun b hb => .inr (by rw [hb]; exact hD)), upd_same, facc3, ?_⟩
      rw [ep, tk1, List.filter_append, List.filter_cons, if_pos (decide_eq_true hne)]
      exact hal3.snoc ⟨rfl, hpr⟩
    · refine ⟨F3, acc, e23, hacc3, facc3, ?_⟩
      rw [tk1, List.filter_append, List.filter_cons, if_neg (by simpa using he)]
      simpa using hal3
  · have e : i = kvs.length := by omega
    subst e
    refine .inl ⟨wk.stops H hf2, ?_⟩
    rw [hrows.length, List.take_length] at hal
    have e3 := e2.freeze hD hacc facc
    have sm := frz_at (o := .dK acc) facc
    exact k _ H e3 ⟨D, acc, rfl, upd_same, hal.mono fun v s k => k.mono _ _ sm⟩
abbrev s_Bench_drop : Stmt := inClass (top 47) 9
abbrev N_Bench_drop : List Str := [("self" : Str), ("name" : Str), ("program" : Str), ("other" : Str), ("told" : Str)]
abbrev P_Bench_drop : List Str := [("self" : Str), ("name" : Str)]
theorem sc_Bench_drop : FnScope N_Bench_drop P_Bench_drop (defScope s_Bench_drop) := ⟨rfl, rfl, rfl, by decide +kernel, rfl, by decide +kernel, by decide +kernel⟩
theorem bd_Bench_drop {K : PySem.W.Frag} {f : Addr} {fd : FuncData} (F : L2.Fun K "drop" "Bench.drop" s_Bench_drop f fd) : Binds K fd P_Bench_drop [] := F.binds fun _ _ _ _ _ _ us hl => match us, hl with | [_, _], _ => rfl

def spDrop (A : Ad) (Tb : List (Addr × Str)) : Sp := fun vs H Q E => ∃ (F : Hp) (p a b : Addr) (m : Mst) (n : Str), vs = [.ref p, .str n] ∧ Wd Tb F H ∧ BenchAt A F H p a b m ∧ SV m.st ∧ m.past.length ≤ 100000 ∧
  (n ∉ names m.st → ∀ F' H' dd, Ev Tb S0 F H F' H' → H' dd = some (.xd [(("name" : Str), .str n)]) → E (.ref A.xNN) (some dd) H') ∧
  (n ∈ names m.st → ∀ F' H' b' r, BGo A Tb p a b F H ⟨m.st.filter fun r => decide (r.1 ≠ n), m.past ++ [m.st], []⟩ F' H' b' → ProgAt A F' r (stepsOf m.st n) → Q r H')
theorem ok_drop {f : Addr} {fd : FuncData} (F : L2.Fun K "drop" "Bench.drop" s_Bench_drop f fd) (T : Txt P K mg A) (F_Bench_getitem : MtG P w K mg base (L2.CX P w) 1 A.CB "__getitem__" P_Bench_getitem (spBGet A Tb)) (F_Bench_settle : MtG P w K mg base CX0 1 A.CB "settle" P_Bench_settle (spSettle A Tb)) :
    FnOk P w K mg base (L2.CX P w) 3 f fd P_Bench_drop (spDrop A Tb) := by
  have sc := sc_Bench_drop
  refine F.okX sc (fun vs H Q E h => ?_) (fun cdv AA outer s H vs Q E hr h => ?_)
  · obtain ⟨F, p, a, b, m, n, rfl, _⟩ := h
    rfl
  · obtain ⟨F, p, a, b, m, n, rfl, W0, hb, hs, hlen, k0, k1⟩ := h
    refine ⟨_, (pss_cons (ps_set (i := 2) sc.nd rfl (Or.inl rfl) (pe_ownGet F_Bench_getitem T.fiB (hr.mono (by decide)) (fun σ => passAt (takes_of rfl rfl rfl rfl) σ) (pv 0) (pv 1)))
      (pss_cons (ps_expr (pe_methE (pv 0) T.clB F_Bench_settle (hr.mono (by decide)) (fun σ => passAt0 σ) (pa_cons (pe_lock ((L2.pe_dc (own := [("other", 3), ("told", 4)]) rfl sc.nd (pi_items (pe_fldK (K := K) (pv 0))) (blkOk_by (own := [("other", 3), ("told", 4)]) (N := N_Bench_drop) (sc := defScope s_Bench_drop) (by decide +kernel)) (fun _ _ _ _ _ => by exact (pg_tupK (K := K) (n := 2) (pgs_cons (pg_name (i := 3) sc.nd rfl (Or.inl rfl)) (pgs_cons (pg_name (i := 4) sc.nd rfl (Or.inl rfl)) pgs_nil)))) (fun _ _ _ _ _ => by exact (pts_one (pt_cmpR op_ne (pv 3) (pv 1) (nomark _)))) (fun _ _ _ _ _ => by exact (pv 3)) (fun _ _ _ _ _ => by exact (pv 4))))) pa_nil)))
      (pss_one (ps_ret (pv 2))))), ?_⟩
    obtain ⟨dx, d, xs, ys, h⟩ := id hb
    obtain ⟨d', kvs, ed, hd, hrows⟩ := h.hd
    cases ed
    have lk := hrows.length
    have l20 := hs.len
    refine ⟨_, rfl, _, rfl, p, dx, _, rfl, h.hp, F, p, dx, d, _, m.st, n, rfl, h.hp, bf_p, W0, h.hd, fun hn r hr => ?_, fun hn F' H' dd e hdd => k0 hn F' H' dd e hdd⟩
    refine ⟨_, rfl, p, dx, _, rfl, h.hp, bf_none (by decide +kernel) (by decide +kernel) (by decide +kernel), ?_⟩
    refine ⟨d, _, W0.sub _ _ hd, True.intro, fun od => ?_⟩
    have wl := Ev.locked (od := od) W0 hd
    have pd : p ≠ d := fun z => by have := h.hp; rw [z, W0.sub _ _ hd] at this; cases this
    refine ⟨_, rfl, p, A.CB, dx, _, _, rfl, (by rw [upd_ne pd]; exact h.hp), T.clB, T.nBp, bf_p, d, od, kvs, rfl, upd_same, fun D hD => ?_⟩
    refine dc_drop (n := n) hd hrows hs.nd (by omega) (Same.refl _) wl upd_same hD (fun x r2 F2 H2 v R R0 e2 hx hk hn2 => ?_) fun F2 H2 e2 hdc => ?_
    · obtain ⟨t, rfl, ht⟩ := hx
      refine ⟨t, _, rfl, SqT.of (e2.wd.sub _ _ ht), rfl, _, _, rfl, _, _, rfl, rfl, rfl, _, rfl, _, rfl, rfl, _, rfl, ?_⟩
      rw [dec_str]
      by_cases he : r2 = n
      · rw [decide_eq_true he]
        exact itF rfl (hn2 he)
      · rw [decide_eq_false he]
        exact itT rfl ⟨_, rfl, _, rfl, hk he⟩
    · obtain ⟨h1, e5, sm⟩ := Ev.unlock W0 hd e2
      refine ⟨h1, ?_⟩
      exact ⟨_, p, a, b, m, .ref D, _, rfl, e5.wd, hb.ev0 e5, hdc.mono _ _ sm, hlen, fun F8 H8 b8 g8 => ⟨_, rfl, k1 hn F8 H8 b8 r (BGo.pre e5 g8) (g8.e.pr (e5.pr hr))⟩⟩
abbrev s_Bench_turn_back : Stmt := inClass (top 47) 10
abbrev N_Bench_turn_back : List Str := [("self" : Str), ("name" : Str)]
abbrev P_Bench_turn_back : List Str := [("self" : Str), ("name" : Str)]
theorem sc_Bench_turn_back : FnScope N_Bench_turn_back P_Bench_turn_back (defScope s_Bench_turn_back) := ⟨rfl, rfl, rfl, by decide +kernel, rfl, by decide +kernel, by decide +kernel⟩
theorem bd_Bench_turn_back {K : PySem.W.Frag} {f : Addr} {fd : FuncData} (F : L2.Fun K "turn_back" "Bench.turn_back" s_Bench_turn_back f fd) : Binds K fd P_Bench_turn_back [] := F.binds fun _ _ _ _ _ _ us hl => match us, hl with | [_, _], _ => rfl

def spTurn (A : Ad) (Tb : List (Addr × Str)) : Sp := fun vs H Q E => ∃ (F : Hp) (p a b : Addr) (m : Mst) (n : Str), vs = [.ref p, .str n] ∧ Wd Tb F H ∧ BenchAt A F H p a b m ∧ SV m.st ∧ m.past.length ≤ 100000 ∧ NmOk n ∧
  (n ∉ names m.st → ∀ F' H' dd, Ev Tb S0 F H F' H' → H' dd = some (.xd [(("name" : Str), .str n)]) → E (.ref A.xNN) (some dd) H') ∧
  (n ∈ names m.st → ∀ F' H' b', BGo A Tb p a b F H ⟨putIn m.st n (invP (stepsOf m.st n)), m.past ++ [m.st], []⟩ F' H' b' → Q .non H')
theorem ok_turn {f : Addr} {fd : FuncData} (F : L2.Fun K "turn_back" "Bench.turn_back" s_Bench_turn_back f fd) (T : Txt P K mg A) (F_Bench_getitem : MtG P w K mg base (L2.CX P w) 1 A.CB "__getitem__" P_Bench_getitem (spBGet A Tb)) (F_Bench_setitem : MtG P w K mg base (L2.CX P w) 2 A.CB "__setitem__" P_Bench_setitem (spBSet A Tb))
    (F_Program_invert : MtG P w K mg base CX0 7 A.CP "__invert__" P_Program_invert (spPInv A Tb)) : FnOk P w K mg base (L2.CX P w) 8 f fd P_Bench_turn_back (spTurn A Tb) := by
  have sc := sc_Bench_turn_back
  refine F.okX sc (fun vs H Q E h => ?_) (fun cdv AA outer s H vs Q E hr h => ?_)
  · obtain ⟨F, p, a, b, m, n, rfl, _⟩ := h
    rfl
  · obtain ⟨F, p, a, b, m, n, rfl, W0, hb, hs, hlen, hnm, k0, k1⟩ := h
    refine ⟨_, (pss_one (ps_asg (pe_ownInv F_Program_invert (hr.mono (by decide)) (fun σ => passAt0 σ) (pe_ownGet F_Bench_getitem T.fiB (hr.mono (by decide)) (fun σ => passAt (takes_of rfl rfl rfl rfl) σ) (pv 0) (pv 1))) (pg_ownSet F_Bench_setitem T.nsB (hr.mono (by decide)) (fun σ => passAt (takes_of rfl rfl rfl rfl) σ) (pv 0) (pv 1)))), ?_⟩
    obtain ⟨dx, d, xs, ys, h⟩ := id hb
    refine ⟨_, rfl, _, rfl, p, dx, _, rfl, h.hp, F, p, dx, d, _, m.st, n, rfl, h.hp, bf_p, W0, h.hd, fun hn r hr => ?_, fun hn F' H' dd e hdd => k0 hn F' H' dd e hdd⟩
    obtain ⟨ra, rdx, rfs, t, ts, rfl, hra, hrest⟩ := id hr
    refine ⟨ra, rdx, rfs, rfl, W0.sub _ _ hra, F, _, _, rfl, W0, hr, hs.okP hn, fun F1 H1 r1 e1 hr1 => ?_⟩
    have h1 := h.ev e1 (fun z => z) (fun z => z) (fun z => z)
    refine ⟨_, rfl, _, rfl, p, dx, _, rfl, h1.hp, F1, p, a, b, m, n, r1, _, rfl, e1.wd, hb.ev0 e1, hs, hlen, hr1, .inl hnm, fun e => absurd hnm (by rw [e]; exact nine_not), fun _ c => absurd hn c.1, fun _ _ F8 H8 b8 g8 => k1 hn F8 H8 b8 (BGo.pre e1 g8)⟩
abbrev s_Bench_chain : Stmt := inClass (top 47) 11
abbrev N_Bench_chain : List Str := [("self" : Str), ("name" : Str), ("names" : Str), ("steps" : Str), ("part" : Str)]
abbrev P_Bench_chain : List Str := [("self" : Str), ("name" : Str), ("names" : Str)]
theorem sc_Bench_chain : FnScope N_Bench_chain P_Bench_chain (defScope s_Bench_chain) := ⟨rfl, rfl, rfl, by decide +kernel, rfl, by decide +kernel, by decide +kernel⟩
theorem bd_Bench_chain {K : PySem.W.Frag} {f : Addr} {fd : FuncData} (F : L2.Fun K "chain" "Bench.chain" s_Bench_chain f fd) : Binds K fd P_Bench_chain [] := F.binds fun _ _ _ _ _ _ us hl => match us, hl with | [_, _, _], _ => rfl

def spChain (A : Ad) (Tb : List (Addr × Str)) : Sp := fun vs H Q E => ∃ (F : Hp) (p a b : Addr) (m : Mst) (n : Str) (ns : List Str) (v : V), vs = [.ref p, .str n, v] ∧ Wd Tb F H ∧ BenchAt A F H p a b m ∧ SV m.st ∧ m.past.length ≤ 100000 ∧ NmOk n ∧ ns.length ≤ 3 ∧ DT F v (.list (ns.map .str)) ∧
  (∀ F' H' dd cls fl, Ev Tb S0 F H F' H' → (due m.st (.chain n ns)).1 = none → XIs A (due m.st (.chain n ns)).2 cls fl → H' dd = some (.xd [fl]) → E cls (some dd) H') ∧
  (∀ st', due m.st (.chain n ns) = (some st', okO) → ∀ F' H' b', BGo A Tb p a b F H ⟨st', m.past ++ [m.st], []⟩ F' H' b' → Q .non H')
theorem ok_chain {f : Addr} {fd : FuncData} (F : L2.Fun K "chain" "Bench.chain" s_Bench_chain f fd) (T : Txt P K mg A) (F_Bench_getitem : MtG P w K mg base (L2.CX P w) 1 A.CB "__getitem__" P_Bench_getitem (spBGet A Tb)) (F_Bench_setitem : MtG P w K mg base (L2.CX P w) 2 A.CB "__setitem__" P_Bench_setitem (spBSet A Tb))
    (F_is_name : FnG P w K mg base CX0 1 "is_name" P_is_name (spIsName Tb)) (F_Program_of : CmG P w K mg base (L2.CX P w) 7 A.CP "of" (spOf A Tb)) : FnOk P w K mg base (L2.CX P w) 8 f fd P_Bench_chain (spChain A Tb) := by
  have sc := sc_Bench_chain
  refine F.okX sc (fun vs H Q E h => ?_) (fun cdv AA outer s H vs Q E hr h => ?_)
  · obtain ⟨F, p, a, b, m, n, ns, v, rfl, _⟩ := h
    rfl
  · obtain ⟨F, p, a, b, m, n, ns, v, rfl, W0, hb, hs, hlen, hnm, hns, hv, k0, k1⟩ := h
    refine ⟨_, (pss_cons (ps_if (pt_not (pt_val (pe_fn0 F_is_name hr (pa_cons (pv 1) pa_nil)))) (pss_one (ps_raise rfl (takes_of rfl rfl rfl rfl) (pmk_x1 T.x_BadName Z_BadName T.rdB.noN hr (pa_cons (pv 1) pa_nil)))) pss_nil)
      (pss_cons (ps_set (i := 3) sc.nd rfl (Or.inl rfl) (pe_lst pa_nil))
      (pss_cons (ps_for (passes_of rfl) rfl (pi_listK (K := K) (pv 2)) (pg_name (i := 4) sc.nd rfl (Or.inl rfl))
      (pss_one (ps_expr (pe_bmK (K := K) PySem.F.plainAttrs_list PySem.F.slot_list_extend PySem.F.type_list_extend mt_extend (pv 3) (pa_cons (pe_callTy (call_list_ofK (K := K)) (by rfl) T.z_list (by decide +kernel) (pa_cons (pe_fldK (K := K) (pe_ownGet F_Bench_getitem T.fiB (hr.mono (by decide)) (fun σ => passAt (takes_of rfl rfl rfl rfl) σ) (pv 0) (pv 4))) pa_nil)) pa_nil)))))
      (pss_one (ps_asg (pe_cm F_Program_of (pe_glob (v := .ref _) rfl T.g_Program rfl) T.crP hr (passE (takes_of rfl rfl rfl rfl)) (pa_cons (pv 3) pa_nil)) (pg_ownSet F_Bench_setitem T.nsB (hr.mono (by decide)) (fun σ => passAt (takes_of rfl rfl rfl rfl) σ) (pv 0) (pv 1))))))), ?_⟩
    refine ⟨_, rfl, F, n, true, rfl, W0, .inl ⟨hnm, rfl⟩, fun F1 H1 e1 => ⟨_, rfl, itF rfl ?_⟩⟩
    unfold tNext
    dsimp only
    refine ⟨sz0, fun L hL => ?_⟩
    have e2 : Ev Tb S0 F1 H1 F1 (upd H1 L (.lst [])) := Ev.new e1.wd hL
    have e12 := e1.trans0 e2
    have fL := e1.wd.none hL
    have L2' : upd H1 L (.lst []) L = some (.lst []) := upd_same
    have hL0 : H L = none := e1.fr hL
    obtain ⟨av, vs, rfl, hav, hvs⟩ := hv.lstV
    obtain rfl := hvs.strs
    refine ⟨_, rfl, av, rfl, ⟨_, SqL.of (e12.wd.sub _ _ (e12.mono _ _ hav))⟩, ?_⟩
    refine for_list (K := K) (a := av) (xs := ns.map V.str) (fun i σ H' => ∃ (F' : Hp) (acc : List V) (q : List Stp) (c : Option V), σ = [some (.ref p), some (.str n), some (.ref av), some (.ref L), c] ∧ Ev Tb S0 F H F' H' ∧ H' L = some (.lst acc) ∧ F' L = none ∧ Alls (StepAt A F') acc q ∧ collect m.st (ns.take i) = .ok q)
      ⟨F1, [], [], none, rfl, e12, L2', fL, .nil, rfl⟩ (fun i σ H' _ ⟨F', acc, q, c, _, e, _⟩ => SqL.of (e.wd.sub _ _ (e.mono _ _ hav))) ?_ ?_
    · rintro i y σ H' hy ⟨F', acc, q, c, rfl, e3, hacc, facc, hal, hq⟩
      rw [List.getElem?_map] at hy
      obtain ⟨x, hx, rfl⟩ : ∃ x, ns[i]? = some x ∧ y = .str x := by
        cases q : ns[i]? with
        | none => rw [q] at hy; cases hy
        | some x => rw [q] at hy; exact ⟨x, rfl, (Option.some.inj hy).symm⟩
      have step := collect_at hx hq
      have hok := collect_ok hs hq
      have hll := collect_len hs hq
      have lt : (ns.take i).length ≤ 3 := by rw [List.length_take]; omega
      obtain ⟨dx, d, xs, ys, h⟩ := hb.ev0 e3
      refine ⟨_, rfl, .inl ⟨rfl, _, SqL.of hacc⟩, ?_⟩
      refine ⟨_, rfl, _, rfl, p, dx, _, rfl, h.hp, F', p, dx, d, _, m.st, x, rfl, h.hp, bf_p, e3.wd, h.hd, fun hn r hr => ?_, fun hn F8 H8 dd e hdd => ?_⟩
      · rw [if_pos hn] at step
        obtain ⟨ra, rdx, rfs, t, ts, rfl, hra, hrt, hrs, ht, hts⟩ := hr
        refine ⟨ra, A.CP, rdx, rfs, _, rfl, e3.wd.sub _ _ hra, T.clP, T.nPs, hrs, t, ts, rfl, .inr (SqT.of (e3.wd.sub _ _ ht)), fun l hl => ?_⟩
        have e4 : Ev Tb S0 F' H' F' (upd H' l (.lst ts)) := Ev.new e3.wd hl
        have hacc4 := e4.kp hacc
        have e5 : Ev Tb (· = L) F' _ F' (upd (upd H' l (.lst ts)) L (.lst (acc ++ ts))) := Ev.set e4.wd hacc4 facc (fun _ z => by cases z) (fun _ z => by cases z) rfl
        have l1 := hal.length
        have l2 := hts.length
        have l3 := (hs.okP hn).len
        exact ⟨L, l, acc, ts, rfl, rfl, hacc4, upd_same, szN (by omega), F', acc ++ ts, q ++ stepsOf m.st x, _, rfl, (e3.trans0 e4).trans e5 (fun _ z => z) (fun b hb => .inr (by rw [hb]; exact hL0)), upd_same, facc, hal.append hts, step⟩
      · rw [if_neg hn] at step
        have ed : due m.st (.chain n ns) = noName x := by
          simp only [due, collect_err step]
        exact k0 F8 H8 dd _ _ (e3.trans0 e) (by rw [ed]; rfl) (by rw [ed]; exact .inl ⟨x, rfl, rfl, rfl⟩) hdd
    · rintro σ H' ⟨F', acc, q, c, rfl, e3, hacc, facc, hal, hq⟩
      have hq2 : collect m.st ns = .ok q := by
        rw [List.length_map, List.take_length] at hq
        exact hq
      have hok := collect_ok hs hq2
      have hll := collect_len hs hq2
      refine ⟨rfl, _, rfl, F', L, acc, q, rfl, e3.wd, hacc, hal, hok, by omega, fun ok F5 H5 r e5 hr => ?_, fun h5 F5 H5 d e5 hd => ?_, fun h5 hd2 F5 H5 d e5 hd => ?_⟩
      · have e35 := e3.trans0 e5
        have hb5 := hb.ev0 e35
        obtain ⟨dx, d, xs, ys, h⟩ := id hb5
        have n5 : ¬ 5 < q.length := Nat.not_lt.mpr ok.len
        have n2 : ¬ 2 < deals q := Nat.not_lt.mpr ok.dl
        refine ⟨_, rfl, _, rfl, p, dx, _, rfl, h.hp, F5, p, a, b, m, n, r, q, rfl, e5.wd, hb5, hs, hlen, hr, .inl hnm, fun e => absurd hnm (by rw [e]; exact nine_not), fun _ c F8 H8 dd e8 hdd => ?_, fun _ c F8 H8 b8 g8 => ?_⟩
        · have ed : due m.st (.chain n ns) = tooMany 20 := by
            simp only [due, hq2, chained]
            rw [if_neg n5, if_neg n2, if_pos c]
          exact k0 F8 H8 dd _ _ (e35.trans0 e8) (by rw [ed]; rfl) (by rw [ed]; exact .inr ⟨20, rfl, rfl, rfl⟩) hdd
        · have ed : due m.st (.chain n ns) = (some (putIn m.st n q), okO) := by
            simp only [due, hq2, chained]
            rw [if_neg n5, if_neg n2, if_neg c]
          exact k1 _ ed F8 H8 b8 (BGo.pre e35 g8)
      · have ed : due m.st (.chain n ns) = tooMany 5 := by
          simp only [due, hq2, chained]
          rw [if_pos h5]
        exact k0 F5 H5 d _ _ (e3.trans0 e5) (by rw [ed]; rfl) (by rw [ed]; exact .inr ⟨5, rfl, rfl, rfl⟩) hd
      · have ed : due m.st (.chain n ns) = tooMany 2 := by
          simp only [due, hq2, chained]
          rw [if_neg h5, if_pos hd2]
        exact k0 F5 H5 d _ _ (e3.trans0 e5) (by rw [ed]; rfl) (by rw [ed]; exact .inr ⟨2, rfl, rfl, rfl⟩) hd
end
end K64
/-! ## KL1 -/
set_option Elab.async false
set_option linter.all false
set_option maxRecDepth 100000
set_option maxHeartbeats 2000000
namespace K64
open PySem PySem.Spec PyProof.Rows L2 LamX
section
variable {P : Program} {w : World} {K : PySem.W.Frag} {mg : Str → Option Value} {base : Heap} {A : Ad} {Tb : List (Addr × Str)}
abbrev s__law_taken_back : Stmt := top 73
abbrev N__law_taken_back : List Str := [("_law_bench" : Str)]
abbrev P__law_taken_back : List Str := [("_law_bench" : Str)]
theorem sc__law_taken_back : FnScope N__law_taken_back P__law_taken_back (defScope s__law_taken_back) := ⟨rfl, rfl, rfl, by decide +kernel, rfl, by decide +kernel, by decide +kernel⟩
theorem bd__law_taken_back {K : PySem.W.Frag} {f : Addr} {fd : FuncData} (F : L2.Fun K "_law_taken_back" "_law_taken_back" s__law_taken_back f fd) : Binds K fd P__law_taken_back [] := F.binds fun _ _ _ _ _ _ us hl => match us, hl with | [_], _ => rfl

def spBack (A : Ad) (Tb : List (Addr × Str)) (back : Bool) : Sp := fun vs H Q _ => ∃ (F : Hp) (p a b : Addr) (m : Mst), vs = [.ref p] ∧ Wd Tb F H ∧ BenchAt A F H p a b m ∧ m.past.length + m.fut.length ≤ 100000 ∧ ∀ F' H' r, Ev Tb (mS p a b) F H F' H' → BenchAt A F' H' p a b (moveM back m).1 → DT F' r (obsD (moveM back m).2) → Q r H'
theorem un_undo : (("undo" : Str) ≠ "programs" ∧ ("undo" : Str) ≠ "past" ∧ ("undo" : Str) ≠ "future") ∧ (("redo" : Str) ≠ "programs" ∧ ("redo" : Str) ≠ "past" ∧ ("redo" : Str) ≠ "future") ∧ (("drop" : Str) ≠ "programs" ∧ ("drop" : Str) ≠ "past" ∧ ("drop" : Str) ≠ "future") ∧
    (("turn_back" : Str) ≠ "programs" ∧ ("turn_back" : Str) ≠ "past" ∧ ("turn_back" : Str) ≠ "future") ∧ (("chain" : Str) ≠ "programs" ∧ ("chain" : Str) ≠ "past" ∧ ("chain" : Str) ≠ "future") ∧ (("written" : Str) ≠ "programs" ∧ ("written" : Str) ≠ "past" ∧ ("written" : Str) ≠ "future") ∧ (("at_once" : Str) ≠ "programs" ∧ ("at_once" : Str) ≠ "past" ∧ ("at_once" : Str) ≠ "future") := by decide +kernel
theorem nf_undo {d a b : Addr} : (bF d a b).lookup ("undo" : Str) = none := bf_none un_undo.1.1 un_undo.1.2.1 un_undo.1.2.2
theorem nf_redo {d a b : Addr} : (bF d a b).lookup ("redo" : Str) = none := bf_none un_undo.2.1.1 un_undo.2.1.2.1 un_undo.2.1.2.2
theorem nf_drop {d a b : Addr} : (bF d a b).lookup ("drop" : Str) = none := bf_none un_undo.2.2.1.1 un_undo.2.2.1.2.1 un_undo.2.2.1.2.2
theorem nf_turn {d a b : Addr} : (bF d a b).lookup ("turn_back" : Str) = none := bf_none un_undo.2.2.2.1.1 un_undo.2.2.2.1.2.1 un_undo.2.2.2.1.2.2
theorem nf_chain {d a b : Addr} : (bF d a b).lookup ("chain" : Str) = none := bf_none un_undo.2.2.2.2.1.1 un_undo.2.2.2.2.1.2.1 un_undo.2.2.2.2.1.2.2
theorem nf_written {d a b : Addr} : (bF d a b).lookup ("written" : Str) = none := bf_none un_undo.2.2.2.2.2.1.1 un_undo.2.2.2.2.2.1.2.1 un_undo.2.2.2.2.2.1.2.2
theorem nf_once {d a b : Addr} : (bF d a b).lookup ("at_once" : Str) = none := bf_none un_undo.2.2.2.2.2.2.1 un_undo.2.2.2.2.2.2.2.1 un_undo.2.2.2.2.2.2.2.2
theorem undo_nil {m : Mst} (h : m.past = []) : undoM m = (m, .prI "none" 0) := by unfold undoM; rw [h]; rfl
theorem redo_nil {m : Mst} (h : m.fut = []) : redoM m = (m, .prI "none" 0) := by unfold redoM; rw [h]; rfl
theorem undo_ok {m : Mst} (h : m.past ≠ []) : (undoM m).2 = okO := by
  unfold undoM
  cases e : m.past.getLast? with
  | none => exact absurd (List.getLast?_eq_none_iff.mp e) h
  | some l => rfl
theorem redo_ok {m : Mst} (h : m.fut ≠ []) : (redoM m).2 = okO := by
  unfold redoM
  cases e : m.fut.getLast? with
  | none => exact absurd (List.getLast?_eq_none_iff.mp e) h
  | some l => rfl
theorem ok_taken {f : Addr} {fd : FuncData} (F : L2.Fun K "_law_taken_back" "_law_taken_back" s__law_taken_back f fd) (T : Txt P K mg A) (F_Bench_undo : MtG P w K mg base (L2.CX P w) 1 A.CB "undo" P_Bench_undo (spUndo A Tb)) : FnOk P w K mg base CX0 2 f fd P__law_taken_back (spBack A Tb true) := by
  have sc := sc__law_taken_back
  refine F.ok sc (fun vs H Q E h => ?_) (fun cdv AA outer s H vs Q E hr h => ?_)
  · obtain ⟨F, p, a, b, m, rfl, _⟩ := h
    rfl
  · obtain ⟨F, p, a, b, m, rfl, W0, hb, hlen, k⟩ := h
    refine ⟨_, (pss_one (ps_clausesK (K := K) sc.nd takes_none5 (fun W pn xe tk hpo => (pss_one (ps_ret (pe_tup (pa_cons pe_str (pa_cons (pe_meth0X (pv 0) T.clB F_Bench_undo tk hr) pa_nil)))))) (Clauses.plain ⟨rfl, by decide, .inl T.x_NothingToUndo.gC⟩ (fun ax oe cls d pn hz hf => (pss_one (ps_ret (pe_tup (pa_cons pe_str (pa_cons pe_int pa_nil)))))) Clauses.nil))), ?_⟩
    obtain ⟨dx, d, xs, ys, h⟩ := id hb
    refine ⟨_, rfl, p, dx, _, rfl, h.hp, nf_undo, F, p, a, b, m, rfl, W0, hb, hlen, fun hn => ?_, fun hn F1 H1 e1 md => ⟨sz2, fun t ht => ?_⟩⟩
    · refine ⟨true, T.mUU, fun _ ax hax => ⟨sz2, fun t ht => ?_⟩, fun z => by cases z⟩
      obtain ⟨e2, h2⟩ := new_tup (S := S0) W0 ht (.cons (.str "none") (.cons (.int 0) .nil))
      have q : moveM true m = (m, .prI "none" 0) := undo_nil hn
      rw [q] at k
      exact k _ _ _ e2.to0 (hb.ev0 e2) h2
    · obtain ⟨e2, h2⟩ := new_tup (S := S0) e1.wd ht (.cons (.str "ok") (.cons .non .nil))
      refine k _ _ _ (e1.trans0 e2) (md.ev0 e2) ?_
      show DT _ _ (obsD (undoM m).2)
      rw [undo_ok hn]
      exact h2
abbrev s__law_done_again : Stmt := top 74
abbrev N__law_done_again : List Str := [("_law_bench" : Str)]
abbrev P__law_done_again : List Str := [("_law_bench" : Str)]
theorem sc__law_done_again : FnScope N__law_done_again P__law_done_again (defScope s__law_done_again) := ⟨rfl, rfl, rfl, by decide +kernel, rfl, by decide +kernel, by decide +kernel⟩
theorem bd__law_done_again {K : PySem.W.Frag} {f : Addr} {fd : FuncData} (F : L2.Fun K "_law_done_again" "_law_done_again" s__law_done_again f fd) : Binds K fd P__law_done_again [] := F.binds fun _ _ _ _ _ _ us hl => match us, hl with | [_], _ => rfl

theorem ok_done {f : Addr} {fd : FuncData} (F : L2.Fun K "_law_done_again" "_law_done_again" s__law_done_again f fd) (T : Txt P K mg A) (F_Bench_redo : MtG P w K mg base (L2.CX P w) 1 A.CB "redo" P_Bench_redo (spRedo A Tb)) : FnOk P w K mg base CX0 2 f fd P__law_done_again (spBack A Tb false) := by
  have sc := sc__law_done_again
  refine F.ok sc (fun vs H Q E h => ?_) (fun cdv AA outer s H vs Q E hr h => ?_)
  · obtain ⟨F, p, a, b, m, rfl, _⟩ := h
    rfl
  · obtain ⟨F, p, a, b, m, rfl, W0, hb, hlen, k⟩ := h
    refine ⟨_, (pss_one (ps_clausesK (K := K) sc.nd takes_none5 (fun W pn xe tk hpo => (pss_one (ps_ret (pe_tup (pa_cons pe_str (pa_cons (pe_meth0X (pv 0) T.clB F_Bench_redo tk hr) pa_nil)))))) (Clauses.plain ⟨rfl, by decide, .inl T.x_NothingToRedo.gC⟩ (fun ax oe cls d pn hz hf => (pss_one (ps_ret (pe_tup (pa_cons pe_str (pa_cons pe_int pa_nil)))))) Clauses.nil))), ?_⟩
    obtain ⟨dx, d, xs, ys, h⟩ := id hb
    refine ⟨_, rfl, p, dx, _, rfl, h.hp, nf_redo, F, p, a, b, m, rfl, W0, hb, hlen, fun hn => ?_, fun hn F1 H1 e1 md => ⟨sz2, fun t ht => ?_⟩⟩
    · refine ⟨true, T.mRR, fun _ ax hax => ⟨sz2, fun t ht => ?_⟩, fun z => by cases z⟩
      obtain ⟨e2, h2⟩ := new_tup (S := S0) W0 ht (.cons (.str "none") (.cons (.int 0) .nil))
      have q : moveM false m = (m, .prI "none" 0) := redo_nil hn
      rw [q] at k
      exact k _ _ _ e2.to0 (hb.ev0 e2) h2
    · obtain ⟨e2, h2⟩ := new_tup (S := S0) e1.wd ht (.cons (.str "ok") (.cons .non .nil))
      refine k _ _ _ (e1.trans0 e2) (md.ev0 e2) ?_
      show DT _ _ (obsD (redoM m).2)
      rw [redo_ok hn]
      exact h2
abbrev s__law_do : Stmt := top 56
abbrev N__law_do : List Str := [("_law_bench" : Str), ("_law_deed_here" : Str), ("e" : Str), ("_law_kind" : Str), ("_law_name" : Str), ("_law_told" : Str)]
abbrev P__law_do : List Str := [("_law_bench" : Str), ("_law_deed_here" : Str)]
theorem sc__law_do : FnScope N__law_do P__law_do (defScope s__law_do) := ⟨rfl, rfl, rfl, by decide +kernel, rfl, by decide +kernel, by decide +kernel⟩
theorem bd__law_do {K : PySem.W.Frag} {f : Addr} {fd : FuncData} (F : L2.Fun K "_law_do" "_law_do" s__law_do f fd) : Binds K fd P__law_do [] := F.binds fun _ _ _ _ _ _ us hl => match us, hl with | [_, _], _ => rfl

def spDo (A : Ad) (Tb : List (Addr × Str)) : Sp := fun vs H Q _ => ∃ (F : Hp) (p a b : Addr) (m : Mst) (v : V) (d : Deed), vs = [.ref p, v] ∧ Wd Tb F H ∧ BenchAt A F H p a b m ∧ SV m.st ∧ m.past.length ≤ 100000 ∧ DT F v (deedD d) ∧ DeedOk d ∧
  ∀ F' H' b' r, BGo A Tb p a b F H (deedM m d).1 F' H' b' → DT F' r (obsD (deedM m d).2) → Q r H'
def doCl (A : Ad) : List Clause := [(.ref A.xNN, some 2, fun ax cls d => tRet (tTup (tCons (tC (.str "NoName")) (tCons (tExF A.xNN "name" ax cls d (tVar 2)) tNil)))), (.ref A.xTM, some 2, fun ax cls d => tRet (tTup (tCons (tC (.str "TooMany")) (tCons (tExF A.xTM "most" ax cls d (tVar 2)) tNil))))]
theorem do_exc (T : Txt P K mg A) {F1 H1 : Hp} {dd : Addr} {cls : Value} {fl : Str × V} {o : Obs} {σ : L2.St} {D : Ends} {Wout : WX} (x : XIs A o cls fl) (w1 : Wd Tb F1 H1) (hdd : H1 dd = some (.xd [fl])) (hσ : ∀ v, (σ.set 2 (some v))[2]? = some (some v)) (k : ∀ F2 H2 r, Ev Tb S0 F1 H1 F2 H2 → DT F2 r (obsD o) → D.rt r H2) :
    wClauses K Wout D (doCl A) cls (some dd) σ H1 := by
  rcases x with ⟨n, rfl, rfl, rfl⟩ | ⟨j, rfl, rfl, rfl⟩
  · refine ⟨true, T.mNN, fun _ ax hax => ?_, fun z => by cases z⟩
    refine ⟨_, hσ _, rfl, rfl, dd, _, rfl, hdd, sz2, fun t ht => ?_⟩
    obtain ⟨e2, h2⟩ := new_tup (S := S0) w1 ht (.cons (.str "NoName") (.cons (.str n) .nil))
    exact k _ _ _ e2 h2
  · refine ⟨false, T.mTN, fun z => by (cases z), fun _ => ⟨true, T.mTT, fun _ ax hax => ?_, fun z => by cases z⟩⟩
    refine ⟨_, hσ _, rfl, rfl, dd, _, rfl, hdd, sz2, fun t ht => ?_⟩
    obtain ⟨e2, h2⟩ := new_tup (S := S0) w1 ht (.cons (.str "TooMany") (.cons (.int j) .nil))
    exact k _ _ _ e2 h2
theorem kd_ne : ("drop" : Str) ≠ "put" ∧ ("turn" : Str) ≠ "put" ∧ ("turn" : Str) ≠ "drop" ∧ ("chain" : Str) ≠ "put" ∧ ("chain" : Str) ≠ "drop" ∧ ("chain" : Str) ≠ "turn" := by decide +kernel
theorem ok_do {f : Addr} {fd : FuncData} (F : L2.Fun K "_law_do" "_law_do" s__law_do f fd) (T : Txt P K mg A) (F_Program_init : MkG P w K mg base (L2.CX P w) 5 A.CP "Program" P_Program_init (spProg A Tb)) (F__law_program_text : FnG P w K mg base CX0 2 "_law_program_text" P__law_program_text (spProgText Tb))
    (F_Bench_setitem : MtG P w K mg base (L2.CX P w) 2 A.CB "__setitem__" P_Bench_setitem (spBSet A Tb)) (F_Bench_drop : MtG P w K mg base (L2.CX P w) 3 A.CB "drop" P_Bench_drop (spDrop A Tb)) (F_Bench_turn_back : MtG P w K mg base (L2.CX P w) 8 A.CB "turn_back" P_Bench_turn_back (spTurn A Tb)) (F_Bench_chain : MtG P w K mg base (L2.CX P w) 8 A.CB "chain" P_Bench_chain (spChain A Tb)) :
    FnOk P w K mg base CX0 9 f fd P__law_do (spDo A Tb) := by
  have sc := sc__law_do
  refine F.ok sc (fun vs H Q E h => ?_) (fun cdv AA outer s H vs Q E hr h => ?_)
  · obtain ⟨F, p, a, b, m, v, d, rfl, _⟩ := h
    rfl
  · obtain ⟨F, p, a, b, m, v, d, rfl, W0, hb, hs, hlen, hv, hd, k⟩ := h
    refine ⟨_, (pss_cons (ps_par3 (i := 3) (j := 4) (l := 5) rfl sc.nd rfl rfl rfl (by decide) (by decide) (by decide) rfl rfl rfl (pa_cons (pe_ix (ix_tupK (K := K)) (pv 1) pe_int (fun _ _ => rfl)) (pa_cons (pe_ix (ix_tupK (K := K)) (pv 1) pe_int (fun _ _ => rfl)) (pa_cons pe_non pa_nil))) rfl)
      (pss_cons (ps_clausesK (K := K) sc.nd takes_none5 (fun W pn xe tk hpo => (pss_one (ps_if (pt_cmpR op_eq (pv 3) pe_str (nomark _)) (pss_one (ps_asg (pe_mk F_Program_init hr pass0X (pa_cons (pe_fn0 F__law_program_text hr (pa_cons (pe_ix (ix_tupK (K := K)) (pv 1) pe_int (fun _ _ => rfl)) pa_nil)) pa_nil)) (pg_ownSet F_Bench_setitem T.nsB (hr.mono (by decide)) (fun σ => passAt tk σ) (pv 0) (pv 4)))) (pss_one (ps_if (pt_cmpR op_eq (pv 3) pe_str (nomark _)) (pss_one (ps_set (i := 5) sc.nd rfl (Or.inl rfl) (pe_fldK (K := K) (pe_methX (pv 0) T.clB F_Bench_drop tk hr (pa_cons (pv 4) pa_nil))))) (pss_one (ps_if (pt_cmpR op_eq (pv 3) pe_str (nomark _)) (pss_one (ps_set (i := 5) sc.nd rfl (Or.inl rfl) (pe_methX (pv 0) T.clB F_Bench_turn_back tk hr (pa_cons (pv 4) pa_nil)))) (pss_one (ps_set (i := 5) sc.nd rfl (Or.inl rfl) (pe_methX (pv 0) T.clB F_Bench_chain tk hr (pa_cons (pv 4) (pa_cons (pe_ix (ix_tupK (K := K)) (pv 1) pe_int (fun _ _ => rfl)) pa_nil)))))))))))) (Clauses.named (i := 2) ⟨rfl, by decide, .inl T.x_NoName.gC⟩ rfl rfl (fun ax oe cls d pn hz hf => (pss_one (ps_ret (pe_tup (pa_cons pe_str (pa_cons (pe_exF T.rdN hz hf (pv 2)) pa_nil)))))) (Clauses.named (i := 2) ⟨rfl, by decide, .inl T.x_TooMany.gC⟩ rfl rfl (fun ax oe cls d pn hz hf => (pss_one (ps_ret (pe_tup (pa_cons pe_str (pa_cons (pe_exF T.rdT hz hf (pv 2)) pa_nil)))))) Clauses.nil)))
      (pss_one (ps_ret (pe_tup (pa_cons pe_str (pa_cons (pv 5) pa_nil))))))), ?_⟩
    obtain ⟨dx, dd0, xs, ys, h⟩ := id hb
    obtain ⟨ad, ds, kd, rfl, had, x0, x1, ekd⟩ := deed_head hv
    have hsd : SqT K H ad ds := SqT.of (W0.sub _ _ had)
    refine ⟨_, rfl, ad, _, 0, _, rfl, rfl, hsd, atI_nat (j := 0) x0, _, rfl, ad, _, 1, _, rfl, rfl, hsd, atI_nat (j := 1) x1, _, _, _, rfl, ?_⟩
    -- what ends it
    have good : ∀ F1 H1 b1 r st' o, BGo A Tb p a b F H ⟨st', m.past ++ [m.st], []⟩ F1 H1 b1 → due m.st d = (some st', o) → DT F1 r (obsD o) → Q r H1 := fun F1 H1 b1 r st' o g e hr => by
      have q : deedM m d = (⟨st', m.past ++ [m.st], []⟩, o) := by unfold deedM; rw [e]
      rw [q] at k
      exact k F1 H1 b1 r g hr
    have bad : ∀ F1 H1 r, Ev Tb S0 F H F1 H1 → (due m.st d).1 = none → DT F1 r (obsD (due m.st d).2) → Q r H1 := fun F1 H1 r e h1 hr => by
      have q : deedM m d = (m, (due m.st d).2) := by
        unfold deedM
        cases e2 : due m.st d with
        | mk o x =>
          rw [e2] at h1
          cases h1
          rfl
      rw [q] at k
      exact k F1 H1 b r ⟨e.to0, .inl rfl, hb.ev0 e⟩ hr
    refine ⟨_, rfl, rfl, _, rfl, ?_⟩
    rw [dec_str]
    obtain ⟨n1, n2, n3, n4, n5, n6⟩ := kd_ne
    cases d with
    | put n pr =>
      subst ekd
      rw [decide_eq_true (show (match Deed.put n pr with | .put _ _ => ("put" : Str) | .drop _ => ("drop" : Str) | .turn _ => ("turn" : Str) | .chain _ _ => ("chain" : Str)) = ("put" : Str) from rfl)]
      obtain ⟨ad2, z0, z1, z2, e9, had2, g0, g1, g2⟩ := DT.trip hv
      cases e9
      rw [had] at had2
      cases had2
      refine itT rfl ⟨_, rfl, ad, _, 2, _, rfl, rfl, hsd, atI_nat (j := 2) rfl, F, z2, pr, rfl, W0, g2, hd.2.st, by have := hd.2.len; omega, fun F1 H1 e1 => ?_⟩
      refine mk_prog e1.wd hd.2.st (by have := hd.2.len; omega) (fun _ F2 H2 r e2 hr => ?_) (fun h => absurd h (by have := hd.2.len; omega)) (fun _ h => absurd h (by have := hd.2.dl; omega))
      have e12 := e1.trans0 e2
      have h2 := h.ev e12 (fun z => z) (fun z => z) (fun z => z)
      refine ⟨_, rfl, _, rfl, p, dx, _, rfl, h2.hp, F2, p, a, b, m, n, .ref r, pr, rfl, e2.wd, hb.ev0 e12, hs, hlen, hr, .inl hd.1, fun e => absurd hd.1 (by rw [e]; exact nine_not), fun _ c F8 H8 dd e8 hdd => ?_, fun _ c F8 H8 b8 g8 => ?_⟩
      · have res : due m.st (.put n pr) = tooMany 20 := by simp only [due]; rw [if_pos c]
        exact do_exc T (o := (tooMany 20).2) (.inr ⟨20, rfl, rfl, rfl⟩) e8.wd hdd (fun _ => rfl) fun F9 H9 r9 e9 hr9 => bad F9 H9 r9 ((e12.trans0 e8).trans0 e9) (by rw [res]; rfl) (by rw [res]; exact hr9)
      · have res : due m.st (.put n pr) = (some (putIn m.st n pr), okO) := by simp only [due]; rw [if_neg c]
        refine ⟨_, rfl, sz2, fun t ht => ?_⟩
        obtain ⟨e9, h9⟩ := new_tup (S := S0) g8.e.wd ht (.cons (.str "ok") (.cons .non .nil))
        exact good _ _ b8 _ _ _ ((BGo.pre e12 g8).then0 e9) res h9
    | drop n =>
      subst ekd
      rw [decide_eq_false (show ¬ (match Deed.drop n with | .put _ _ => ("put" : Str) | .drop _ => ("drop" : Str) | .turn _ => ("turn" : Str) | .chain _ _ => ("chain" : Str)) = ("put" : Str) from n1)]
      refine itF rfl ⟨_, rfl, rfl, _, rfl, ?_⟩
      rw [dec_str, decide_eq_true (show (match Deed.drop n with | .put _ _ => ("put" : Str) | .drop _ => ("drop" : Str) | .turn _ => ("turn" : Str) | .chain _ _ => ("chain" : Str)) = ("drop" : Str) from rfl)]
      refine itT rfl ⟨_, rfl, p, dx, _, rfl, h.hp, nf_drop, _, rfl, F, p, a, b, m, n, rfl, W0, hb, hs, hlen, fun hn F8 H8 dd e8 hdd => ?_, fun hn F8 H8 b8 r g8 hr => ?_⟩
      · have res : due m.st (.drop n) = noName n := by simp only [due]; rw [if_neg hn]
        exact do_exc T (o := (noName n).2) (.inl ⟨n, rfl, rfl, rfl⟩) e8.wd hdd (fun _ => rfl) fun F9 H9 r9 e9 hr9 => bad F9 H9 r9 (e8.trans0 e9) (by rw [res]; rfl) (by rw [res]; exact hr9)
      · have res : due m.st (.drop n) = (some (m.st.filter fun r => decide (r.1 ≠ n)), .prS "ok" (progText (stepsOf m.st n))) := by simp only [due]; rw [if_pos hn]
        obtain ⟨ra, rdx, rfs, t, ts, rfl, hra, hrt, _⟩ := hr
        refine ⟨ra, A.CP, rdx, rfs, _, rfl, g8.e.wd.sub _ _ hra, T.clP, T.nPt, hrt, ?_⟩
        refine ⟨_, rfl, sz2, fun t ht => ?_⟩
        obtain ⟨e9, h9⟩ := new_tup (S := S0) g8.e.wd ht (.cons (.str "ok") (.cons (.str (progText (stepsOf m.st n))) .nil))
        exact good _ _ b8 _ _ _ (g8.then0 e9) res h9
    | turn n =>
      subst ekd
      rw [decide_eq_false (show ¬ (match Deed.turn n with | .put _ _ => ("put" : Str) | .drop _ => ("drop" : Str) | .turn _ => ("turn" : Str) | .chain _ _ => ("chain" : Str)) = ("put" : Str) from n2)]
      refine itF rfl ⟨_, rfl, rfl, _, rfl, ?_⟩
      rw [dec_str, decide_eq_false (show ¬ (match Deed.turn n with | .put _ _ => ("put" : Str) | .drop _ => ("drop" : Str) | .turn _ => ("turn" : Str) | .chain _ _ => ("chain" : Str)) = ("drop" : Str) from n3)]
      refine itF rfl ⟨_, rfl, rfl, _, rfl, ?_⟩
      rw [dec_str, decide_eq_true (show (match Deed.turn n with | .put _ _ => ("put" : Str) | .drop _ => ("drop" : Str) | .turn _ => ("turn" : Str) | .chain _ _ => ("chain" : Str)) = ("turn" : Str) from rfl)]
      refine itT rfl ⟨_, rfl, p, dx, _, rfl, h.hp, nf_turn, _, rfl, F, p, a, b, m, n, rfl, W0, hb, hs, hlen, hd, fun hn F8 H8 dd e8 hdd => ?_, fun hn F8 H8 b8 g8 => ?_⟩
      · have res : due m.st (.turn n) = noName n := by simp only [due]; rw [if_neg hn]
        exact do_exc T (o := (noName n).2) (.inl ⟨n, rfl, rfl, rfl⟩) e8.wd hdd (fun _ => rfl) fun F9 H9 r9 e9 hr9 => bad F9 H9 r9 (e8.trans0 e9) (by rw [res]; rfl) (by rw [res]; exact hr9)
      · have res : due m.st (.turn n) = (some (putIn m.st n (invP (stepsOf m.st n))), okO) := by simp only [due]; rw [if_pos hn]
        refine ⟨_, rfl, sz2, fun t ht => ?_⟩
        obtain ⟨e9, h9⟩ := new_tup (S := S0) g8.e.wd ht (.cons (.str "ok") (.cons .non .nil))
        exact good _ _ b8 _ _ _ (g8.then0 e9) res h9
    | chain n ns =>
      subst ekd
      rw [decide_eq_false (show ¬ (match Deed.chain n ns with | .put _ _ => ("put" : Str) | .drop _ => ("drop" : Str) | .turn _ => ("turn" : Str) | .chain _ _ => ("chain" : Str)) = ("put" : Str) from n4)]
      refine itF rfl ⟨_, rfl, rfl, _, rfl, ?_⟩
      rw [dec_str, decide_eq_false (show ¬ (match Deed.chain n ns with | .put _ _ => ("put" : Str) | .drop _ => ("drop" : Str) | .turn _ => ("turn" : Str) | .chain _ _ => ("chain" : Str)) = ("drop" : Str) from n5)]
      refine itF rfl ⟨_, rfl, rfl, _, rfl, ?_⟩
      rw [dec_str, decide_eq_false (show ¬ (match Deed.chain n ns with | .put _ _ => ("put" : Str) | .drop _ => ("drop" : Str) | .turn _ => ("turn" : Str) | .chain _ _ => ("chain" : Str)) = ("turn" : Str) from n6)]
      obtain ⟨ad2, z0, z1, z2, e9, had2, g0, g1, g2⟩ := DT.trip hv
      cases e9
      rw [had] at had2
      cases had2
      refine itF rfl ⟨_, rfl, p, dx, _, rfl, h.hp, nf_chain, _, rfl, _, rfl, ad, _, 2, _, rfl, rfl, hsd, atI_nat (j := 2) rfl, F, p, a, b, m, n, ns, z2, rfl, W0, hb, hs, hlen, hd.1, hd.2.1, g2, fun F8 H8 dd cls fl e8 res x hdd => ?_, fun st' res F8 H8 b8 g8 => ?_⟩
      · exact do_exc T x e8.wd hdd (fun _ => rfl) fun F9 H9 r9 e9 hr9 => bad F9 H9 r9 (e8.trans0 e9) res hr9
      · refine ⟨_, rfl, sz2, fun t ht => ?_⟩
        obtain ⟨e9, h9⟩ := new_tup (S := S0) g8.e.wd ht (.cons (.str "ok") (.cons .non .nil))
        exact good _ _ b8 _ _ _ (g8.then0 e9) res h9
end
end K64
/-! ## KL2 -/
set_option Elab.async false
set_option linter.all false
set_option maxRecDepth 100000
set_option maxHeartbeats 2000000
namespace K64
open PySem PySem.Spec PyProof.Rows L2 LamX
/-! ### the bench on its way, with what is seen -/
structure SGo (A : Ad) (T : List (Addr × Str)) (p a b l : Addr) (F H : Hp) (m' : Mst) (os' : List Obs) (F' H' : Hp) (b' : Addr) : Prop where
  e : Ev T (pS l (mS p a b)) F H F' H'
  bb : b' = b ∨ H b' = none
  md : BenchAt A F' H' p a b' m'
  sn : SeenAt F' H' l os'
section
variable {T : List (Addr × Str)} {A : Ad} {F H F1 H1 F2 H2 : Hp} {p a b b1 b2 l : Addr} {m m1 m2 : Mst} {os os1 os2 : List Obs}
theorem SGo.step (g : SGo A T p a b l F H m1 os1 F1 H1 b1) (e : Ev T (pS l (mS p a b1)) F1 H1 F2 H2) (bb : b2 = b1 ∨ H1 b2 = none) (md : BenchAt A F2 H2 p a b2 m2) (sn : SeenAt F2 H2 l os2) : SGo A T p a b l F H m2 os2 F2 H2 b2 := by
  refine ⟨g.e.trans e (fun _ z => z) (ps_sub g.bb), ?_, md, sn⟩
  rcases bb with c | c
  · rw [c]
    exact g.bb
  · exact .inr (g.e.fr c)
theorem SGo.lb (g : SGo A T p a b l F H m1 os1 F1 H1 b1) (h : l ≠ b) (hl : H l ≠ none) : l ≠ b1 := by
  rcases g.bb with c | c
  · rw [c]
    exact h
  · exact fun e => hl (by rw [e]; exact c)
theorem SGo.refl (w : Wd T F H) (md : BenchAt A F H p a b m) (sn : SeenAt F H l os) : SGo A T p a b l F H m os F H b := ⟨Ev.refl w, .inl rfl, md, sn⟩
theorem BenchAt.lp (md : BenchAt A F H p a b m) (sn : SeenAt F H l os) : l ≠ p := by
  obtain ⟨dx, d, xs, ys, h⟩ := md
  obtain ⟨zs, k⟩ := sn
  intro e
  have := h.hp
  rw [← e, k.hl] at this
  cases this
theorem SGo.see {r : V} {o : Obs} {xs : List V} (g : SGo A T p a b l F H m1 os1 F1 H1 b1) (sx : SeenX F1 H1 l os1 xs) (la : l ≠ a) (lb : l ≠ b1) (hr : DT F1 r (obsD o)) : SGo A T p a b l F H m1 (os1 ++ [o]) F1 (upd H1 l (.lst (xs ++ [r]))) b1 := by
  obtain ⟨e1, s1⟩ := K64.see g.e.wd sx hr
  refine g.step (e1.to fun x hx => .inl (.inl hx)) (.inl rfl) (g.md.ev e1 ?_ ?_ ?_) ⟨_, s1⟩
  · exact fun z => g.md.lp g.sn z.symm
  · exact fun z => la z.symm
  · exact fun z => lb z.symm
/-- a piece of work on the bench alone -/
theorem SGo.work (g : SGo A T p a b l F H m1 os1 F1 H1 b1) (k : BGo A T p a b1 F1 H1 m2 F2 H2 b2) (la : l ≠ a) (lb : l ≠ b1) : SGo A T p a b l F H m2 os1 F2 H2 b2 :=
  g.step (k.e.to fun x hx => .inl (.inr hx)) k.bb k.md (g.sn.ev k.e fun z => Or.elim z (g.md.lp g.sn) fun z => Or.elim z la lb)
theorem SGo.same (g : SGo A T p a b l F H m1 os1 F1 H1 b1) (e : Ev T S0 F1 H1 F2 H2) : SGo A T p a b l F H m1 os1 F2 H2 b1 := g.step e.to0 (.inl rfl) (g.md.ev0 e) (g.sn.ev e (fun z => z))
end
theorem put2 {T : List (Addr × Str)} {F H : Hp} {a C dx : Addr} {fs : List (Str × V)} {f : Str} {y : V} (w : Wd T F H) (ha : H a = some (.ins C dx fs)) (fa : F a = none) :
    ∃ H2, upd H a (.ins C dx (putF f y fs)) = H2 ∧ Ev T (· = a) F H F H2 ∧ H2 a = some (.ins C dx (putF f y fs)) :=
  ⟨_, rfl, Ev.set w ha fa (fun _ z => by cases z) (fun _ z => by cases z) rfl, upd_same⟩
/-- the two exceptions of a play -/
def XC (A : Ad) (e : Str) (cls : Value) (d : Option Addr) (H : Hp) : Prop := (e = ("key" : Str) ∧ cls = .type "KeyError") ∨ (e = ("name" : Str) ∧ cls = .ref A.xBN ∧ ∃ dd, d = some dd ∧ H dd = some (.xd [(("name" : Str), .str "9")]))
theorem XC.ev {A : Ad} {x : Str} {T : List (Addr × Str)} {S : Addr → Prop} {F H F1 H1 : Hp} {cls : Value} {d : Option Addr} (h : XC A x cls d H) (e : Ev T S F H F1 H1) (hs : ∀ dd, S dd → ∀ fl, H dd ≠ some (.xd fl)) : XC A x cls d H1 := by
  rcases h with h | ⟨h0, h, dd, h1, h2⟩
  · exact .inl h
  · exact .inr ⟨h0, h, dd, h1, e.keep dd _ (fun z => hs dd z _ h2) h2 (fun _ z => by cases z)⟩
def TTo (A : Ad) (Tb : List (Addr × Str)) : Addr → (XK → Hp → VK → Prop) → Hp → VK → XK → Prop := fun o tl H Q E => ∃ (F : Hp) (a b l : Addr) (m m2 : Mst) (os os2 : List Obs) (ob : Obs) (xe : Str), Wd Tb F H ∧ BenchAt A F H o a b m ∧ SeenAt F H l os ∧ l ≠ a ∧ l ≠ b ∧ m.past.length ≤ 100000 ∧ base m2 = base ⟨m.st, [], []⟩ ∧
  (∀ H1 a' b' (E1 : XK) (Q1 : VK), Wd Tb F H1 → BenchAt A F H1 o a' b' ⟨m.st, [], []⟩ → SeenAt F H1 l os → l ≠ a' → l ≠ b' →
    (∀ F2 H2 b2 cls d, SGo A Tb o a' b' l F H1 m2 os2 F2 H2 b2 → XC A xe cls d H2 → E1 cls d H2) → (∀ F2 H2 b2 r, xe = ("" : Str) → SGo A Tb o a' b' l F H1 m2 os2 F2 H2 b2 → DT F2 r (obsD ob) → Q1 r H2) → tl E1 H1 Q1) ∧
  (∀ F' H' cls d, SGo A Tb o a b l F H m os2 F' H' b → XC A xe cls d H' → E cls d H') ∧
  (∀ F' H' b' r, xe = ("" : Str) → SGo A Tb o a b l F H (closeM m m2 "") os2 F' H' b' → DT F' r (obsD ob) → Q r H')
section
variable {P : Program} {w : World} {K : PySem.W.Frag} {mg : Str → Option Value} {base : Heap} {A : Ad} {Tb : List (Addr × Str)}
abbrev s_Bench_at_once : Stmt := inClass (top 47) 14
abbrev N_Bench_at_once : List Str := [("self" : Str), ("action" : Str), ("done" : Str), ("kept" : Str), ("past" : Str), ("future" : Str), ("told" : Str)]
abbrev P_Bench_at_once : List Str := [("self" : Str), ("action" : Str)]
theorem sc_Bench_at_once : FnScope N_Bench_at_once P_Bench_at_once (defScope s_Bench_at_once) := ⟨rfl, rfl, rfl, by decide +kernel, rfl, by decide +kernel, by decide +kernel⟩
theorem bd_Bench_at_once {K : PySem.W.Frag} {f : Addr} {fd : FuncData} (F : L2.Fun K "at_once" "Bench.at_once" s_Bench_at_once f fd) : Binds K fd P_Bench_at_once [] := F.binds fun _ _ _ _ _ _ us hl => match us, hl with | [_, _], _ => rfl

theorem once_gives {X : Cx} (T : Txt X.prog X.K X.mg A) (g : Addr) (cdg : Value) (q : Str) : GivesM X N_Bench_at_once "Bench.at_once" "action" (defScope s_Bench_at_once) g cdg (defBody s_Bench_at_once) q (TTo A Tb) := by
  intro o f c' s H Q Eg tl hact hc htt kk hr
  have sc := sc_Bench_at_once
  obtain ⟨F, a, b, l, m, m2, os, os2, ob, xe, W0, hb, hsn, la, lb, hlen, hbase, kin, kE, kQ⟩ := htt
  refine ⟨_, (pss_cons (ps_par3 (i := 3) (j := 4) (l := 5) rfl sc.nd rfl rfl rfl (by decide) (by decide) (by decide) rfl rfl rfl (pa_cons (pe_fldK (K := X.K) (pv 0)) (pa_cons (pe_fldK (K := X.K) (pv 0)) (pa_cons (pe_fldK (K := X.K) (pv 0)) pa_nil))) rfl)
      (pss_cons (ps_asg (pe_tup (pa_cons (pe_lst pa_nil) (pa_cons (pe_lst pa_nil) pa_nil))) (pg_tupK (K := X.K) (n := 2) (pgs_cons (pg_fldK (K := X.K) (pv 0)) (pgs_cons (pg_fldK (K := X.K) (pv 0)) pgs_nil))))
      (pss_cons (ps_set (i := 2) sc.nd rfl (Or.inl rfl) pe_non)
      (pss_cons (ps_fin rfl rfl rfl (takes_of rfl rfl rfl rfl) (fun W pn xe tk hpo => (pss_cons (ps_set (i := 6) sc.nd rfl (Or.inl rfl) (hact _ _ _ _ _ tk))
      (pss_one (ps_set (i := 2) sc.nd rfl (Or.inl rfl) pe_bl)))) (pss_one (ps_if (pt_cmpR op_isN (pv 2) pe_non (nomark _)) (pss_cons (ps_fldK (K := X.K) (pv 0) (pv 3))
      (pss_cons (ps_fldK (K := X.K) (pv 0) (pv 4))
      (pss_one (ps_fldK (K := X.K) (pv 0) (pv 5))))) pss_nil)) (fun ax pnx => (pss_one (ps_if (pt_cmpR op_isN (pv 2) pe_non (nomark _)) (pss_cons (ps_fldK (K := X.K) (pv 0) (pv 3))
      (pss_cons (ps_fldK (K := X.K) (pv 0) (pv 4))
      (pss_one (ps_fldK (K := X.K) (pv 0) (pv 5))))) pss_nil))))
      (pss_cons (ps_if (pt_truthK (K := X.K) (pe_fldK (K := X.K) (pv 0))) (pss_cons (ps_expr (pe_bmK (K := X.K) PySem.F.plainAttrs_list PySem.F.slot_list_append PySem.F.type_list_append mt_append (pv 4) (pa_cons (pv 3) pa_nil)))
      (pss_one (ps_set (i := 5) sc.nd rfl (Or.inl rfl) (pe_lst pa_nil)))) pss_nil)
      (pss_cons (ps_asg (pe_tup (pa_cons (pv 4) (pa_cons (pv 5) pa_nil))) (pg_tupK (K := X.K) (n := 2) (pgs_cons (pg_fldK (K := X.K) (pv 0)) (pgs_cons (pg_fldK (K := X.K) (pv 0)) pgs_nil))))
      (pss_one (ps_ret (pv 6))))))))), ?_⟩
  obtain ⟨dx, d, xs, ys, h⟩ := id hb
  have lx := h.hx.length
  have cP := T.clB
  refine ⟨_, rfl, o, A.CB, dx, _, _, rfl, h.hp, T.clB, T.nBp, bf_p, _, rfl, o, A.CB, dx, _, _, rfl, h.hp, T.clB, T.nBa, bf_a, _, rfl, o, A.CB, dx, _, _, rfl, h.hp, T.clB, T.nBf, bf_f, _, _, _, rfl, ?_⟩
  refine ⟨sz0, fun a' ha' => ⟨sz0, fun b' hb' => ⟨sz2, fun t ht => ?_⟩⟩⟩
  have e1 : Ev Tb S0 F H F (upd H a' (.lst [])) := Ev.new W0 ha'
  have e2 : Ev Tb S0 F (upd H a' (.lst [])) F (upd (upd H a' (.lst [])) b' (.lst [])) := Ev.new e1.wd hb'
  have e3 : Ev Tb S0 F (upd (upd H a' (.lst [])) b' (.lst [])) F (upd (upd (upd H a' (.lst [])) b' (.lst [])) t (.tup [V.ref a', .ref b'])) := Ev.new e2.wd ht
  have e13 := (e1.trans0 e2).trans0 e3
  have a1 : upd H a' (.lst []) a' = some (.lst []) := upd_same
  have b2 : upd (upd H a' (.lst [])) b' (.lst []) b' = some (.lst []) := upd_same
  have ab' : a' ≠ b' := ne_of_none a1 hb'
  have h3 := h.ev e13 (fun z => z) (fun z => z) (fun z => z)
  have a3 := e3.kp (e2.kp a1)
  have b3 := e3.kp b2
  have b0 : H b' = none := e1.fr hb'
  obtain ⟨H4, q4, e4, hp4⟩ := put2 (f := "past") (y := .ref a') e3.wd h3.hp h.fp
  refine ⟨t, _, rfl, SqT.of upd_same, rfl, _, _, rfl, _, rfl, o, A.CB, dx, _, rfl, h3.hp, T.clB, T.nBa, by show 3 < 1000; decide, ?_⟩
  rw [q4]
  rw [bp_a] at hp4
  obtain ⟨H5, q5, e5, hp5⟩ := put2 (f := "future") (y := .ref b') e4.wd hp4 h.fp
  refine ⟨_, _, rfl, _, rfl, o, A.CB, dx, _, rfl, hp4, T.clB, T.nBf, by show 3 < 1000; decide, ?_⟩
  rw [q5]
  rw [bp_f] at hp5
  refine ⟨rfl, ?_⟩
  have e15 : Ev Tb (mS o a b) F H F H5 := ((e13.to0.then (e4.to fun x hx => .inl (.inl hx))).then (e5.to fun x hx => .inl (.inl hx)))
  have oa' : a' ≠ o := fun z => by rw [z, h.hp] at ha'; cases ha'
  have ob' : b' ≠ o := fun z => by rw [z, h.hp] at b0; cases b0
  have na : ∀ x, H x ≠ none → x ≠ a' ∧ x ≠ b' := fun x hx => ⟨fun z => hx (by rw [z]; exact ha'), fun z => hx (by rw [z]; exact b0)⟩
  have h5 : BenchX A F H5 o a' b' ⟨m.st, [], []⟩ dx d [] [] := ⟨hp5, h.hd, e5.kp (e4.kp a3 oa') oa', e5.kp (e4.kp b3 ob') ob', .nil, .nil, h.fp, W0.none ha', W0.none b0, ab'⟩
  have lo : l ≠ o := hb.lp hsn
  have hl0 : H l ≠ none := by
    obtain ⟨zs, z⟩ := hsn
    rw [z.hl]
    intro e
    cases e
  have sn5 : SeenAt F H5 l os := ((hsn.ev e13 (fun z => z)).ev e4 lo).ev e5 lo
  have oa : o ≠ a := h.pa
  have obn : o ≠ b := h.pb
  have ha5 : H5 a = some (.lst xs) := e5.kp (e4.kp h3.ha (Ne.symm oa)) (Ne.symm oa)
  have hb5 : H5 b = some (.lst ys) := e5.kp (e4.kp h3.hb (Ne.symm obn)) (Ne.symm obn)
  have nas := na a (by rw [h.ha]; intro z; cases z)
  have nbs := na b (by rw [h.hb]; intro z; cases z)
  have hc5 : H5 c' = some (CodeO c' q) := by
    have hne : c' ≠ o := fun z => by rw [z, h.hp] at hc; cases hc
    exact e5.kp (e4.kp (e13.kp hc) hne) hne
  -- from the outer heap to what the action leaves
  have out : ∀ F6 H6, Ev Tb (pS l (mS o a' b')) F H5 F6 H6 → Ev Tb (pS l (mS o a b)) F H F6 H6 := fun F6 H6 e6 => (e15.to fun x hx => .inl (.inr hx)).trans e6 (fun _ z => z) fun x hx => by
    rcases hx with z | z | z | z
    · exact .inl (.inl z)
    · exact .inl (.inr (.inl z))
    · exact .inr (by rw [z]; exact ha')
    · exact .inr (by rw [z]; exact b0)
  have notS : ∀ x, H x ≠ none → x ≠ l → x ≠ o → ¬ pS l (mS o a' b') x := fun x hx n1 n2 z => by
    rcases z with z | z | z | z
    · exact n1 z
    · exact n2 z
    · exact (na x hx).1 z
    · exact (na x hx).2 z
  have saw : ¬ pS l (mS o a' b') a := notS a (by rw [h.ha]; intro z; cases z) (Ne.symm la) (Ne.symm oa)
  have sbw : ¬ pS l (mS o a' b') b := notS b (by rw [h.hb]; intro z; cases z) (Ne.symm lb) (Ne.symm obn)
  refine ⟨rfl, hc5, kin H5 a' b' _ _ e5.wd ⟨dx, d, [], [], h5⟩ sn5 (na l hl0).1 (na l hl0).2 (fun F6 H6 b6 cls dd g6 hx6 => ?_) (fun F6 H6 b6 r hxe g6 hr6 => ?_)⟩
  · -- an exception: all as it was
    obtain ⟨dx6, d6, xs6, ys6, h6⟩ := g6.md
    have ha6 := g6.e.kp ha5 saw
    have hb6 := g6.e.kp hb5 sbw
    have fa6 := g6.e.nf ha5 h.fa
    have fb6 := g6.e.nf hb5 h.fb
    refine ⟨_, rfl, rfl, _, rfl, itT rfl ?_⟩
    refine ⟨_, rfl, _, rfl, put_ g6.e.wd h6.hp h6.fp T.clB T.nBp (by show 3 < 1000; decide) fun H7 e7 hp7 => ?_⟩
    rw [bp_p] at hp7
    refine ⟨_, rfl, _, rfl, put_ e7.wd hp7 h6.fp T.clB T.nBa (by show 3 < 1000; decide) fun H8 e8 hp8 => ?_⟩
    rw [bp_a] at hp8
    refine ⟨_, rfl, _, rfl, put_ e8.wd hp8 h6.fp T.clB T.nBf (by show 3 < 1000; decide) fun H9 e9 hp9 => ?_⟩
    rw [bp_f] at hp9
    have e79 := (e7.then e8).then e9
    have md9 : BenchAt A F6 H9 o a b m := ⟨dx6, d, xs, ys, hp9, (out F6 H6 g6.e).dc h.hd, e79.kp ha6 (Ne.symm oa), e79.kp hb6 (Ne.symm obn), h.hx.mono fun v s k => (out F6 H6 g6.e).dc k, h.hy.mono fun v s k => (out F6 H6 g6.e).dc k, h6.fp, fa6, fb6, h.ne⟩
    have e09 : Ev Tb (pS l (mS o a b)) F H F6 H9 := (out F6 H6 g6.e).then (e79.to fun x hx => .inl (.inr (.inl hx)))
    exact kE F6 H9 cls dd ⟨e09, .inl rfl, md9, g6.sn.ev e79 lo⟩ (hx6.ev e79 fun x hx fl => by rw [hx, h6.hp]; intro z; cases z)
  · -- it ran through
    obtain ⟨dx6, d6, xs6, ys6, h6⟩ := g6.md
    have ha6 := g6.e.kp ha5 saw
    have hb6 := g6.e.kp hb5 sbw
    have fa6 := g6.e.nf ha5 h.fa
    have fb6 := g6.e.nf hb5 h.fb
    have o6 := out F6 H6 g6.e
    refine ⟨_, rfl, rfl, _, rfl, itF rfl ?_⟩
    refine ⟨_, rfl, o, A.CB, dx6, _, _, rfl, h6.hp, T.clB, T.nBa, bf_a, _, .inl ⟨xs6, SqL.of h6.ha, rfl⟩, ?_⟩
    -- the fields once more
    have fin : ∀ F7 H7 b7 zs7 ws7 (st7 : Bst) past7 fut7 d7, Ev Tb (pS l (mS o a b)) F H F7 H7 → (b7 = b ∨ H b7 = none) → H7 o = some (.ins A.CB dx6 (bF d7 a' b6)) → F7 o = none → DcAt A F7 (.ref d7) st7 → H7 a = some (.lst zs7) → H7 b7 = some (.lst ws7) → Alls (DcAt A F7) zs7 past7 → Alls (DcAt A F7) ws7 fut7 → F7 a = none → F7 b7 = none → a ≠ b7 → b7 ≠ o → SeenAt F7 H7 l os2 → DT F7 r (obsD ob) → closeM m m2 "" = ⟨st7, past7, fut7⟩ →
        tSeq (tAsg (tTup (tCons (tVar 4) (tCons (tVar 5) tNil))) (gTup X.K 2 (gCons (gFld X.K (tVar 0) "past") (gCons (gFld X.K (tVar 0) "future") gNil)))) (tRet (tVar 6)) { nx := fun x H' => Q V.non H', rt := Q } [some (.ref o), some (.ref f), some (.bl true), some (.ref d), some (.ref a), some (.ref b7), some r] H7 := by
      intro F7 H7 b7 zs7 ws7 st7 past7 fut7 d7 e7 bb7 hp7 fp7 hd7 ha7 hb7 hx7 hy7 fa7 fb7 nab7 nbo7 sn7 hr7 ec
      refine ⟨_, rfl, _, rfl, sz2, fun t7 ht7 => ?_⟩
      have e8 : Ev Tb S0 F7 H7 F7 (upd H7 t7 (.tup [V.ref a, .ref b7])) := Ev.new e7.wd ht7
      obtain ⟨H9, q9, e9, hp9⟩ := put2 (f := "past") (y := .ref a) e8.wd (e8.kp hp7) fp7
      refine ⟨t7, _, rfl, SqT.of upd_same, rfl, _, _, rfl, _, rfl, o, A.CB, dx6, _, rfl, e8.kp hp7, T.clB, T.nBa, by show 3 < 1000; decide, ?_⟩
      rw [q9]
      rw [bp_a] at hp9
      obtain ⟨H10, q10, e10, hp10⟩ := put2 (f := "future") (y := .ref b7) e9.wd hp9 fp7
      refine ⟨_, _, rfl, _, rfl, o, A.CB, dx6, _, rfl, hp9, T.clB, T.nBf, by show 3 < 1000; decide, ?_⟩
      rw [q10]
      rw [bp_f] at hp10
      refine ⟨rfl, _, rfl, ?_⟩
      have e9a := e9.then e10
      have eall : Ev Tb (pS l (mS o a b)) F H F7 H10 := (e7.trans0 e8).then (e9a.to fun x hx => .inl (.inr (.inl hx)))
      refine kQ F7 H10 b7 r hxe ⟨eall, bb7, ?_, (sn7.ev e8 (fun z => z)).ev e9a lo⟩ hr7
      rw [ec]
      exact ⟨dx6, d7, zs7, ws7, hp10, hd7, e9a.kp (e8.kp ha7) (Ne.symm oa), e9a.kp (e8.kp hb7) nbo7, hx7, hy7, fp7, fa7, fb7, nab7⟩
    by_cases hpast : m2.past = []
    · have ex : xs6 = [] := List.eq_nil_of_length_eq_zero (by rw [h6.hx.length, hpast]; rfl)
      subst ex
      refine itF rfl ?_
      have est : m2.st = m.st := base_nil (m := ⟨m.st, [], []⟩) hbase hpast rfl
      exact fin F6 H6 b xs ys m.st m.past m.fut d6 o6 (.inl rfl) h6.hp h6.fp (by rw [← est]; exact h6.hd) ha6 hb6 (h.hx.mono fun v s k => o6.dc k) (h.hy.mono fun v s k => o6.dc k) fa6 fb6 h.ne (Ne.symm obn) g6.sn hr6 (by unfold closeM; rw [if_pos rfl, if_pos hpast])
    · have ex : xs6.isEmpty = false := by
        cases xs6 with
        | nil => exact absurd (List.eq_nil_of_length_eq_zero (h6.hx.length.symm.trans rfl)) hpast
        | cons a b => rfl
      refine itT (by rw [ex]; rfl) ?_
      refine ⟨_, rfl, .inl ⟨rfl, _, SqL.of ha6⟩, _, rfl, a, xs, _, rfl, rfl, ha6, szL (by omega), ?_⟩
      have e7 : Ev Tb (· = a) F6 H6 F6 (upd H6 a (.lst (xs ++ [V.ref d]))) := Ev.set g6.e.wd ha6 fa6 (fun _ z => by cases z) (fun _ z => by cases z) rfl
      refine ⟨sz0, fun b7 hb7 => ?_⟩
      have e8 : Ev Tb S0 F6 _ F6 (upd (upd H6 a (.lst (xs ++ [V.ref d]))) b7 (.lst [])) := Ev.new e7.wd hb7
      have a7 : upd H6 a (.lst (xs ++ [V.ref d])) a = some (.lst (xs ++ [V.ref d])) := upd_same
      have b8 : upd (upd H6 a (.lst (xs ++ [V.ref d]))) b7 (.lst []) b7 = some (.lst []) := upd_same
      have p7 := e7.kp h6.hp oa
      have e78 : Ev Tb (pS l (mS o a b)) F6 H6 F6 (upd (upd H6 a (.lst (xs ++ [V.ref d]))) b7 (.lst [])) := (e7.to fun x hx => .inl (.inr (.inr (.inl hx)))).trans0 e8
      exact fin F6 _ b7 (xs ++ [V.ref d]) [] m2.st (m.past ++ [m.st]) [] d6 (o6.then e78) (.inr (o6.fr (e7.fr hb7))) (e8.kp p7) h6.fp h6.hd (e8.kp a7) b8 ((h.hx.mono fun v s k => o6.dc k).snoc (o6.dc h.hd)) .nil fa6 (g6.e.wd.none (e7.fr hb7)) (ne_of_none a7 hb7) (fun z => by rw [z, p7] at hb7; cases hb7) ((g6.sn.ev e7 la).ev e8 (fun z => z)) hr6 (by unfold closeM; rw [if_pos rfl, if_neg hpast])
end
end K64
/-! ## KL3 -/
set_option Elab.async false
set_option linter.all false
set_option maxRecDepth 100000
set_option maxHeartbeats 2000000
namespace K64
open PySem PySem.Spec PyProof.Rows L2 LamX
theorem Ev.lam {T : List (Addr × Str)} {S : Addr → Prop} {F H H2 : Hp} (w : Wd T F H) (e : ∀ b o, H b = some o → (∀ ps, o ≠ .tbl ps) → H2 b = some o) (t : Tabs T H2) (old : ∀ b, H2 b = none → H b = none) : Ev T S F H F H2 :=
  ⟨⟨fun b o h => e b o (w.sub b o h) (fun ps z => w.nt b ps (by rw [h, z])), t, w.nt⟩, Same.refl F, fun b _ h => h, fun b o _ h n => e b o h n, old⟩
def eOk (e : Str) : Prop := e = ("" : Str) ∨ e = ("key" : Str) ∨ e = ("name" : Str)
section
variable {P : Program} {w : World} {K : PySem.W.Frag} {mg : Str → Option Value} {base : Heap} {A : Ad} {Tb : List (Addr × Str)}
abbrev s__law_play : Stmt := top 71
abbrev N__law_play : List Str := [("_law_bench" : Str), ("_law_items_here" : Str), ("_law_end" : Str), ("_law_seen" : Str), ("_law_item" : Str)]
abbrev P__law_play : List Str := [("_law_bench" : Str), ("_law_items_here" : Str), ("_law_end" : Str), ("_law_seen" : Str)]
theorem sc__law_play : FnScope N__law_play P__law_play (defScope s__law_play) := ⟨rfl, rfl, rfl, by decide +kernel, rfl, by decide +kernel, by decide +kernel⟩
theorem bd__law_play {K : PySem.W.Frag} {f : Addr} {fd : FuncData} (F : L2.Fun K "_law_play" "_law_play" s__law_play f fd) : Binds K fd P__law_play [] := F.binds fun _ _ _ _ _ _ us hl => match us, hl with | [_, _, _, _], _ => rfl

abbrev s__law_called : Stmt := top 72
abbrev N__law_called : List Str := [("_law_bench" : Str), ("_law_items_here" : Str), ("_law_end" : Str), ("_law_seen" : Str), ("e" : Str)]
abbrev P__law_called : List Str := [("_law_bench" : Str), ("_law_items_here" : Str), ("_law_end" : Str), ("_law_seen" : Str)]
theorem sc__law_called : FnScope N__law_called P__law_called (defScope s__law_called) := ⟨rfl, rfl, rfl, by decide +kernel, rfl, by decide +kernel, by decide +kernel⟩
theorem bd__law_called {K : PySem.W.Frag} {f : Addr} {fd : FuncData} (F : L2.Fun K "_law_called" "_law_called" s__law_called f fd) : Binds K fd P__law_called [] := F.binds fun _ _ _ _ _ _ us hl => match us, hl with | [_, _, _, _], _ => rfl

def spPlay (A : Ad) (Tb : List (Addr × Str)) (d : Nat) : Sp := fun vs H Q E => ∃ (F : Hp) (p a b l : Addr) (m : Mst) (os : List Obs) (its : List Item) (e : Str) (v : V), vs = [.ref p, v, .str e, .ref l] ∧ Wd Tb F H ∧ BenchAt A F H p a b m ∧ SeenAt F H l os ∧ l ≠ a ∧ l ≠ b ∧ DT F v (itemsD its) ∧ ItemsOk d its ∧ MV m ∧ m.past.length + m.fut.length ≤ 10000 ∧ os.length + seenB d ≤ 500000 ∧ eOk e ∧
  (e = ("" : Str) → ∀ F' H' b' r, SGo A Tb p a b l F H (play d its m).1 (os ++ (play d its m).2) F' H' b' → DT F' r (obsD (endO its.length)) → Q r H') ∧
  (e ≠ ("" : Str) → ∀ F' H' b' cls dd, SGo A Tb p a b l F H (play d its m).1 (os ++ (play d its m).2) F' H' b' → XC A e cls dd H' → E cls dd H')
def spCalled (A : Ad) (Tb : List (Addr × Str)) (d : Nat) : Sp := fun vs H Q _ => ∃ (F : Hp) (p a b l : Addr) (m : Mst) (os : List Obs) (its : List Item) (e : Str) (v : V), vs = [.ref p, v, .str e, .ref l] ∧ Wd Tb F H ∧ BenchAt A F H p a b m ∧ SeenAt F H l os ∧ l ≠ a ∧ l ≠ b ∧ DT F v (itemsD its) ∧ ItemsOk d its ∧ MV m ∧ m.past.length + m.fut.length ≤ 10100 ∧ os.length + seenB d ≤ 500000 ∧ eOk e ∧
  ∀ F' H' b' r, SGo A Tb p a b l F H (called (play d) m its e).1 (os ++ (called (play d) m its e).2.1) F' H' b' → DT F' r (obsD (called (play d) m its e).2.2) → Q r H'
def spCalledR (A : Ad) (Tb : List (Addr × Str)) : Nat → Sp
  | 0 => spNo
  | d + 1 => spCalled A Tb d
/-- where _law_called's code stands, and the table of its lambda's -/
def CodeAt (K : PySem.W.Frag) (base : Heap) (mg : Str → Option Value) (Tb : List (Addr × Str)) (f : Addr) : Prop := ∀ (oc : Value) (od : Option Addr) (osl : Array (Option Value)) (fd : FuncData), K.lookup f = some ⟨oc, od, .func fd, osl⟩ →
  ∃ c Pt, fd.code = .ref c ∧ TabB base mg c Pt ∧ (Pt, (("_law_called" : Str) ++ ".<locals>.") ++ "<lambda>") ∈ Tb ∧ ∀ p ∈ Tb, p.1 = Pt → p.2 = (("_law_called" : Str) ++ ".<locals>.") ++ "<lambda>"
theorem ok_called {d j : Nat} {f : Addr} {fd : FuncData} (F : L2.Fun K "_law_called" "_law_called" s__law_called f fd) (T : Txt P K mg A) (CA : CodeAt K base mg Tb f) (F__law_play : FnG P w K mg base (L2.CX P w) (j + 10) "_law_play" P__law_play (spPlay A Tb d)) (F_Bench_at_once : DefM K A.CB "at_once" "Bench.at_once" s_Bench_at_once) :
    FnOk P w K mg base CX0 (j + 13) f fd P__law_called (spCalled A Tb d) := by
  have sc := sc__law_called
  obtain ⟨g, gd, hMeth, G⟩ := F_Bench_at_once.ex
  have bdG := bd_Bench_at_once G
  obtain ⟨oc, od, kV, doc, pm, an, cdv, ct, osl, rfl, lk, hcd⟩ := G.ex
  obtain ⟨oc2, od2, kV2, doc2, pm2, an2, cdv2, ct2, osl2, rfl, lk2, hcd2⟩ := F.ex
  obtain ⟨cc, Pt, ecd, TB, hmT, hu⟩ := CA _ _ _ _ lk2
  obtain rfl : cdv2 = .ref cc := ecd
  refine fn_of lk2 hcd2 sc (fun vs H Q E h => ?_) (fun AA outer s H vs Q E hr h => ?_)
  · obtain ⟨F, p, a, b, l, m, os, its, e, v, rfl, _⟩ := h
    rfl
  · obtain ⟨F, p, a, b, l, m, os, its, e, v, rfl, W0, hb, hsn, la, lb, hv, hits, hmv, hlen, hos, he, k⟩ := h
    refine ⟨_, PSs.nox (pss_one (ps_clausesK (K := K) sc.nd takes_none5 (fun W pn xe tk hpo => (pss_one (ps_ret (pe_lamM (T := Tb) (k := j + 10) (pv 0) T.clB hMeth lk hcd bdG sc_Bench_at_once rfl (Or.inl rfl) (once_gives (Tb := Tb) T g cdv _) tk TB rfl hmT hu hr (lamS_by (by show lamSB (defScope s__law_called) _ = true; decide +kernel)) rfl (fun _ _ _ _ _ => rfl) (fun E A outer s H f c hr2 => pe_fnX (hk := Nat.le_refl _) F__law_play (takes_of rfl rfl rfl rfl) hr2 (pa_cons (pv 0) (pa_cons (pv 1) (pa_cons (pv 2) (pa_cons (pv 3) pa_nil))))))))) (Clauses.plain ⟨rfl, by decide, .inr ⟨T.z_KeyError, boot_KeyError, by decide +kernel⟩⟩ (fun ax oe cls d pn hz hf => (pss_one (ps_ret pe_str))) (Clauses.named (i := 4) ⟨rfl, by decide, .inl T.x_BadName.gC⟩ rfl rfl (fun ax oe cls d pn hz hf => (pss_one (ps_ret (pe_op op_add_str pe_str (pe_exF T.rdB hz hf (pv 4)))))) Clauses.nil)))), ?_⟩
    obtain ⟨dx, d0, xs, ys, h⟩ := id hb
    have kp := play_kept d its ⟨m.st, [], []⟩ hits hmv.fresh
    have hl0 : H l ≠ none := by
      obtain ⟨zs, z⟩ := hsn
      rw [z.hl]
      intro e
      cases e
    refine ⟨_, rfl, p, dx, _, rfl, h.hp, nf_once, W0.tab, fun H2 hext hT2 hold => ?_⟩
    have e2 : Ev Tb S0 F H F H2 := Ev.lam W0 hext hT2 hold
    have g2 : SGo A Tb p a b l F H m os F H2 b := (SGo.refl W0 hb hsn).same e2
    refine ⟨F, a, b, l, m, (play d its ⟨m.st, [], []⟩).1, os, os ++ (play d its ⟨m.st, [], []⟩).2, endO its.length, e, e2.wd, hb.ev0 e2, hsn.ev e2 (fun z => z), la, lb, by omega, kp.b, ?_, ?_, ?_⟩
    · -- the action
      intro H3 a' b' E1 Q1 w3 hb3 sn3 la3 lb3 kE kQ
      refine ⟨_, rfl, _, rfl, _, rfl, _, rfl, F, p, a', b', l, _, os, its, e, v, rfl, w3, hb3, sn3, la3, lb3, hv, hits, hmv.fresh, by simp, hos, he, fun he0 F4 H4 b4 r4 g4 hr4 => kQ F4 H4 b4 r4 he0 g4 hr4, fun _ F4 H4 b4 cls dd g4 hx4 => kE F4 H4 b4 cls dd g4 hx4⟩
    · -- an exception of it
      intro F3 H3 cls dd g3 hx3
      have gg := g2.step g3.e g3.bb g3.md g3.sn
      have es : (called (play d) m its e).2.1 = (play d its ⟨m.st, [], []⟩).2 := rfl
      rcases hx3 with ⟨rfl, rfl⟩ | ⟨rfl, rfl, d3, rfl, hd3⟩
      · have ec : (called (play d) m its "key").1 = m := by
          show closeM m (play d its ⟨m.st, [], []⟩).1 "key" = m
          unfold closeM
          rw [if_neg key_ne]
        have eo : (called (play d) m its "key").2.2 = .txt "key" := by
          show closeO its.length "key" = _
          unfold closeO
          rw [if_neg key_ne, if_pos rfl]
        rw [ec, es, eo] at k
        exact ⟨true, T.mKK, fun _ ax hax => k F3 H3 b _ gg (.str _), fun z => by cases z⟩
      · have ec : (called (play d) m its "name").1 = m := by
          show closeM m (play d its ⟨m.st, [], []⟩).1 "name" = m
          unfold closeM
          rw [if_neg name_ne]
        have eo : (called (play d) m its "name").2.2 = .txt "name 9" := by
          show closeO its.length "name" = _
          unfold closeO
          rw [if_neg name_ne, if_neg name_key]
        rw [ec, es, eo] at k
        refine ⟨false, T.mBK, fun z => by (cases z), fun _ => ⟨true, T.mBB, fun _ ax hax => ?_, fun z => by cases z⟩⟩
        refine ⟨_, rfl, rfl, rfl, d3, _, rfl, hd3, _, _, rfl, rfl, szN (by decide +kernel), ?_⟩
        exact k F3 H3 b _ gg (.str _)
    · intro F3 H3 b3 r3 he0 g3 hr3
      subst he0
      have gg := g2.step g3.e g3.bb g3.md g3.sn
      exact k F3 H3 b3 r3 gg hr3
end
end K64
/-! ## KL4 -/
set_option Elab.async false
set_option linter.all false
set_option maxRecDepth 100000
set_option maxHeartbeats 2000000
namespace K64
open PySem PySem.Spec PyProof.Rows L2 LamX
section
variable {P : Program} {w : World} {K : PySem.W.Frag} {mg : Str → Option Value} {base : Heap} {A : Ad} {Tb : List (Addr × Str)}
def LPv (A : Ad) (Tb : List (Addr × Str)) (p a b l : Addr) (F H : Hp) (d : Nat) (its : List Item) (m : Mst) (os : List Obs) (v : V) (e : Str) (i : Nat) : L2.St → Hp → Prop := fun σ H' => ∃ (F' : Hp) (b' : Addr) (c4 : Option V), σ = [some (.ref p), some v, some (.str e), some (.ref l), c4] ∧ SGo A Tb p a b l F H (playW (recOf d) (its.take i) m).1 (os ++ (playW (recOf d) (its.take i) m).2) F' H' b'
theorem ok_play {d j : Nat} {f : Addr} {fd : FuncData} (F : L2.Fun K "_law_play" "_law_play" s__law_play f fd) (T : Txt P K mg A) (F__law_taken_back : FnG P w K mg base CX0 2 "_law_taken_back" P__law_taken_back (spBack A Tb true)) (F__law_done_again : FnG P w K mg base CX0 2 "_law_done_again" P__law_done_again (spBack A Tb false))
    (F__law_do : FnG P w K mg base CX0 9 "_law_do" P__law_do (spDo A Tb)) (F__law_called : FnG P w K mg base CX0 (j + 9) "_law_called" P__law_called (spCalledR A Tb d)) (F_Bench_written : MtG P w K mg base CX0 2 A.CB "written" P_Bench_written (spWritten A Tb)) (F_Program_init : MkG P w K mg base (L2.CX P w) 5 A.CP "Program" P_Program_init (spProg A Tb))
    (F_Bench_setitem : MtG P w K mg base (L2.CX P w) 2 A.CB "__setitem__" P_Bench_setitem (spBSet A Tb)) : FnOk P w K mg base (L2.CX P w) (j + 10) f fd P__law_play (spPlay A Tb d) := by
  have sc := sc__law_play
  refine F.okX sc (fun vs H Q E h => ?_) (fun cdv AA outer s H vs Q E hr h => ?_)
  · obtain ⟨F, p, a, b, l, m, os, its, e, v, rfl, _⟩ := h
    rfl
  · obtain ⟨F, p, a, b, l, m, os, its, e, v, rfl, W0, hbn, hsn, la, lb, hv, hits, hmv, hlen, hos, he, k1, k2⟩ := h
    refine ⟨_, (pss_cons (ps_for (passes_of rfl) rfl (pi_listK (K := K) (pv 1)) (pg_name (i := 4) sc.nd rfl (Or.inl rfl))
      (pss_cons (ps_if (pt_cmpR op_eq (pe_ix (ix_tupK (K := K)) (pv 4) pe_int (fun _ _ => rfl)) pe_str (nomark _)) (pss_one (ps_expr (pe_bmK (K := K) PySem.F.plainAttrs_list PySem.F.slot_list_append PySem.F.type_list_append mt_append (pv 3) (pa_cons (pe_fn0 (hk := by omega) F__law_taken_back hr (pa_cons (pv 0) pa_nil)) pa_nil)))) (pss_one (ps_if (pt_cmpR op_eq (pe_ix (ix_tupK (K := K)) (pv 4) pe_int (fun _ _ => rfl)) pe_str (nomark _)) (pss_one (ps_expr (pe_bmK (K := K) PySem.F.plainAttrs_list PySem.F.slot_list_append PySem.F.type_list_append mt_append (pv 3) (pa_cons (pe_fn0 (hk := by omega) F__law_done_again hr (pa_cons (pv 0) pa_nil)) pa_nil)))) (pss_one (ps_if (pt_cmpR op_eq (pe_ix (ix_tupK (K := K)) (pv 4) pe_int (fun _ _ => rfl)) pe_str (nomark _)) (pss_one (ps_expr (pe_bmK (K := K) PySem.F.plainAttrs_list PySem.F.slot_list_append PySem.F.type_list_append mt_append (pv 3) (pa_cons (pe_fn0 (hk := by omega) F__law_called hr (pa_cons (pv 0) (pa_cons (pe_ix (ix_tupK (K := K)) (pv 4) pe_int (fun _ _ => rfl)) (pa_cons (pe_ix (ix_tupK (K := K)) (pv 4) pe_int (fun _ _ => rfl)) (pa_cons (pv 3) pa_nil))))) pa_nil)))) (pss_one (ps_expr (pe_bmK (K := K) PySem.F.plainAttrs_list PySem.F.slot_list_append PySem.F.type_list_append mt_append (pv 3) (pa_cons (pe_fn0 (hk := by omega) F__law_do hr (pa_cons (pv 0) (pa_cons (pv 4) pa_nil))) pa_nil)))))))))
      (pss_one (ps_expr (pe_bmK (K := K) PySem.F.plainAttrs_list PySem.F.slot_list_append PySem.F.type_list_append mt_append (pv 3) (pa_cons (pe_meth00 (hk := by omega) (pv 0) T.clB F_Bench_written hr) pa_nil))))))
      (pss_cons (ps_if (pt_cmpR op_eq (pv 2) pe_str (nomark _)) (pss_one (ps_raise rfl (takes_of rfl rfl rfl rfl) (pmk_exc excClass_KeyError ty_KeyError rfl T.z_KeyError boot_KeyError (pa_cons pe_str pa_nil)))) pss_nil)
      (pss_cons (ps_if (pt_cmpR op_eq (pv 2) pe_str (nomark _)) (pss_one (ps_asg (pe_mk (hk := by omega) F_Program_init hr pass0X (pa_cons pe_str pa_nil)) (pg_ownSet F_Bench_setitem T.nsB (hr.mono (by omega)) (fun σ => passAt (takes_of rfl rfl rfl rfl) σ) (pv 0) pe_str))) pss_nil)
      (pss_one (ps_ret (pe_tup (pa_cons pe_str (pa_cons (pe_callB (call_len_seqK (K := K)) (by rfl) T.z_len PySem.boot_len (pa_cons (pv 1) pa_nil)) pa_nil)))))))), ?_⟩
    obtain ⟨av, xs, rfl, hav, hxs⟩ := hv.lstV
    have lxs : xs.length = its.length := by rw [hxs.length, List.length_map]
    have hl0 : H l ≠ none := by
      obtain ⟨zs, z⟩ := hsn
      rw [z.hl]
      intro e
      cases e
    have hrec : ∀ k, d = k + 1 → KeepsP k (recOf d) := fun k' e => by subst e; exact play_kept k'
    have hrs : ∀ k, d = k + 1 → SeesP k (recOf d) := fun k' e => by subst e; exact play_sees k'
    have hst : ∀ i, i ≤ its.length → MV (playW (recOf d) (its.take i) m).1 ∧ (playW (recOf d) (its.take i) m).1.past.length + (playW (recOf d) (its.take i) m).1.fut.length ≤ 10030 ∧ (playW (recOf d) (its.take i) m).2.length ≤ seenB d := by
      intro i hi
      have ho : ∀ it ∈ its.take i, ItemOk d it := fun it h => hits.2 it (List.mem_of_mem_take h)
      have lt : (its.take i).length ≤ 30 := by
        rw [List.length_take]
        have := hits.1
        omega
      have q1 := playW_kept hrec (its.take i) m ho hmv
      have q2 := (play_sees d (its.take i) m ⟨lt, ho⟩ hmv).2
      rw [play_rec] at q2
      exact ⟨q1.v, by have := q1.len; omega, q2⟩
    refine ⟨_, rfl, av, rfl, ⟨_, SqL.of (W0.sub _ _ hav)⟩, ?_⟩
    refine for_list (K := K) (a := av) (xs := xs) (LPv A Tb p a b l F H d its m os (.ref av) e)
      ⟨F, b, none, rfl, by simpa [playW] using SGo.refl W0 hbn hsn⟩ (fun i σ H' _ ⟨F', b', c4, _, g⟩ => SqL.of (g.e.wd.sub _ _ (g.e.mono _ _ hav))) ?_ ?_
    · rintro i x σ H' hx ⟨F', b', c4, rfl, g⟩
      obtain ⟨it, hit, hxd⟩ := dts_get hxs hx
      have hi : i < its.length := (List.getElem?_eq_some_iff.mp hit).1
      have htake : its.take (i + 1) = its.take i ++ [it] := by rw [List.take_add_one, hit]; rfl
      have hsnoc := play_snoc (recOf d) (its.take i) it m
      rw [← htake] at hsnoc
      obtain ⟨mv1, ml1, sl1⟩ := hst i (by omega)
      obtain ⟨mv2, ml2, sl2⟩ := hst (i + 1) (by omega)
      have hok := hits.2 it (List.mem_of_getElem? hit)
      have hxd1 := g.e.dt hxd
      have lb1 := g.lb lb hl0
      have fin : ∀ (D : Ends) F2 H2 b2 m2 os2, (∀ σ H', LPv A Tb p a b l F H d its m os (.ref av) e (i + 1) σ H' → D.nx σ H') → SGo A Tb p a b l F H m2 os2 F2 H2 b2 → m2 = (playW (recOf d) (its.take (i + 1)) m).1 → os2 ++ [.txt (stText m2.st)] = os ++ (playW (recOf d) (its.take (i + 1)) m).2 →
          tDrop (tBM K "list" rAppend (tVar 3) (tCons (tMethS A.CB "written" (spWritten A Tb) (fun _ => E0) (tVar 0) tNil) tNil)) D [some (.ref p), some (.ref av), some (.str e), some (.ref l), some x] H2 := by
        intro D F2 H2 b2 m2 os2 hD g2 em eo
        subst em
        have lb2 := g2.lb lb hl0
        obtain ⟨dx, dd, xs2, ys2, h2⟩ := g2.md
        obtain ⟨zs, hz⟩ := g2.sn
        refine ⟨_, rfl, .inl ⟨rfl, _, SqL.of hz.hl⟩, _, rfl, p, dx, _, rfl, h2.hp, nf_written, F2, p, dx, dd, _, _, rfl, h2.hp, bf_p, g2.e.wd, h2.hd, mv2.st, fun F3 H3 e3 => ?_⟩
        have g3 := g2.same e3
        have hz3 := hz.ev e3 (fun z => z)
        have lz : zs.length ≤ 600000 := by
          have e1 : zs.length = os2.length := by rw [hz.hx.length, List.length_map]
          have e2 := congrArg List.length eo
          rw [List.length_append, List.length_append] at e2
          omega
        refine ⟨l, zs, _, rfl, rfl, hz3.hl, szL (by omega), hD _ _ ⟨F3, b2, _, rfl, ?_⟩⟩
        have g4 := g3.see hz3 la lb2 (o := .txt (stText (playW (recOf d) (its.take (i + 1)) m).1.st)) (.str _)
        rw [eo] at g4
        exact g4
      obtain ⟨ax, ws, rfl, hax, hw0⟩ := item_head hxd1
      have hsx : SqT K H' ax ws := SqT.of (g.e.wd.sub _ _ hax)
      obtain ⟨zs, hz⟩ := g.sn
      have lz : zs.length ≤ 500000 := by
        have e1 := hz.hx.length
        rw [List.length_map, List.length_append] at e1
        omega
      refine ⟨_, rfl, ax, ws, 0, _, rfl, rfl, hsx, atI_nat (j := 0) hw0, rfl, _, rfl, ?_⟩
      rw [dec_str]
      cases it with
      | undo =>
        rw [decide_eq_true (show itemK .undo = ("undo" : Str) from rfl)]
        refine itT rfl ⟨_, rfl, .inl ⟨rfl, _, SqL.of hz.hl⟩, _, rfl, F', p, a, b', _, rfl, g.e.wd, g.md, by omega, fun F2 H2 r2 e2 md2 hr2 => ?_⟩
        have g2 := g.work (m2 := (undoM (playW (recOf d) (its.take i) m).1).1) ⟨e2, .inl rfl, md2⟩ la lb1
        have hz2 := hz.ev e2 (fun z => Or.elim z (g.md.lp g.sn) fun z => Or.elim z la lb1)
        refine ⟨l, zs, _, rfl, rfl, hz2.hl, szL (by omega), ?_⟩
        refine fin _ _ _ b' _ _ (fun σ H' h => h) (g2.see hz2 la lb1 (o := (undoM (playW (recOf d) (its.take i) m).1).2) hr2) ?_ ?_
        · rw [hsnoc]; rfl
        · rw [hsnoc, List.append_assoc, List.append_assoc]; rfl
      | redo =>
        rw [decide_eq_false (show ¬ itemK .redo = ("undo" : Str) from ek1)]
        refine itF rfl ⟨_, rfl, ax, ws, 0, _, rfl, rfl, hsx, atI_nat (j := 0) hw0, rfl, _, rfl, ?_⟩
        rw [dec_str, decide_eq_true (show itemK .redo = ("redo" : Str) from rfl)]
        refine itT rfl ⟨_, rfl, .inl ⟨rfl, _, SqL.of hz.hl⟩, _, rfl, F', p, a, b', _, rfl, g.e.wd, g.md, by omega, fun F2 H2 r2 e2 md2 hr2 => ?_⟩
        have g2 := g.work (m2 := (redoM (playW (recOf d) (its.take i) m).1).1) ⟨e2, .inl rfl, md2⟩ la lb1
        have hz2 := hz.ev e2 (fun z => Or.elim z (g.md.lp g.sn) fun z => Or.elim z la lb1)
        refine ⟨l, zs, _, rfl, rfl, hz2.hl, szL (by omega), ?_⟩
        refine fin _ _ _ b' _ _ (fun σ H' h => h) (g2.see hz2 la lb1 (o := (redoM (playW (recOf d) (its.take i) m).1).2) hr2) ?_ ?_
        · rw [hsnoc]; rfl
        · rw [hsnoc, List.append_assoc, List.append_assoc]; rfl
      | inner its2 e2 =>
        rw [decide_eq_false (show ¬ itemK (.inner its2 e2) = ("undo" : Str) from ek2)]
        refine itF rfl ⟨_, rfl, ax, ws, 0, _, rfl, rfl, hsx, atI_nat (j := 0) hw0, rfl, _, rfl, ?_⟩
        rw [dec_str, decide_eq_false (show ¬ itemK (.inner its2 e2) = ("redo" : Str) from ek3)]
        refine itF rfl ⟨_, rfl, ax, ws, 0, _, rfl, rfl, hsx, atI_nat (j := 0) hw0, rfl, _, rfl, ?_⟩
        rw [dec_str, decide_eq_true (show itemK (.inner its2 e2) = ("inner" : Str) from rfl)]
        rw [itemD, itemsL_map] at hxd1
        obtain ⟨ay, y1, y2, y3, ey, hay, hy1, hy2, hy3⟩ := DT.trip hxd1
        cases ey
        rw [hax] at hay
        cases hay
        obtain rfl := hy3.strV
        cases d with
        | zero => exact (show False from hok).elim
        | succ d' =>
          obtain ⟨oke, ok1, ok2⟩ := (show _ ∧ _ ∧ _ from hok)
          have sB : seenB (d' + 1) = 60 + 30 * seenB d' := rfl
          have lo : (os ++ (playW (recOf (d' + 1)) (its.take i) m).2).length + seenB d' ≤ 500000 := by
            have q := (playW_sees hrec hrs (its.take i) m (fun it h => hits.2 it (List.mem_of_mem_take h)) hmv).2
            have q1 : (its.take i).length ≤ 29 := by
              rw [List.length_take]
              have := hits.1
              omega
            have q2 := Nat.mul_le_mul_right (itS (d' + 1)) q1
            have q3 : itS (d' + 1) = 2 + seenB d' := rfl
            rw [q3] at q q2
            rw [List.length_append]
            omega
          refine itT rfl ⟨_, rfl, .inl ⟨rfl, _, SqL.of hz.hl⟩, _, rfl, _, rfl, ax, _, 1, _, rfl, rfl, hsx, atI_nat (j := 1) rfl, _, rfl, ax, _, 2, _, rfl, rfl, hsx, atI_nat (j := 2) rfl, _, rfl, F', p, a, b', l, _, _, its2, e2, y2, rfl, g.e.wd, g.md, g.sn, la, lb1, hy2, ⟨ok1, ok2⟩, mv1, by omega, lo, oke, fun F2 H2 b2 r2 g2 hr2 => ?_⟩
          have gg := g.step g2.e g2.bb g2.md g2.sn
          have lb2 := gg.lb lb hl0
          obtain ⟨zs2, hz2⟩ := g2.sn
          have lz2 : zs2.length ≤ 600000 := by
            have q := (play_sees d' its2 ⟨(playW (recOf (d' + 1)) (its.take i) m).1.st, [], []⟩ ⟨ok1, ok2⟩ mv1.fresh).2
            have e1 := hz2.hx.length
            rw [List.length_map, List.length_append] at e1
            have e3 : (called (play d') (playW (recOf (d' + 1)) (its.take i) m).1 its2 e2).2.1 = (play d' its2 ⟨(playW (recOf (d' + 1)) (its.take i) m).1.st, [], []⟩).2 := rfl
            rw [e3] at e1
            omega
          refine ⟨l, zs2, _, rfl, rfl, hz2.hl, szL (by omega), ?_⟩
          refine fin _ _ _ b2 _ _ (fun σ H' h => h) (gg.see hz2 la lb2 hr2) ?_ ?_
          · rw [hsnoc]; rfl
          · rw [hsnoc]
            simp only [List.append_assoc]
            rfl
      | deed dd =>
        obtain ⟨n1, n2, n3⟩ := dk1 dd
        rw [decide_eq_false n1]
        refine itF rfl ⟨_, rfl, ax, ws, 0, _, rfl, rfl, hsx, atI_nat (j := 0) hw0, rfl, _, rfl, ?_⟩
        rw [dec_str, decide_eq_false n2]
        refine itF rfl ⟨_, rfl, ax, ws, 0, _, rfl, rfl, hsx, atI_nat (j := 0) hw0, rfl, _, rfl, ?_⟩
        rw [dec_str, decide_eq_false n3]
        have okd : DeedOk dd := by cases d <;> exact hok
        rw [itemD] at hxd1
        refine itF rfl ⟨_, rfl, .inl ⟨rfl, _, SqL.of hz.hl⟩, _, rfl, _, rfl, F', p, a, b', _, .ref ax, dd, rfl, g.e.wd, g.md, mv1.st, by omega, hxd1, okd, fun F2 H2 b2 r2 g2 hr2 => ?_⟩
        have gg := g.work g2 la lb1
        have lb2 := gg.lb lb hl0
        have hz2 := hz.ev g2.e (fun z => Or.elim z (g.md.lp g.sn) fun z => Or.elim z la lb1)
        refine ⟨l, zs, _, rfl, rfl, hz2.hl, szL (by omega), ?_⟩
        refine fin _ _ _ b2 _ _ (fun σ H' h => h) (gg.see hz2 la lb2 hr2) ?_ ?_
        · rw [hsnoc]; rfl
        · rw [hsnoc, List.append_assoc, List.append_assoc]; rfl
    · rintro σ H' ⟨F', b', c4, rfl, g⟩
      rw [lxs, List.take_length, ← play_rec] at g
      have kp := play_kept d its m hits hmv
      refine ⟨_, rfl, rfl, _, rfl, ?_⟩
      rw [dec_str]
      rcases he with rfl | rfl | rfl
      · rw [decide_eq_false (Ne.symm key_ne)]
        refine itF rfl ⟨_, rfl, rfl, _, rfl, ?_⟩
        rw [dec_str, decide_eq_false (Ne.symm name_ne)]
        refine itF rfl ⟨_, rfl, av, xs, rfl, .inl (SqL.of (g.e.wd.sub _ _ (g.e.mono _ _ hav))), sz2, fun t ht => ?_⟩
        obtain ⟨e8, h8⟩ := new_tup (S := S0) g.e.wd ht (.cons (.str "end") (.cons (.int (xs.length : Int)) .nil))
        refine k1 rfl _ _ b' _ (g.same e8) ?_
        have e9 : obsD (endO its.length) = .tuple [.str "end", .int (xs.length : Int)] := by rw [lxs]; rfl
        rw [e9]
        exact h8
      · rw [decide_eq_true rfl]
        refine itT rfl ⟨sz1, fun dd => k2 key_ne F' H' b' _ dd g (.inl ⟨rfl, rfl⟩)⟩
      · rw [decide_eq_false name_key]
        refine itF rfl ⟨_, rfl, rfl, _, rfl, ?_⟩
        rw [dec_str, decide_eq_true rfl]
        refine itT rfl ?_
        refine mk_prog (p := []) g.e.wd OkP.nil.st (by simp) (fun _ F2 H2 r e2 hr => ?_) (fun h => absurd h (by simp)) (fun _ h => absurd h (by simp [deals]))
        have g2 := g.same e2
        obtain ⟨dx, d2, xs2, ys2, h2⟩ := g2.md
        refine ⟨_, rfl, p, dx, _, rfl, h2.hp, F2, p, a, b', _, "9", .ref r, [], rfl, e2.wd, g2.md, kp.v.st, by have := kp.len; have := hits.1; omega, hr, .inr rfl, fun _ F8 H8 dd e8 hdd => ?_, fun h => absurd h nine_not, fun h => absurd h nine_not⟩
        exact k2 name_ne F8 H8 b' _ (some dd) (g2.same e8) (.inr ⟨rfl, rfl, dd, rfl, hdd⟩)
end
end K64
/-! ## KL5 -/
set_option Elab.async false
set_option linter.all false
set_option maxRecDepth 100000
set_option maxHeartbeats 2000000
namespace K64
open PySem PySem.Spec PyProof.Rows L2 LamX
theorem row_one : ∀ {st : Bst} {n : Str} {p q : List Stp}, (names st).Nodup → (n, p) ∈ st → (n, q) ∈ st → p = q
  | [], _, _, _, _, h, _ => by cases h
  | r :: st, n, p, q, nd, h, k => by
    have nd2 : (r.1 :: names st).Nodup := nd
    obtain ⟨h1, h2⟩ := List.nodup_cons.mp nd2
    rcases List.mem_cons.mp h with e | h
    · rcases List.mem_cons.mp k with e2 | k
      · rw [← e] at e2
        exact (Prod.mk.inj e2).2.symm
      · exact absurd (List.mem_map.mpr ⟨(n, q), k, by rw [← e]⟩) h1
    · rcases List.mem_cons.mp k with e2 | k
      · exact absurd (List.mem_map.mpr ⟨(n, p), h, by rw [← e2]⟩) h1
      · exact row_one h2 h k
section
variable {P : Program} {w : World} {K : PySem.W.Frag} {mg : Str → Option Value} {base : Heap} {A : Ad} {Tb : List (Addr × Str)}
abbrev s__law_bench_right : Stmt := top 59
abbrev N__law_bench_right : List Str := [("_law_bench" : Str), ("_law_state" : Str), ("_law_name" : Str), ("_law_steps_here" : Str), ("_law_program" : Str), ("_law_row" : Str)]
abbrev P__law_bench_right : List Str := [("_law_bench" : Str), ("_law_state" : Str)]
theorem sc__law_bench_right : FnScope N__law_bench_right P__law_bench_right (defScope s__law_bench_right) := ⟨rfl, rfl, rfl, by decide +kernel, rfl, by decide +kernel, by decide +kernel⟩
theorem bd__law_bench_right {K : PySem.W.Frag} {f : Addr} {fd : FuncData} (F : L2.Fun K "_law_bench_right" "_law_bench_right" s__law_bench_right f fd) : Binds K fd P__law_bench_right [] := F.binds fun _ _ _ _ _ _ us hl => match us, hl with | [_, _], _ => rfl

def spRight (A : Ad) (Tb : List (Addr × Str)) : Sp := fun vs H Q _ => ∃ (F : Hp) (p a b : Addr) (m : Mst) (v : V), vs = [.ref p, v] ∧ Wd Tb F H ∧ BenchAt A F H p a b m ∧ DT F v (bstD m.st) ∧ SV m.st ∧ ∀ F' H', Ev Tb S0 F H F' H' → Q (.bl true) H'
theorem ok_right {f : Addr} {fd : FuncData} (F : L2.Fun K "_law_bench_right" "_law_bench_right" s__law_bench_right f fd) (T : Txt P K mg A) (F_Bench_written : MtG P w K mg base CX0 2 A.CB "written" P_Bench_written (spWritten A Tb)) (F__law_state_text : FnG P w K mg base CX0 3 "_law_state_text" P__law_state_text (spStateText Tb))
    (F_Bench_len : MtG P w K mg base CX0 1 A.CB "__len__" P_Bench_len (spLenF A.CB "programs")) (F_Bench_iter : MtG P w K mg base CX0 1 A.CB "__iter__" P_Bench_iter (spIterF A.CB "programs")) (F_Bench_getitem : MtG P w K mg base (L2.CX P w) 1 A.CB "__getitem__" P_Bench_getitem (spBGet A Tb)) (F_Bench_contains : MtG P w K mg base CX0 1 A.CB "__contains__" P_Bench_contains (spBIn A))
    (F_Program_init : MkG P w K mg base (L2.CX P w) 5 A.CP "Program" P_Program_init (spProg A Tb)) (F_Program_eq : MtG P w K mg base CX0 1 A.CP "__eq__" P_Program_eq (spPEq A)) (F__law_program_text : FnG P w K mg base CX0 2 "_law_program_text" P__law_program_text (spProgText Tb)) :
    FnOk P w K mg base CX0 7 f fd P__law_bench_right (spRight A Tb) := by
  have sc := sc__law_bench_right
  refine F.ok sc (fun vs H Q E h => ?_) (fun cdv AA outer s H vs Q E hr h => ?_)
  · obtain ⟨F, p, a, b, m, v, rfl, _⟩ := h
    rfl
  · obtain ⟨F, p, a, b, m, v, rfl, W0, hb, hv, hs, k⟩ := h
    refine ⟨_, (pss_cons (ps_if (PW.pt (pw_or (pt_cmpR op_ne (pe_meth00 (pv 0) T.clB F_Bench_written hr) (pe_fn0 F__law_state_text hr (pa_cons (pv 1) pa_nil)) (nomark _)) (pw_or1 (pt_cmpR op_ne (pe_ownLen F_Bench_len (hr.mono (by decide)) (pa_cons (pv 0) pa_nil) T.z_len) (pe_callB (call_len_seqK (K := K)) (by rfl) T.z_len PySem.boot_len (pa_cons (pv 1) pa_nil)) (nomark _))))) (pss_one (ps_ret pe_bl)) pss_nil)
      (pss_cons (ps_if (pt_cmpR (op_neDK (K := K) hr.units) (pe_callTy (call_listF (kI := 1) (kL := 1) F_Bench_iter F_Bench_len rfl (hr.mono (by decide))) (by rfl) T.z_list (by decide +kernel) (pa_cons (pv 0) pa_nil)) (pe_lc (own := [("_law_row", 5)]) rfl sc.nd (pi_listK (K := K) (pv 1)) (blkOk_by (own := [("_law_row", 5)]) (N := N__law_bench_right) (sc := defScope s__law_bench_right) (by decide +kernel)) (fun _ _ _ _ _ => by exact (pg_name (i := 5) sc.nd rfl (Or.inl rfl))) (fun _ _ _ _ _ => by exact pts_nil) (fun _ _ _ _ _ => by exact (pe_ix (ix_tupK (K := K)) (pv 5) pe_int (fun _ _ => rfl)))) (nomark _)) (pss_one (ps_ret pe_bl)) pss_nil)
      (pss_cons (ps_for PassesOwn.never rfl (pi_listK (K := K) (pv 1)) (pg_tupK (K := K) (n := 2) (pgs_cons (pg_name (i := 2) sc.nd rfl (Or.inl rfl)) (pgs_cons (pg_name (i := 3) sc.nd rfl (Or.inl rfl)) pgs_nil)))
      (pss_cons (ps_set (i := 4) sc.nd rfl (Or.inl rfl) (pe_ownGet F_Bench_getitem T.fiB (hr.mono (by decide)) (fun σ => pass0XS σ) (pv 0) (pv 2)))
      (pss_one (ps_if (PW.pt (pw_or (pt_cmpR (op_ownNotIn F_Bench_contains (hr.mono (by decide))) (pv 2) (pv 0) rfl) (pw_or1 (pt_cmpR (op_ownNe F_Program_eq T.neP T.obP (hr.mono (by decide))) (pv 4) (pe_mk F_Program_init hr pass0X (pa_cons (pe_fn0 F__law_program_text hr (pa_cons (pv 3) pa_nil)) pa_nil)) (nomark _))))) (pss_one (ps_ret pe_bl)) pss_nil))))
      (pss_one (ps_ret pe_bl))))), ?_⟩
    obtain ⟨dx, d, xs, ys, h⟩ := id hb
    obtain ⟨d', kvs, ed, hd, hrows⟩ := h.hd
    cases ed
    have lk := hrows.length
    have l20 := hs.len
    obtain ⟨av, vs, rfl, hav, hvs⟩ := hv.lstV
    have lv : vs.length = m.st.length := by rw [hvs.length, List.length_map]
    refine ⟨_, rfl, p, dx, _, rfl, h.hp, nf_written, F, p, dx, d, _, m.st, rfl, h.hp, bf_p, W0, h.hd, hs, fun F1 H1 e1 => ?_⟩
    refine ⟨_, rfl, F1, _, m.st, rfl, e1.wd, e1.dt hv, hs, fun F2 H2 e2 => ?_⟩
    have e12 := e1.trans0 e2
    have h2 := h.ev e12 (fun z => z) (fun z => z) (fun z => z)
    refine ⟨rfl, _, rfl, ?_⟩
    refine itF (by simp) ?_
    refine ⟨_, rfl, p, dx, _, rfl, h2.hp, p, dx, _, d, kvs, rfl, h2.hp, bf_p, .inl (e12.wd.sub _ _ (e12.mono _ _ hd)), _, rfl, by omega, by omega, _, rfl, av, vs, rfl, .inl (SqL.of (e12.wd.sub _ _ (e12.mono _ _ hav))), rfl, _, rfl, ?_⟩
    rw [lk, lv]
    refine itF (by simp) ?_
    unfold tNext
    dsimp only
    refine tSeq_ (tIfS_ (tTest_ (tOp_ (tCB_ (tCons_ ?_)))))
    refine ⟨_, rfl, p, dx, _, d, kvs, rfl, h2.hp, bf_p, e12.wd.sub _ _ (e12.mono _ _ hd), fun q hq => ?_⟩
    rw [dc_keys hrows]
    have e3 : Ev Tb S0 F2 H2 F2 (upd H2 q (.lst ((names m.st).map V.str))) := Ev.new e2.wd hq
    have q3 : upd H2 q (.lst ((names m.st).map V.str)) q = some (.lst ((names m.st).map V.str)) := upd_same
    have e13 := e12.trans0 e3
    refine lc_names e3.wd rfl (e13.dt hv) l20 (fun _ => rfl) (fun _ => rfl) fun D F4 H4 e4 hD => ?_
    have shn : Sh 1 (.list ((names m.st).map PyData.str)) := Sh.map fun n hn => by
      obtain ⟨r, hr, rfl⟩ := List.mem_map.mp hn
      exact Sh.str (hs.row r hr).1.okS
    refine ⟨.list ((names m.st).map PyData.str), .list ((names m.st).map PyData.str), .lst (SqL.of (e4.kp q3)) (DTs.dp e4.wd.sub _ _ (DTs.ofStrs _)), .lst (SqL.of (e4.wd.sub _ _ hD)) (DTs.dp e4.wd.sub _ _ (DTs.ofStrs _)), shn.shaped (by decide), shn.shaped (by decide), _, rfl, ?_⟩
    rw [eqv_refl _ shn.lay]
    refine itF rfl ?_
    have e04 := e13.trans0 e4
    dsimp only
    refine tSeq_ ?_
    refine ⟨_, rfl, av, rfl, ⟨_, SqL.of (e04.wd.sub _ _ (e04.mono _ _ hav))⟩, ?_⟩
    refine for_list (K := K) (a := av) (xs := vs) (fun i σ H' => ∃ (F' : Hp) (c2 c3 c4 : Option V), σ = [some (.ref p), some (.ref av), c2, c3, c4, none] ∧ Ev Tb S0 F H F' H') ⟨F4, none, none, none, rfl, e04⟩ (fun i σ H' _ ⟨F', c2, c3, c4, _, e⟩ => SqL.of (e.wd.sub _ _ (e.mono _ _ hav))) ?_ ?_
    · rintro i x σ H' hx ⟨F', c2, c3, c4, rfl, e5⟩
      obtain ⟨r, hr, hxd⟩ := dts_get hvs hx
      have hrm := List.mem_of_getElem? hr
      obtain ⟨ok1, ok2⟩ := hs.row r hrm
      have hn : r.1 ∈ names m.st := List.mem_map.mpr ⟨r, hrm, rfl⟩
      have est : stepsOf m.st r.1 = r.2 := row_one hs.nd (mem_names hn) hrm
      obtain ⟨ax, y1, y2, rfl, hax, hy1, hy2⟩ := DT.pair (e5.dt hxd)
      obtain rfl := hy1.strV
      have h5 := h.ev e5 (fun z => z) (fun z => z) (fun z => z)
      refine ⟨ax, _, rfl, SqT.of (e5.wd.sub _ _ hax), rfl, _, _, rfl, _, _, rfl, rfl, ?_⟩
      refine ⟨_, rfl, _, rfl, p, dx, _, rfl, h5.hp, F', p, dx, d, _, m.st, r.1, rfl, h5.hp, bf_p, e5.wd, h5.hd, fun _ pr hpr => ?_, fun hnot => absurd hn hnot⟩
      rw [est] at hpr
      refine ⟨_, rfl, _, rfl, p, dx, _, rfl, h5.hp, F', p, dx, d, _, m.st, r.1, rfl, h5.hp, bf_p, e5.wd.sub, h5.hd, _, rfl, _, rfl, ?_⟩
      rw [decide_eq_true hn]
      refine itF rfl ?_
      refine ⟨_, rfl, _, rfl, F', y2, r.2, rfl, e5.wd, hy2, ok2.st, by have := ok2.len; omega, fun F6 H6 e6 => ?_⟩
      refine mk_prog e6.wd ok2.st (by have := ok2.len; omega) (fun _ F7 H7 r7 e7 hr7 => ?_) (fun h => absurd h (by have := ok2.len; omega)) (fun _ h => absurd h (by have := ok2.dl; omega))
      have e67 := e6.trans0 e7
      obtain ⟨pa, pdx, pfs, pt, pts, rfl, hpa, hprest⟩ := id (e67.pr hpr)
      obtain ⟨qa, qdx, qfs, qt, qts, eqa, hqa, hqrest⟩ := id hr7
      cases eqa
      refine ⟨pa, pdx, pfs, r7, qdx, qfs, rfl, rfl, e7.wd.sub _ _ hpa, e7.wd.sub _ _ hqa, F7, _, _, r.2, r.2, rfl, e7.wd.sub, e67.pr hpr, hr7, _, rfl, _, rfl, ?_⟩
      rw [decide_eq_true rfl]
      exact itF rfl ⟨F7, _, _, _, rfl, e5.trans0 e67⟩
    · rintro σ H' ⟨F', c2, c3, c4, rfl, e5⟩
      exact k F' H' e5
end
end K64
/-! ## KL6 -/
set_option Elab.async false
set_option linter.all false
set_option maxRecDepth 100000
set_option maxHeartbeats 2000000
namespace K64
open PySem PySem.Spec PyProof.Rows L2 LamX
/-! ### the model and the bench side by side -/
structure Duo (A : Ad) (F H : Hp) (q a b p c d : Addr) (m : Mst) : Prop where
  md : ModelAt F H q a b m
  bd : BenchAt A F H p c d m
  ac : a ≠ c
  ad : a ≠ d
  bc : b ≠ c
  bd' : b ≠ d
def dS (q a b p c d : Addr) : Addr → Prop := fun x => mS q a b x ∨ mS p c d x
section
variable {T : List (Addr × Str)} {A : Ad} {S : Addr → Prop} {F H F1 H1 : Hp} {q a b p c d : Addr} {m : Mst}
theorem ModelAt.live (h : ModelAt F H q a b m) : (∃ kvs, H q = some (.dK kvs)) ∧ (∃ xs, H a = some (.lst xs)) ∧ (∃ xs, H b = some (.lst xs)) := by
  obtain ⟨v, xs, ys, h⟩ := h
  exact ⟨⟨_, h.hq⟩, ⟨_, h.ha⟩, ⟨_, h.hb⟩⟩
theorem BenchAt.live (h : BenchAt A F H p c d m) : (∃ C dx fs, H p = some (.ins C dx fs)) ∧ (∃ xs, H c = some (.lst xs)) ∧ (∃ xs, H d = some (.lst xs)) := by
  obtain ⟨dx, dd, xs, ys, h⟩ := h
  exact ⟨⟨_, _, _, h.hp⟩, ⟨_, h.ha⟩, ⟨_, h.hb⟩⟩
theorem Duo.sep (h : Duo A F H q a b p c d m) : (∀ x, mS q a b x → ¬ mS p c d x) := by
  obtain ⟨⟨k1, e1⟩, ⟨k2, e2⟩, ⟨k3, e3⟩⟩ := h.md.live
  obtain ⟨⟨j1, j2, j3, f1⟩, ⟨j4, f2⟩, ⟨j5, f3⟩⟩ := h.bd.live
  intro x hx hy
  rcases hx with rfl | rfl | rfl
  · rcases hy with z | z | z
    · rw [z, f1] at e1; cases e1
    · rw [z, f2] at e1; cases e1
    · rw [z, f3] at e1; cases e1
  · rcases hy with z | z | z
    · rw [z, f1] at e2; cases e2
    · exact h.ac z
    · exact h.ad z
  · rcases hy with z | z | z
    · rw [z, f1] at e3; cases e3
    · exact h.bc z
    · exact h.bd' z
theorem Duo.ev (h : Duo A F H q a b p c d m) (e : Ev T S F H F1 H1) (hs : ∀ x, dS q a b p c d x → ¬ S x) : Duo A F1 H1 q a b p c d m :=
  ⟨h.md.ev e (hs _ (.inl (.inl rfl))) (hs _ (.inl (.inr (.inl rfl)))) (hs _ (.inl (.inr (.inr rfl)))), h.bd.ev e (hs _ (.inr (.inl rfl))) (hs _ (.inr (.inr (.inl rfl)))) (hs _ (.inr (.inr (.inr rfl)))), h.ac, h.ad, h.bc, h.bd'⟩
theorem Duo.ev0 (h : Duo A F H q a b p c d m) (e : Ev T S0 F H F1 H1) : Duo A F1 H1 q a b p c d m := h.ev e fun _ _ z => z
theorem Duo.some_ (h : Duo A F H q a b p c d m) : ∀ x, dS q a b p c d x → H x ≠ none := by
  obtain ⟨⟨k1, e1⟩, ⟨k2, e2⟩, ⟨k3, e3⟩⟩ := h.md.live
  obtain ⟨⟨j1, j2, j3, f1⟩, ⟨j4, f2⟩, ⟨j5, f3⟩⟩ := h.bd.live
  intro x hx z
  rcases hx with (rfl | rfl | rfl) | (rfl | rfl | rfl)
  · rw [e1] at z; cases z
  · rw [e2] at z; cases z
  · rw [e3] at z; cases z
  · rw [f1] at z; cases z
  · rw [f2] at z; cases z
  · rw [f3] at z; cases z
end
structure DGo (A : Ad) (T : List (Addr × Str)) (q a b p c d : Addr) (F H : Hp) (m' : Mst) (F' H' : Hp) (b' d' : Addr) : Prop where
  e : Ev T (dS q a b p c d) F H F' H'
  bb : b' = b ∨ H b' = none
  dd : d' = d ∨ H d' = none
  duo : Duo A F' H' q a b' p c d' m'
section
variable {T : List (Addr × Str)} {A : Ad} {F H F1 H1 F2 H2 : Hp} {q a b b1 b2 p c d d1 d2 l : Addr} {m m1 m2 : Mst} {os os2 : List Obs}
theorem ds_sub (bb : b1 = b ∨ H b1 = none) (dd : d1 = d ∨ H d1 = none) (x : Addr) (hx : dS q a b1 p c d1 x) : dS q a b p c d x ∨ H x = none := by
  rcases hx with z | z
  · rcases bs_sub bb x z with z | z
    · exact .inl (.inl z)
    · exact .inr z
  · rcases bs_sub dd x z with z | z
    · exact .inl (.inr z)
    · exact .inr z
theorem DGo.refl (w : Wd T F H) (h : Duo A F H q a b p c d m) : DGo A T q a b p c d F H m F H b d := ⟨Ev.refl w, .inl rfl, .inl rfl, h⟩
theorem DGo.trans (g : DGo A T q a b p c d F H m1 F1 H1 b1 d1) (k : DGo A T q a b1 p c d1 F1 H1 m2 F2 H2 b2 d2) : DGo A T q a b p c d F H m2 F2 H2 b2 d2 := by
  refine ⟨g.e.trans k.e (fun _ z => z) (ds_sub g.bb g.dd), ?_, ?_, k.duo⟩
  · rcases k.bb with z | z
    · rw [z]; exact g.bb
    · exact .inr (g.e.fr z)
  · rcases k.dd with z | z
    · rw [z]; exact g.dd
    · exact .inr (g.e.fr z)
theorem DGo.same (g : DGo A T q a b p c d F H m1 F1 H1 b1 d1) (e : Ev T S0 F1 H1 F2 H2) : DGo A T q a b p c d F H m1 F2 H2 b1 d1 := g.trans ⟨e.to0, .inl rfl, .inl rfl, g.duo.ev0 e⟩
/-- the model's play, then the bench's, the lists of what is seen beside -/
theorem duo_go {k1 k2 : Addr} {F3 H3 : Hp} {os1 os1' os2' : List Obs} (h : Duo A F H q a b p c d m) (e1 : Ev T S0 F H F1 H1) (hk1 : H k1 = none) (hk2 : H k2 = none) (k12 : k1 ≠ k2) (g : MGo T q a b k1 F1 H1 m1 os1' F2 H2 b1) (s2 : SeenAt F1 H1 k2 os1) (g2 : SGo A T p c d k2 F2 H2 m1 os2' F3 H3 d1) (hk1s : SeenAt F1 H1 k1 os) :
    DGo A T q a b p c d F H m1 F3 H3 b1 d1 ∧ SeenAt F3 H3 k1 os1' := by
  have n1 : ∀ x, dS q a b p c d x → x ≠ k1 := fun x hx z => h.some_ x hx (by rw [z]; exact hk1)
  have n2 : ∀ x, dS q a b p c d x → x ≠ k2 := fun x hx z => h.some_ x hx (by rw [z]; exact hk2)
  have liveB := h.bd.live
  have b1c : ∀ x, mS p c d x → x ≠ b1 := fun x hx z => by
    rcases g.bb with c0 | c0
    · exact h.sep b (.inr (.inr rfl)) (by rw [← c0, ← z]; exact hx)
    · exact h.some_ x (.inr hx) (e1.fr (by rw [z]; exact c0))
  have ka1 : H1 k1 ≠ none := by
    obtain ⟨zs, z⟩ := hk1s
    rw [z.hl]
    intro e
    cases e
  -- the model stands still while the bench works
  have nS2 : ∀ x, (mS q a b1 x ∨ x = k1) → ¬ pS k2 (mS p c d) x := by
    intro x hx z
    have hl : ∀ y, mS p c d y → x ≠ y := by
      intro y hy e
      rcases hx with (rfl | rfl | rfl) | rfl
      · exact h.sep _ (.inl rfl) (by rw [e]; exact hy)
      · exact h.sep _ (.inr (.inl rfl)) (by rw [e]; exact hy)
      · exact b1c y hy e.symm
      · exact n1 y (.inr hy) e.symm
    rcases z with z | z
    · rcases hx with (rfl | rfl | rfl) | rfl
      · exact n2 _ (.inl (.inl rfl)) z
      · exact n2 _ (.inl (.inr (.inl rfl))) z
      · rcases g.bb with c0 | c0
        · exact n2 _ (.inl (.inr (.inr c0))) z
        · obtain ⟨zs, hz⟩ := s2
          rw [z] at c0
          have hz2 := hz.hl
          rw [c0] at hz2
          cases hz2
      · exact k12 z
    · exact hl x z rfl
  have md3 : ModelAt F3 H3 q a b1 m1 := g.md.ev g2.e (nS2 _ (.inl (.inl rfl))) (nS2 _ (.inl (.inr (.inl rfl)))) (nS2 _ (.inl (.inr (.inr rfl))))
  have sn3 : SeenAt F3 H3 k1 os1' := g.sn.ev g2.e (nS2 _ (.inr rfl))
  have eall : Ev T (dS q a b p c d) F H F3 H3 := by
    have e12 : Ev T (dS q a b p c d) F H F2 H2 := (e1.to0).trans g.e (fun _ z => z) fun x hx => by
      rcases hx with z | z
      · exact .inr (by rw [z]; exact hk1)
      · exact .inl (.inl z)
    exact e12.trans g2.e (fun _ z => z) fun x hx => by
      rcases hx with z | z
      · exact .inr (by rw [z]; exact hk2)
      · exact .inl (.inr z)
  have bb : b1 = b ∨ H b1 = none := by
    rcases g.bb with z | z
    · exact .inl z
    · exact .inr (e1.fr z)
  have dd : d1 = d ∨ H d1 = none := by
    rcases g2.bb with z | z
    · exact .inl z
    · exact .inr (e1.fr (g.e.fr z))
  refine ⟨⟨eall, bb, dd, ⟨md3, g2.md, h.ac, ?_, fun z => b1c c (.inr (.inl rfl)) z.symm, ?_⟩⟩, sn3⟩
  · intro z
    rcases g2.bb with c0 | c0
    · exact h.ad (z.trans c0)
    · obtain ⟨_, ⟨xs, hx⟩, _⟩ := g.md.live
      rw [z, c0] at hx
      cases hx
  · intro z
    rcases g2.bb with c0 | c0
    · exact b1c d (.inr (.inr rfl)) (by rw [z, c0])
    · obtain ⟨_, _, ⟨xs, hx⟩⟩ := g.md.live
      rw [z, c0] at hx
      cases hx
end
section
variable {P : Program} {w : World} {K : PySem.W.Frag} {mg : Str → Option Value} {base : Heap} {A : Ad} {Tb : List (Addr × Str)}
abbrev s__law_model_first : Stmt := top 78
abbrev N__law_model_first : List Str := [("_law_model" : Str), ("_law_bench" : Str), ("_law_items_here" : Str), ("_law_due_here" : Str), ("_law_seen" : Str)]
abbrev P__law_model_first : List Str := [("_law_model" : Str), ("_law_bench" : Str), ("_law_items_here" : Str)]
theorem sc__law_model_first : FnScope N__law_model_first P__law_model_first (defScope s__law_model_first) := ⟨rfl, rfl, rfl, by decide +kernel, rfl, by decide +kernel, by decide +kernel⟩
theorem bd__law_model_first {K : PySem.W.Frag} {f : Addr} {fd : FuncData} (F : L2.Fun K "_law_model_first" "_law_model_first" s__law_model_first f fd) : Binds K fd P__law_model_first [] := F.binds fun _ _ _ _ _ _ us hl => match us, hl with | [_, _, _], _ => rfl

def spFirst (A : Ad) (Tb : List (Addr × Str)) : Sp := fun vs H Q _ => ∃ (F : Hp) (q a b p c d : Addr) (m : Mst) (its : List Item) (v : V), vs = [.ref q, .ref p, v] ∧ Wd Tb F H ∧ Duo A F H q a b p c d m ∧ DT F v (itemsD its) ∧ ItemsOk 0 its ∧ MV m ∧ m.past.length + m.fut.length ≤ 9000 ∧
  ∀ F' H' b' d', DGo A Tb q a b p c d F H (play 0 its m).1 F' H' b' d' → Q (.bl true) H'
theorem ok_first {f : Addr} {fd : FuncData} (F : L2.Fun K "_law_model_first" "_law_model_first" s__law_model_first f fd) (T : Txt P K mg A) (F__law_model_play : FnG P w K mg base CX0 4 "_law_model_play" P__law_model_play (spMPlay Tb 0)) (F__law_play : FnG P w K mg base (L2.CX P w) 10 "_law_play" P__law_play (spPlay A Tb 0)) :
    FnOk P w K mg base CX0 11 f fd P__law_model_first (spFirst A Tb) := by
  have sc := sc__law_model_first
  refine F.ok sc (fun vs H Q E h => ?_) (fun cdv AA outer s H vs Q E hr h => ?_)
  · obtain ⟨F, q, a, b, p, c, d, m, its, v, rfl, _⟩ := h
    rfl
  · obtain ⟨F, q, a, b, p, c, d, m, its, v, rfl, W0, hd, hv, hits, hmv, hlen, k⟩ := h
    refine ⟨_, (pss_cons (ps_par (i := 3) (j := 4) rfl sc.nd rfl rfl (by decide) rfl rfl (pa_cons (pe_lst pa_nil) (pa_cons (pe_lst pa_nil) pa_nil)) rfl)
      (pss_cons (ps_expr (pe_fn0 F__law_model_play hr (pa_cons (pv 0) (pa_cons (pv 2) (pa_cons (pv 3) pa_nil)))))
      (pss_one (ps_ret (pe_and (pe_cmpR (op_eqDK (K := K) hr.units) (pe_fnN F__law_play hr (pa_cons (pv 1) (pa_cons (pv 2) (pa_cons pe_str (pa_cons (pv 4) pa_nil))))) (pe_tup (pa_cons pe_str (pa_cons (pe_callB (call_len_seqK (K := K)) (by rfl) T.z_len PySem.boot_len (pa_cons (pv 2) pa_nil)) pa_nil))) (nomark _)) (pe_one (pe_cmpR (op_eqDK (K := K) hr.units) (pv 4) (pv 3) (nomark _)))))))), ?_⟩
    refine ⟨sz0, fun k1 hk1 => ⟨sz0, fun k2 hk2 => ⟨_, _, rfl, ?_⟩⟩⟩
    have e1 : Ev Tb S0 F H F (upd H k1 (.lst [])) := Ev.new W0 hk1
    have e2 : Ev Tb S0 F (upd H k1 (.lst [])) F (upd (upd H k1 (.lst [])) k2 (.lst [])) := Ev.new e1.wd hk2
    have e12 := e1.trans0 e2
    have u1 : upd H k1 (.lst []) k1 = some (.lst []) := upd_same
    have k12 : k1 ≠ k2 := ne_of_none u1 hk2
    have hk20 : H k2 = none := e1.fr hk2
    have n1 : ∀ x, dS q a b p c d x → k1 ≠ x := fun x hx z => hd.some_ x hx (by rw [← z]; exact hk1)
    have n2 : ∀ x, dS q a b p c d x → k2 ≠ x := fun x hx z => hd.some_ x hx (by rw [← z]; exact hk20)
    have d2 := hd.ev0 e12
    have s1 : SeenAt F (upd (upd H k1 (.lst [])) k2 (.lst [])) k1 [] := ⟨[], e2.kp u1, .nil, W0.none hk1⟩
    have s2 : SeenAt F (upd (upd H k1 (.lst [])) k2 (.lst [])) k2 [] := ⟨[], upd_same, .nil, W0.none hk20⟩
    have sB : seenB 0 = 60 := rfl
    refine ⟨_, rfl, _, rfl, _, rfl, F, q, a, b, k1, m, [], its, v, rfl, e2.wd, d2.md, s1, n1 _ (.inl (.inr (.inl rfl))), n1 _ (.inl (.inr (.inr rfl))), hv, hits, hmv, by omega, by rw [sB]; simp, fun F3 H3 b3 g3 => ?_⟩
    -- the bench as it was
    have bq : ∀ x, mS p c d x → ¬ pS k1 (mS q a b) x := fun x hx z => by
      rcases z with z | z
      · exact n1 x (.inr hx) z.symm
      · exact hd.sep x z hx
    have bd3 : BenchAt A F3 H3 p c d m := d2.bd.ev g3.e (bq _ (.inl rfl)) (bq _ (.inr (.inl rfl))) (bq _ (.inr (.inr rfl)))
    have s23 : SeenAt F3 H3 k2 [] := s2.ev g3.e fun z => by
      rcases z with z | z
      · exact k12 z.symm
      · exact n2 _ (.inl z) rfl
    refine ⟨_, rfl, _, rfl, _, rfl, F3, p, c, d, k2, m, [], its, "", v, rfl, g3.e.wd, bd3, s23, n2 _ (.inr (.inr (.inl rfl))), n2 _ (.inr (.inr (.inr rfl))), g3.e.dt hv, hits, hmv, by omega, by rw [sB]; simp, .inl rfl, fun _ F4 H4 d4 r4 g4 hr4 => ?_, fun h => absurd rfl h⟩
    obtain ⟨gg, sn4⟩ := duo_go hd e12 hk1 hk20 k12 g3 s2 g4 s1
    have hv4 := gg.e.dt hv
    obtain ⟨av, xs, rfl, hav, hxs⟩ := hv4.lstV
    have lxs : xs.length = its.length := by rw [hxs.length, List.length_map]
    refine ⟨_, rfl, av, xs, rfl, .inl (SqL.of (g4.e.wd.sub _ _ hav)), sz2, fun t ht => ?_⟩
    obtain ⟨e5, h5⟩ := new_tup (S := S0) g4.e.wd ht (.cons (.str "end") (.cons (.int (xs.length : Int)) .nil))
    have eo : PyData.tuple [.str "end", .int (xs.length : Int)] = obsD (endO its.length) := by rw [lxs]; rfl
    rw [eo] at h5
    have she : Sh 1 (obsD (endO its.length)) := Sh.tup2 (Sh.str end_okS) Sh.int
    refine ⟨_, _, DT.dp e5.wd.sub _ _ (e5.dt hr4), DT.dp e5.wd.sub _ _ h5, she.shaped (by decide), she.shaped (by decide), _, rfl, ?_⟩
    rw [eqv_refl _ she.lay]
    refine itT rfl ?_
    have ps := play_sees 0 its m hits hmv
    have sh := sh_seen ps.1
    obtain ⟨z1, hz1⟩ := sn4.ev e5 (fun z => z)
    obtain ⟨z2, hz2⟩ := g4.sn.ev e5 (fun z => z)
    rw [List.nil_append] at hz1 hz2
    refine ⟨_, rfl, _, rfl, .list ((play 0 its m).2.map obsD), .list ((play 0 its m).2.map obsD), .lst (SqL.of hz2.hl) (DTs.dp e5.wd.sub _ _ hz2.hx), .lst (SqL.of hz1.hl) (DTs.dp e5.wd.sub _ _ hz1.hx), sh.shaped (by decide), sh.shaped (by decide), ?_⟩
    rw [eqv_refl _ sh.lay]
    exact k _ _ b3 d4 (gg.same e5)
end
end K64
/-! ## KL7 -/
set_option Elab.async false
set_option linter.all false
set_option maxRecDepth 100000
set_option maxHeartbeats 2000000
namespace K64
open PySem PySem.Spec PyProof.Rows L2 LamX
section
variable {T : List (Addr × Str)} {A : Ad} {F H F1 H1 F2 H2 : Hp} {q a b b1 p c d d1 pen : Addr} {m m1 : Mst} {os os1 os2 : List Obs} {cells : List Int} {n : Nat}
/-- the bench's piece, then the model's -/
theorem duo_go2 {k1 k2 : Addr} {F3 H3 : Hp} {os1' os2' : List Obs} (h : Duo A F H q a b p c d m) (w : Wd T F H) (n1 : ∀ x, dS q a b p c d x → x ≠ k1) (n2 : ∀ x, dS q a b p c d x → x ≠ k2) (k12 : k1 ≠ k2) (s1 : SeenAt F H k1 os) (g : SGo A T p c d k2 F H m1 os2' F2 H2 d1) (g2 : MGo T q a b k1 F2 H2 m1 os1' F3 H3 b1) :
    Duo A F3 H3 q a b1 p c d1 m1 ∧ SeenAt F3 H3 k2 os2' := by
  have d1c : ∀ x, mS q a b x → x ≠ d1 := fun x hx z => by
    rcases g.bb with c0 | c0
    · exact h.sep x hx (by rw [z, c0]; exact .inr (.inr rfl))
    · exact h.some_ x (.inl hx) (by rw [z]; exact c0)
  have kd1 : k1 ≠ d1 := fun z => by
    rcases g.bb with c0 | c0
    · exact n1 d (.inr (.inr (.inr rfl))) (by rw [z, c0])
    · obtain ⟨zs, hz⟩ := s1
      have := hz.hl
      rw [z, c0] at this
      cases this
  have nS : ∀ x, (mS p c d1 x ∨ x = k2) → ¬ pS k1 (mS q a b) x := by
    intro x hx z
    have hl : ∀ y, mS q a b y → x ≠ y := by
      intro y hy e
      rcases hx with (rfl | rfl | rfl) | rfl
      · exact h.sep y hy (by rw [← e]; exact .inl rfl)
      · exact h.sep y hy (by rw [← e]; exact .inr (.inl rfl))
      · exact d1c y hy e.symm
      · exact n2 y (.inl hy) e.symm
    rcases z with z | z
    · rcases hx with (rfl | rfl | rfl) | rfl
      · exact n1 _ (.inr (.inl rfl)) z
      · exact n1 _ (.inr (.inr (.inl rfl))) z
      · exact kd1 z.symm
      · exact k12 z.symm
    · exact hl x z rfl
  have bd3 := g.md.ev g2.e (nS _ (.inl (.inl rfl))) (nS _ (.inl (.inr (.inl rfl)))) (nS _ (.inl (.inr (.inr rfl))))
  have sn3 := g.sn.ev g2.e (nS _ (.inr rfl))
  refine ⟨⟨g2.md, bd3, h.ac, d1c a (.inr (.inl rfl)), ?_, ?_⟩, sn3⟩
  · intro z
    rcases g2.bb with c0 | c0
    · exact h.bc (by rw [← c0]; exact z)
    · obtain ⟨_, ⟨xs, hx⟩, _⟩ := g.md.live
      rw [← z, c0] at hx
      cases hx
  · intro z
    rcases g2.bb with c0 | c0
    · exact d1c b (.inr (.inr rfl)) (by rw [← c0]; exact z)
    · obtain ⟨_, _, ⟨xs, hx⟩⟩ := g.md.live
      rw [← z, c0] at hx
      cases hx
theorem cells_state : ("cells" : Str) ≠ "state" := by decide +kernel
theorem pen_out (hp : PenAt F H pen cells n) (h : Duo A F H q a b p c d m) : ∀ x, dS q a b p c d x → x ≠ pen := by
  obtain ⟨cc, l, e, _, _⟩ := hp
  obtain ⟨v, xs, ys, hm⟩ := h.md
  obtain ⟨⟨k1, e1⟩, ⟨k2, e2⟩, ⟨k3, e3⟩⟩ := h.md.live
  obtain ⟨⟨j1, j2, j3, f1⟩, ⟨j4, f2⟩, ⟨j5, f3⟩⟩ := h.bd.live
  intro x hx z
  rcases hx with (rfl | rfl | rfl) | (rfl | rfl | rfl)
  · have := hm.hq
    rw [z, e] at this
    have e9 := HO.dK.inj (Option.some.inj this)
    have e8 := (List.cons.inj e9).1
    exact cells_state (Sum.inr.inj (Prod.mk.inj e8).1)
  · rw [z, e] at e2; cases e2
  · rw [z, e] at e3; cases e3
  · rw [z, e] at f1; cases f1
  · rw [z, e] at f2; cases f2
  · rw [z, e] at f3; cases f3
theorem rep_dts {x : V} {it : Item} (h : DT F x (itemD it)) : ∀ k, DTs F (List.replicate k x) ((List.replicate k it).map itemD)
  | 0 => .nil
  | k + 1 => .cons h (rep_dts h k)
theorem rep_fin {t r : Addr} {nm : Str} {it : Item} {k : Int} (hit : itemD it = .tuple [.str nm, .int 0]) (w : Wd T F H) (ht : F t = some (.tup [V.str nm, V.int 0])) (hr : H r = none) :
    Ev T S0 F H (upd F r (.lst (List.replicate k.toNat [V.ref t]).flatten)) (upd H r (.lst (List.replicate k.toNat [V.ref t]).flatten)) ∧ DTs (upd F r (.lst (List.replicate k.toNat [V.ref t]).flatten)) (List.replicate k.toNat [V.ref t]).flatten ((List.replicate k.toNat it).map itemD) := by
  have e : Ev T S0 F H (upd F r (.lst (List.replicate k.toNat [V.ref t]).flatten)) (upd H r (.lst (List.replicate k.toNat [V.ref t]).flatten)) := Ev.frz w hr
  refine ⟨e, ?_⟩
  rw [List.flatten_replicate_singleton]
  rw [List.flatten_replicate_singleton] at e
  refine rep_dts ?_ _
  rw [hit]
  exact e.dt (.tup ht (.cons (.str nm) (.cons (.int 0) .nil)))
theorem ways_ok {x y : Nat} (h : x + y ≤ 30) : ItemsOk 0 (List.replicate x .undo ++ List.replicate y .redo) ∧ ItemsOk 0 (List.replicate x .redo ++ List.replicate y .undo) := by
  refine ⟨⟨by rw [List.length_append, List.length_replicate, List.length_replicate]; exact h, fun it hi => ?_⟩, by rw [List.length_append, List.length_replicate, List.length_replicate]; exact h, fun it hi => ?_⟩
  · rcases List.mem_append.mp hi with hi | hi
    · rw [List.eq_of_mem_replicate hi]; trivial
    · rw [List.eq_of_mem_replicate hi]; trivial
  · rcases List.mem_append.mp hi with hi | hi
    · rw [List.eq_of_mem_replicate hi]; trivial
    · rw [List.eq_of_mem_replicate hi]; trivial
end
section
variable {P : Program} {w : World} {K : PySem.W.Frag} {mg : Str → Option Value} {base : Heap} {A : Ad} {Tb : List (Addr × Str)}
/-- Bench() -/
theorem mk_bench {F H : Hp} {Q : Addr → Hp → Prop} {E : XK} (w : Wd Tb F H) (k : ∀ F' H' p a b, Ev Tb S0 F H F' H' → H p = none → H a = none → H b = none → BenchAt A F' H' p a b ⟨[], [], []⟩ → Q p H') :
    ∀ x dx, H x = none → H dx = none → dx ≠ x → spBInit A Tb (.ref x :: ([] ++ [])) (upd (upd H dx (.own x)) x (.ins A.CB dx [])) (fun v H2 => v = .non ∧ Q x H2) E := by
  intro x dx hx hdx ne
  have e1 : Ev Tb S0 F H F (upd H dx (.own x)) := Ev.new w hdx
  have hx1 : upd H dx (.own x) x = none := by rw [upd_ne (Ne.symm ne)]; exact hx
  have e2 : Ev Tb S0 F (upd H dx (.own x)) F (upd (upd H dx (.own x)) x (.ins A.CB dx [])) := Ev.new e1.wd hx1
  have e12 := e1.trans0 e2
  refine ⟨F, x, dx, rfl, e2.wd, upd_same, w.none hx, fun F' H' a b e3 ha hb bd => ⟨rfl, ?_⟩⟩
  exact k F' H' x a b (e12.trans e3 (fun _ z => z) fun b hb => .inr (by rw [hb]; exact hx)) hx (e12.fr ha) (e12.fr hb) bd
abbrev s_law : Stmt := top 79
abbrev N_law : List Str := [("_law_script" : Str), ("_law_pen_here" : Str), ("_law_lap" : Str), ("_law_pool_here" : Str), ("_law_bench" : Str), ("_law_model" : Str), ("_law_told" : Str), ("_law_ways" : Str), ("_law_items_here" : Str), ("_law_end" : Str), ("_law_due_here" : Str), ("_law_seen" : Str)]
abbrev P_law : List Str := [("_law_script" : Str)]
theorem sc_law : FnScope N_law P_law (defScope s_law) := ⟨rfl, rfl, rfl, by decide +kernel, rfl, by decide +kernel, by decide +kernel⟩
theorem bd_law {K : PySem.W.Frag} {f : Addr} {fd : FuncData} (F : L2.Fun K "law" "law" s_law f fd) : Binds K fd P_law [] := F.binds fun _ _ _ _ _ _ us hl => match us, hl with | [_], _ => rfl

def spLaw (K : PySem.W.Frag) (Tb : List (Addr × Str)) : Sp := fun vs H Q _ => ∃ (a : Addr) (ns : List Int), vs = [.ref a] ∧ Tabs Tb H ∧ SqL K H a (ns.map V.int) ∧ ∀ H', Q (.bl true) H'
def LawPv (A : Ad) (Tb : List (Addr × Str)) (q0 pen p : Addr) (cells : List Int) (v0 v : V) (ks : List Str) (i : Nat) : L2.St → Hp → Prop := fun σ H' => ∃ (F' : Hp) (a b c d : Addr) (m : Mst) (n : Nat) (c2 c6 c7 c8 c9 c10 c11 : Option V), σ = [some v0, some (.ref pen), c2, some v, some (.ref p), some (.ref q0), c6, c7, c8, c9, c10, c11] ∧ Wd Tb F' H' ∧ PenAt F' H' pen cells n ∧ n ≤ 1000 + 10000 * i ∧ DT F' v (.list (ks.map .str)) ∧ Duo A F' H' q0 a b p c d m ∧ MV m ∧ m.past.length + m.fut.length ≤ 100 + 100 * i
theorem ok_law {f : Addr} {fd : FuncData} (F : L2.Fun K "law" "law" s_law f fd) (T : Txt P K mg A) (F__law_pen : FnG P w K mg base CX0 1 "_law_pen" P__law_pen (spPen K Tb)) (F__law_pool : FnG P w K mg base CX0 4 "_law_pool" P__law_pool (spPool Tb)) (F_Bench_init : MkG P w K mg base CX0 1 A.CB "Bench" P_Bench_init (spBInit A Tb))
    (F__law_model_first : FnG P w K mg base CX0 11 "_law_model_first" P__law_model_first (spFirst A Tb)) (F__law_items0 : FnG P w K mg base CX0 6 "_law_items" P__law_items (spItems Tb 0)) (F__law_items : FnG P w K mg base CX0 8 "_law_items" P__law_items (spItems Tb 2)) (F__law_pick : FnG P w K mg base CX0 2 "_law_pick" P__law_pick (spPick Tb)) (F__law_draw : FnG P w K mg base CX0 1 "_law_draw" P__law_draw (spDraw Tb))
    (F__law_called : FnG P w K mg base CX0 21 "_law_called" P__law_called (spCalled A Tb 2)) (F__law_model_called : FnG P w K mg base CX0 9 "_law_model_called" P__law_model_called (spMCalled Tb 2)) (F__law_bench_right : FnG P w K mg base CX0 7 "_law_bench_right" P__law_bench_right (spRight A Tb)) :
    FnOk P w K mg base CX0 22 f fd P_law (spLaw K Tb) := by
  have sc := sc_law
  refine F.ok sc (fun vs H Q E h => ?_) (fun cdv AA outer s H vs Q E hr h => ?_)
  · obtain ⟨a, ns, rfl, _⟩ := h
    rfl
  · obtain ⟨a0, ns, rfl, hT, ha0, k⟩ := h
    refine ⟨_, (pss_cons (ps_set (i := 1) sc.nd rfl (Or.inl rfl) (pe_fn0 F__law_pen hr (pa_cons (pv 0) pa_nil)))
      (pss_cons (ps_par3 (i := 3) (j := 4) (l := 5) rfl sc.nd rfl rfl rfl (by decide) (by decide) (by decide) rfl rfl rfl (pa_cons (pe_fn0 F__law_pool hr (pa_cons (pv 1) pa_nil)) (pa_cons (pe_mk0 F_Bench_init hr pass0) (pa_cons (pe_disp (pps_cons pe_str (pe_lst pa_nil) (pps_cons pe_str (pe_lst pa_nil) (pps_cons pe_str (pe_lst pa_nil) pps_nil))) (by rfl) (by rfl) (fun z => by cases z) (by decide)) pa_nil))) rfl)
      (pss_cons (ps_if (pt_not (pt_val (pe_fn0 F__law_model_first hr (pa_cons (pv 5) (pa_cons (pv 4) (pa_cons (pe_fn0 F__law_items0 hr (pa_cons (pv 1) (pa_cons (pv 3) (pa_cons pe_int pa_nil)))) pa_nil)))))) (pss_one (ps_ret pe_bl)) pss_nil)
      (pss_cons (ps_for PassesOwn.never rfl (pi_range1 (by rfl) T.z_range (pa_cons pe_int pa_nil)) (pg_name (i := 2) sc.nd rfl (Or.inl rfl))
      (pss_cons (ps_asg (pe_tup (pa_cons (pe_fn0 F__law_items hr (pa_cons (pv 1) (pa_cons (pv 3) (pa_cons pe_int pa_nil)))) (pa_cons (pe_fn0 F__law_pick hr (pa_cons (pv 1) (pa_cons (pe_lst (pa_cons pe_str (pa_cons pe_str (pa_cons pe_str (pa_cons pe_str pa_nil))))) pa_nil))) (pa_cons (pe_lst pa_nil) (pa_cons (pe_lst pa_nil) pa_nil))))) (pg_tupK (K := K) (n := 4) (pgs_cons (pg_name (i := 8) sc.nd rfl (Or.inl rfl)) (pgs_cons (pg_name (i := 9) sc.nd rfl (Or.inl rfl)) (pgs_cons (pg_name (i := 10) sc.nd rfl (Or.inl rfl)) (pgs_cons (pg_name (i := 11) sc.nd rfl (Or.inl rfl)) pgs_nil))))))
      (pss_cons (ps_set (i := 6) sc.nd rfl (Or.inl rfl) (pe_fn0 F__law_called hr (pa_cons (pv 4) (pa_cons (pv 8) (pa_cons (pv 9) (pa_cons (pv 11) pa_nil))))))
      (pss_cons (ps_if (PW.pt (pw_or (pt_cmpR (op_neDK (K := K) hr.units) (pv 6) (pe_fn0 F__law_model_called hr (pa_cons (pv 5) (pa_cons (pv 8) (pa_cons (pv 9) (pa_cons (pv 10) pa_nil))))) (nomark _)) (pw_or1 (pt_cmpR (op_neDK (K := K) hr.units) (pv 11) (pv 10) (nomark _))))) (pss_one (ps_ret pe_bl)) pss_nil)
      (pss_cons (ps_if (pt_not (pt_val (pe_fn0 F__law_bench_right hr (pa_cons (pv 4) (pa_cons (pe_dget (hu_of hr) (pv 5) pe_str (fun _ _ => rfl)) pa_nil))))) (pss_one (ps_ret pe_bl)) pss_nil)
      (pss_cons (ps_set (i := 7) sc.nd rfl (Or.inl rfl) (pe_op op_cat (pe_op op_rep (pe_lst (pa_cons (pe_tup (pa_cons pe_str (pa_cons pe_int pa_nil))) pa_nil)) (pe_fn0 F__law_draw hr (pa_cons (pv 1) (pa_cons pe_int pa_nil)))) (pe_op op_rep (pe_lst (pa_cons (pe_tup (pa_cons pe_str (pa_cons pe_int pa_nil))) pa_nil)) (pe_fn0 F__law_draw hr (pa_cons (pv 1) (pa_cons pe_int pa_nil))))))
      (pss_one (ps_if (pt_not (pt_val (pe_fn0 F__law_model_first hr (pa_cons (pv 5) (pa_cons (pv 4) (pa_cons (pv 7) pa_nil)))))) (pss_one (ps_ret pe_bl)) pss_nil))))))))
      (pss_one (ps_ret (pe_fn0 F__law_model_first hr (pa_cons (pv 5) (pa_cons (pv 4) (pa_cons (pe_op op_cat (pe_op op_rep (pe_lst (pa_cons (pe_tup (pa_cons pe_str (pa_cons pe_int pa_nil))) pa_nil)) pe_int) (pe_op op_rep (pe_lst (pa_cons (pe_tup (pa_cons pe_str (pa_cons pe_int pa_nil))) pa_nil)) pe_int)) pa_nil)))))))))), ?_⟩
    have W0 : Wd Tb (fun _ => none) H := ⟨fun b o e => (by cases e), hT, fun b ps e => (by cases e)⟩
    refine ⟨_, rfl, _, a0, ns, rfl, W0, ha0, fun F1 H1 pen cells e1 _ hp1 => ?_⟩
    refine ⟨_, rfl, F1, pen, cells, 0, rfl, e1.wd, hp1, by omega, fun F2 H2 v ks n2 e2 hp2 hn2 l5 hks hv => ?_⟩
    refine mk_bench e2.wd fun F3 H3 p c d e3 hp hc hd bd3 => ?_
    intro q hq
    have e4 : Ev Tb S0 F3 H3 F3 (upd H3 q (.dK [])) := Ev.new e3.wd hq
    refine ⟨sz0, fun s0 hs0 => ?_⟩
    obtain ⟨e5, h5⟩ := new_lst (S := S0) (xs := []) (ds := []) e4.wd hs0 .nil
    refine ⟨sz0, fun a ha => ?_⟩
    have e6 : Ev Tb S0 (upd F3 s0 (.lst [])) (upd (upd H3 q (.dK [])) s0 (.lst [])) (upd F3 s0 (.lst [])) (upd (upd (upd H3 q (.dK [])) s0 (.lst [])) a (.lst [])) := Ev.new e5.wd ha
    refine ⟨sz0, fun b hb => ?_⟩
    have e7 : Ev Tb S0 (upd F3 s0 (.lst [])) (upd (upd (upd H3 q (.dK [])) s0 (.lst [])) a (.lst [])) (upd F3 s0 (.lst [])) (upd (upd (upd (upd H3 q (.dK [])) s0 (.lst [])) a (.lst [])) b (.lst [])) := Ev.new e6.wd hb
    have q4 : upd H3 q (.dK []) q = some (.dK []) := upd_same
    have q7 := e7.kp (e6.kp (e5.kp q4))
    have a6 : upd (upd (upd H3 q (.dK [])) s0 (.lst [])) a (.lst []) a = some (.lst []) := upd_same
    have a7 := e7.kp a6
    have b7 : upd (upd (upd (upd H3 q (.dK [])) s0 (.lst [])) a (.lst [])) b (.lst []) b = some (.lst []) := upd_same
    refine ⟨q7, [(.inr "state", .ref s0), (.inr "past", .ref a), (.inr "future", .ref b)], rfl, by show 3 ≤ 15; decide, ?_⟩
    have em : mergeK [] [((.inr "state" : Key), V.ref s0), (.inr "past", .ref a), (.inr "future", .ref b)] = modL (.ref s0) a b := d3_m k_sp k_sf k_pf
    rw [em]
    have fq : upd F3 s0 (.lst []) q = none := e5.nf q4 (e3.wd.none hq)
    have e8 : Ev Tb (· = q) (upd F3 s0 (.lst [])) _ (upd F3 s0 (.lst [])) (upd (upd (upd (upd (upd H3 q (.dK [])) s0 (.lst [])) a (.lst [])) b (.lst [])) q (.dK (modL (.ref s0) a b))) := Ev.set e7.wd q7 fq (fun _ z => by cases z) (fun _ z => by cases z) rfl
    have e38 : Ev Tb S0 F3 H3 (upd F3 s0 (.lst [])) (upd (upd (upd (upd (upd H3 q (.dK [])) s0 (.lst [])) a (.lst [])) b (.lst [])) q (.dK (modL (.ref s0) a b))) := (((e4.trans0 e5).trans0 e6).trans0 e7).trans e8 (fun _ z => z) fun x hx => .inr (by rw [hx]; exact hq)
    have a3 : H3 a = none := e4.fr (e5.fr ha)
    have b3 : H3 b = none := e4.fr (e5.fr (e6.fr hb))
    have aq : a ≠ q := fun z => by rw [z, e5.kp q4] at ha; cases ha
    have bq : b ≠ q := fun z => by rw [z, e6.kp (e5.kp q4)] at hb; cases hb
    have ab : a ≠ b := ne_of_none a6 hb
    have md8 : ModelAt (upd F3 s0 (.lst [])) (upd (upd (upd (upd (upd H3 q (.dK [])) s0 (.lst [])) a (.lst [])) b (.lst [])) q (.dK (modL (.ref s0) a b))) q a b ⟨[], [], []⟩ :=
      ⟨.ref s0, [], [], upd_same, h5, by rw [upd_ne aq]; exact a7, by rw [upd_ne bq]; exact b7, .nil, .nil, fq, e5.wd.none ha, e6.wd.none hb, ab⟩
    obtain ⟨_, ⟨_, lc⟩, ⟨_, ld⟩⟩ := bd3.live
    have duo8 : Duo A (upd F3 s0 (.lst [])) (upd (upd (upd (upd (upd H3 q (.dK [])) s0 (.lst [])) a (.lst [])) b (.lst [])) q (.dK (modL (.ref s0) a b))) q a b p c d ⟨[], [], []⟩ :=
      ⟨md8, bd3.ev0 e38, fun z => (by rw [z, lc] at a3; cases a3), fun z => (by rw [z, ld] at a3; cases a3), fun z => (by rw [z, lc] at b3; cases b3), fun z => (by rw [z, ld] at b3; cases b3)⟩
    have hp8 := (hp2.ev e3 (fun z => z)).ev e38 (fun z => z)
    have hv8 := (e3.trans0 e38).dt hv
    refine ⟨_, _, _, rfl, ?_⟩
    have mv0 : MV ⟨[], [], []⟩ := ⟨SV.nil, fun x hx => absurd hx (by simp), fun x hx => absurd hx (by simp)⟩
    -- the first play
    refine ⟨_, rfl, _, rfl, _, rfl, _, rfl, _, pen, cells, n2, v, ks, rfl, e38.wd, hp8, by show n2 + 300 ≤ 600000; omega, hv8, l5, hks, fun F9 H9 r9 its n9 e9 hp9 hn9 ok9 hr9 => ?_⟩
    have nb9 : n9 ≤ n2 + 300 := hn9
    have po := pen_out hp8 duo8
    have duo9 := duo8.ev e9 po
    have po9 := pen_out hp9 duo9
    refine ⟨_, q, a, b, p, c, d, _, its, r9, rfl, e9.wd, duo9, hr9, ok9, mv0, by simp, fun F10 H10 b10 d10 g10 => ⟨_, rfl, itF rfl ?_⟩⟩
    have kp10 := play_kept 0 its ⟨[], [], []⟩ ok9 mv0
    have len10 := kp10.len
    have its30 := ok9.1
    have len10' : (play 0 its ⟨[], [], []⟩).1.past.length + (play 0 its ⟨[], [], []⟩).1.fut.length ≤ 30 := by
      have z : ([] : List Bst).length + ([] : List Bst).length + its.length ≤ 30 := by simp; omega
      exact Nat.le_trans len10 z
    have hp10 := hp9.ev g10.e fun z => po9 _ z rfl
    have hv10 := g10.e.dt (e9.dt hv8)
    unfold tNext
    dsimp only
    refine tSeq_ ?_
    refine ⟨2, rfl, by decide, by decide, ?_⟩
    refine for_range (lo := 0) (n := 2) (LawPv A Tb q pen p cells (.ref a0) v ks) ⟨F10, a, b10, c, d10, _, n9, none, none, none, none, none, none, none, rfl, g10.e.wd, hp10, by omega, hv10, g10.duo, kp10.v, by omega⟩ ?_ ?_
    · rintro i σ H' hi ⟨F', a', b', c', d', m, n, c2, c6, c7, c8, c9, c10, c11, rfl, W1, hpn, hn, hvv, duo, mv, hlen⟩
      have sB2 : seenB 2 = 55860 := by decide
      refine ⟨_, rfl, _, rfl, F', pen, cells, n, v, ks, rfl, W1, hpn, by show n + 6300 ≤ 600000; omega, hvv, l5, hks, fun F1 H1 r1 its n1 e1 hp1 hn1 ok1 hr1 => ?_⟩
      have nb1 : n1 ≤ n + 6300 := hn1
      have po := pen_out hpn duo
      have duo1 := duo.ev e1 po
      refine ⟨_, rfl, szN (n := 4) (by decide), fun z hz => ?_⟩
      obtain ⟨e2, h2⟩ := new_lst (S := S0) e1.wd hz (DTs.ofStrs (F := F1) ends)
      refine ⟨_, pen, cells, n1, .ref z, _, rfl, e2.wd, hp1.ev e2 (fun z => z), by omega, pk_strs ends h2 (by decide) (by decide), fun F3 H3 r3 d3 n3 e3 hp3 hn3 hR3 hr3 => ?_⟩
      obtain ⟨e, he, rfl⟩ := hR3
      obtain rfl := hr3.strV
      have duo2 := duo1.ev0 e2
      have duo3 := duo2.ev e3 (pen_out (hp1.ev e2 (fun z => z)) duo2)
      have hr1' := (e2.to0.then e3).dt hr1
      have eok := ends_ok e he
      refine ⟨sz0, fun k1 hk1 => ?_⟩
      have e4 : Ev Tb S0 F3 H3 F3 (upd H3 k1 (.lst [])) := Ev.new e3.wd hk1
      refine ⟨sz0, fun k2 hk2 => ?_⟩
      have e5 : Ev Tb S0 F3 (upd H3 k1 (.lst [])) F3 (upd (upd H3 k1 (.lst [])) k2 (.lst [])) := Ev.new e4.wd hk2
      have u1 : upd H3 k1 (.lst []) k1 = some (.lst []) := upd_same
      have u2 : upd (upd H3 k1 (.lst [])) k2 (.lst []) k2 = some (.lst []) := upd_same
      refine ⟨szN (n := 4) (by decide), fun t ht => ?_⟩
      have e6 : Ev Tb S0 F3 (upd (upd H3 k1 (.lst [])) k2 (.lst [])) F3 (upd (upd (upd H3 k1 (.lst [])) k2 (.lst [])) t (.tup [r1, .str e, .ref k1, .ref k2])) := Ev.new e5.wd ht
      have e46 := (e4.trans0 e5).trans0 e6
      refine ⟨t, _, rfl, SqT.of upd_same, rfl, _, _, rfl, _, _, rfl, _, _, rfl, _, _, rfl, rfl, ?_⟩
      have duo6 := duo3.ev0 e46
      have k12 : k1 ≠ k2 := ne_of_none u1 hk2
      have k20 : H3 k2 = none := e4.fr hk2
      have n1' : ∀ x, dS q a' b' p c' d' x → x ≠ k1 := fun x hx z => duo3.some_ x hx (by rw [z]; exact hk1)
      have n2' : ∀ x, dS q a' b' p c' d' x → x ≠ k2 := fun x hx z => duo3.some_ x hx (by rw [z]; exact k20)
      have s1 : SeenAt F3 (upd (upd (upd H3 k1 (.lst [])) k2 (.lst [])) t (.tup [r1, .str e, .ref k1, .ref k2])) k1 [] := ⟨[], e6.kp (e5.kp u1), .nil, e3.wd.none hk1⟩
      have s2 : SeenAt F3 (upd (upd (upd H3 k1 (.lst [])) k2 (.lst [])) t (.tup [r1, .str e, .ref k1, .ref k2])) k2 [] := ⟨[], e6.kp u2, .nil, e3.wd.none k20⟩
      have hp6 := hp3.ev e46 (fun z => z)
      have po6 := pen_out hp6 duo6
      -- the bench's
      refine ⟨_, rfl, _, rfl, _, rfl, _, rfl, F3, p, c', d', k2, m, [], its, e, r1, rfl, e6.wd, duo6.bd, s2, fun z => n2' _ (.inr (.inr (.inl rfl))) z.symm, fun z => n2' _ (.inr (.inr (.inr rfl))) z.symm, hr1', ok1, mv, by omega, by rw [sB2]; simp, eok, fun F7 H7 d7 r7 g7 hr7 => ?_⟩
      -- the model's
      have sm1 : ∀ x, (mS q a' b' x ∨ x = k1) → ¬ pS k2 (mS p c' d') x := by
        intro x hx z
        rcases z with z | z
        · rcases hx with hx | hx
          · exact n2' x (.inl hx) z
          · exact k12 (hx.symm.trans z)
        · rcases hx with hx | hx
          · exact duo6.sep x hx z
          · exact n1' x (.inr z) hx
      have md7 := duo6.md.ev g7.e (sm1 _ (.inl (.inl rfl))) (sm1 _ (.inl (.inr (.inl rfl)))) (sm1 _ (.inl (.inr (.inr rfl))))
      have s17 := s1.ev g7.e (sm1 _ (.inr rfl))
      refine ⟨_, rfl, _, rfl, _, rfl, _, rfl, _, rfl, F7, q, a', b', k1, m, [], its, e, r1, rfl, g7.e.wd, md7, s17, fun z => n1' _ (.inl (.inr (.inl rfl))) z.symm, fun z => n1' _ (.inl (.inr (.inr rfl))) z.symm, g7.e.dt hr1', ok1, mv, by omega, by rw [sB2]; simp, eok, fun F8 H8 b8 r8 g8 hr8 => ?_⟩
      obtain ⟨duo8, sn8⟩ := duo_go2 duo6 e6.wd n1' n2' k12 s1 g7 g8
      have ps := play_sees 2 its ⟨m.st, [], []⟩ ok1 mv.fresh
      have kp := play_kept 2 its ⟨m.st, [], []⟩ ok1 mv.fresh
      have kc : Kept m (called (play 2) m its e).1 1 := close_kept mv kp.v
      have she : Sh 1 (obsD (called (play 2) m its e).2.2) := close_obs _ _
      refine ⟨_, _, DT.dp g8.e.wd.sub _ _ (g8.e.dt hr7), DT.dp g8.e.wd.sub _ _ hr8, she.shaped (by decide), she.shaped (by decide), _, rfl, ?_⟩
      rw [eqv_refl _ she.lay]
      refine itF rfl ?_
      have sh := sh_seen ps.1
      obtain ⟨z1, hz1⟩ := g8.sn
      obtain ⟨z2, hz2⟩ := sn8
      rw [List.nil_append] at hz1 hz2
      refine ⟨_, rfl, _, rfl, .list ((play 2 its ⟨m.st, [], []⟩).2.map obsD), .list ((play 2 its ⟨m.st, [], []⟩).2.map obsD), .lst (SqL.of hz2.hl) (DTs.dp g8.e.wd.sub _ _ hz2.hx), .lst (SqL.of hz1.hl) (DTs.dp g8.e.wd.sub _ _ hz1.hx), sh.shaped (by decide), sh.shaped (by decide), _, rfl, ?_⟩
      rw [eqv_refl _ sh.lay]
      refine itF rfl ?_
      have hp8 := (hp6.ev g7.e fun z => by
        rcases z with z | z
        · obtain ⟨cc, l, e9, _, _⟩ := hp6
          rw [z, e6.kp u2] at e9
          cases e9
        · exact po6 _ (.inr z) rfl).ev g8.e fun z => by
        rcases z with z | z
        · obtain ⟨cc, l, e9, _, _⟩ := hp6
          rw [z, e6.kp (e5.kp u1)] at e9
          cases e9
        · exact po6 _ (.inl z) rfl
      have hv8 := g8.e.dt (g7.e.dt (e46.dt (e3.dt (e2.dt (e1.dt hvv)))))
      have mv8 := kc.v
      have len8 := kc.len
      generalize (called (play 2) m its e).1 = m8 at *
      obtain ⟨v9, xs9, ys9, hm9⟩ := id duo8.md
      dsimp only
      refine ⟨_, rfl, _, rfl, q, v9, rfl, ModelX.g0 hm9.hq, F8, p, c', d7, m8, v9, rfl, g8.e.wd, duo8.bd, hm9.hv, mv8.st, fun F9 H9 e9 => ⟨_, rfl, itF rfl ?_⟩⟩
      have duo9 := duo8.ev0 e9
      have hp9 := hp8.ev e9 (fun z => z)
      dsimp only
      refine ⟨sz2, fun t1 ht1 => ⟨sz1, fun l1 hl1 => ?_⟩⟩
      have e10 : Ev Tb S0 F9 H9 (upd F9 t1 (.tup [V.str "undo", .int 0])) (upd H9 t1 (.tup [V.str "undo", .int 0])) := Ev.frz e9.wd ht1
      have e11 : Ev Tb S0 (upd F9 t1 (.tup [V.str "undo", .int 0])) _ (upd F9 t1 (.tup [V.str "undo", .int 0])) (upd (upd H9 t1 (.tup [V.str "undo", .int 0])) l1 (.lst [.ref t1])) := Ev.new e10.wd hl1
      have ft1 : upd F9 t1 (.tup [V.str "undo", .int 0]) t1 = some (.tup [V.str "undo", .int 0]) := upd_same
      have ul1 : upd (upd H9 t1 (.tup [V.str "undo", .int 0])) l1 (.lst [.ref t1]) l1 = some (.lst [.ref t1]) := upd_same
      have hp11 := (hp9.ev e10 (fun z => z)).ev e11 (fun z => z)
      have l1p : l1 ≠ pen := fun z => by
        obtain ⟨cc, l, e9, _, _⟩ := hp11
        rw [← z, ul1] at e9
        cases e9
      refine ⟨_, rfl, _, pen, cells, n3, 4, rfl, e11.wd, hp11, by omega, by decide, by decide, fun F12 H12 x12 n12 e12 hp12 hn12 x0 x1 => ?_⟩
      have duo12 := ((duo9.ev0 e10).ev0 e11).ev e12 (pen_out hp11 ((duo9.ev0 e10).ev0 e11))
      refine ⟨l1, x12, [.ref t1], rfl, rfl, e12.kp ul1 l1p, by omega, by omega, szN (by rw [List.length_singleton]; omega), fun w1 hw1 => ?_⟩
      obtain ⟨e13, d13⟩ := rep_fin (T := Tb) (it := .undo) (k := x12) (by rw [itemD]) e12.wd (e12.mono _ _ (e11.mono _ _ ft1)) hw1
      have u13 : upd F12 w1 (.lst (List.replicate x12.toNat [V.ref t1]).flatten) w1 = some (.lst (List.replicate x12.toNat [V.ref t1]).flatten) := upd_same
      have hp13 := hp12.ev e13 (fun z => z)
      have duo13 := duo12.ev0 e13
      refine ⟨sz2, fun t2 ht2 => ⟨sz1, fun l2 hl2 => ?_⟩⟩
      have e14 : Ev Tb S0 _ _ (upd (upd F12 w1 (.lst (List.replicate x12.toNat [V.ref t1]).flatten)) t2 (.tup [V.str "redo", .int 0])) (upd (upd H12 w1 (.lst (List.replicate x12.toNat [V.ref t1]).flatten)) t2 (.tup [V.str "redo", .int 0])) := Ev.frz e13.wd ht2
      have e15 : Ev Tb S0 (upd (upd F12 w1 (.lst (List.replicate x12.toNat [V.ref t1]).flatten)) t2 (.tup [V.str "redo", .int 0])) _ (upd (upd F12 w1 (.lst (List.replicate x12.toNat [V.ref t1]).flatten)) t2 (.tup [V.str "redo", .int 0])) (upd (upd (upd H12 w1 (.lst (List.replicate x12.toNat [V.ref t1]).flatten)) t2 (.tup [V.str "redo", .int 0])) l2 (.lst [.ref t2])) := Ev.new e14.wd hl2
      have ft2 : upd (upd F12 w1 (.lst (List.replicate x12.toNat [V.ref t1]).flatten)) t2 (.tup [V.str "redo", .int 0]) t2 = some (.tup [V.str "redo", .int 0]) := upd_same
      have ul2 : upd (upd (upd H12 w1 (.lst (List.replicate x12.toNat [V.ref t1]).flatten)) t2 (.tup [V.str "redo", .int 0])) l2 (.lst [.ref t2]) l2 = some (.lst [.ref t2]) := upd_same
      have hp15 := (hp13.ev e14 (fun z => z)).ev e15 (fun z => z)
      have duo15 := (duo13.ev0 e14).ev0 e15
      have l2p : l2 ≠ pen := fun z => by
        obtain ⟨cc, l, e9, _, _⟩ := hp15
        rw [← z, ul2] at e9
        cases e9
      refine ⟨_, rfl, _, pen, cells, n12, 4, rfl, e15.wd, hp15, by omega, by decide, by decide, fun F16 H16 x16 n16 e16 hp16 hn16 y0 y1 => ?_⟩
      have duo16 := duo15.ev e16 (pen_out hp15 duo15)
      refine ⟨l2, x16, [.ref t2], rfl, rfl, e16.kp ul2 l2p, by omega, by omega, szN (by rw [List.length_singleton]; omega), fun w2 hw2 => ?_⟩
      obtain ⟨e17, d17⟩ := rep_fin (T := Tb) (it := .redo) (k := x16) (by rw [itemD]) e16.wd (e16.mono _ _ (e15.mono _ _ ft2)) hw2
      have u17 : upd F16 w2 (.lst (List.replicate x16.toNat [V.ref t2]).flatten) w2 = some (.lst (List.replicate x16.toNat [V.ref t2]).flatten) := upd_same
      have duo17 := duo16.ev0 e17
      have hp17 := hp16.ev e17 (fun z => z)
      have m1617 : Ev Tb (· = pen) _ _ _ _ := ((e14.trans0 e15).to0 (S := (· = pen))).then (e16.trans0 e17)
      have d13' := m1617.dts d13
      refine ⟨w1, w2, _, _, rfl, rfl, e17.wd.sub _ _ (m1617.mono _ _ u13), e17.wd.sub _ _ u17, szN (by rw [d13.length, d17.length, List.length_map, List.length_map, List.length_replicate, List.length_replicate]; omega), fun D hD => ?_⟩
      have dd := d13'.append d17
      rw [← List.map_append] at dd
      obtain ⟨e18, h18⟩ := new_lst (S := S0) e17.wd hD dd
      have duo18 := duo17.ev0 e18
      have okw := (ways_ok (x := x12.toNat) (y := x16.toNat) (by omega)).1
      refine ⟨_, rfl, _, rfl, _, rfl, _, q, a', b8, p, c', d7, m8, _, .ref D, rfl, e18.wd, duo18, h18, okw, mv8, by omega, fun F19 H19 b19 d19 g19 => ⟨_, rfl, itF rfl ?_⟩⟩
      have kp19 := play_kept 0 _ m8 okw mv8
      have len19 := kp19.len
      have l30 := okw.1
      have hp19 := (hp17.ev e18 (fun z => z)).ev g19.e fun z => pen_out (hp17.ev e18 (fun z => z)) duo18 _ z rfl
      have hv19 := g19.e.dt (e18.dt (m1617.dt (e13.dt (e12.dt (e11.dt (e10.dt (e9.dt hv8)))))))
      exact ⟨F19, a', b19, c', d19, _, n16, _, _, _, _, _, _, _, rfl, g19.e.wd, hp19, by omega, hv19, g19.duo, kp19.v, by omega⟩
    · rintro σ H' ⟨F', a', b', c', d', m, n, c2, c6, c7, c8, c9, c10, c11, rfl, W1, hpn, hn, hvv, duo, mv, hlen⟩
      refine ⟨_, rfl, _, rfl, ?_⟩
      refine ⟨sz2, fun t1 ht1 => ⟨sz1, fun l1 hl1 => ?_⟩⟩
      have e10 : Ev Tb S0 F' H' (upd F' t1 (.tup [V.str "redo", .int 0])) (upd H' t1 (.tup [V.str "redo", .int 0])) := Ev.frz W1 ht1
      have e11 : Ev Tb S0 (upd F' t1 (.tup [V.str "redo", .int 0])) _ (upd F' t1 (.tup [V.str "redo", .int 0])) (upd (upd H' t1 (.tup [V.str "redo", .int 0])) l1 (.lst [.ref t1])) := Ev.new e10.wd hl1
      have ft1 : upd F' t1 (.tup [V.str "redo", .int 0]) t1 = some (.tup [V.str "redo", .int 0]) := upd_same
      have ul1 : upd (upd H' t1 (.tup [V.str "redo", .int 0])) l1 (.lst [.ref t1]) l1 = some (.lst [.ref t1]) := upd_same
      refine ⟨l1, 3, [.ref t1], rfl, rfl, ul1, by omega, by omega, szN (by show 1 * 3 ≤ 1000000; decide), fun w1 hw1 => ?_⟩
      obtain ⟨e13, d13⟩ := rep_fin (T := Tb) (it := .redo) (k := 3) (by rw [itemD]) e11.wd (e11.mono _ _ ft1) hw1
      have u13 : upd (upd F' t1 (.tup [V.str "redo", .int 0])) w1 (.lst (List.replicate (3 : Int).toNat [V.ref t1]).flatten) w1 = some (.lst (List.replicate (3 : Int).toNat [V.ref t1]).flatten) := upd_same
      refine ⟨sz2, fun t2 ht2 => ⟨sz1, fun l2 hl2 => ?_⟩⟩
      have e14 : Ev Tb S0 _ _ (upd (upd (upd F' t1 (.tup [V.str "redo", .int 0])) w1 (.lst (List.replicate (3 : Int).toNat [V.ref t1]).flatten)) t2 (.tup [V.str "undo", .int 0])) (upd (upd (upd (upd H' t1 (.tup [V.str "redo", .int 0])) l1 (.lst [.ref t1])) w1 (.lst (List.replicate (3 : Int).toNat [V.ref t1]).flatten)) t2 (.tup [V.str "undo", .int 0])) := Ev.frz e13.wd ht2
      have e15 : Ev Tb S0 (upd (upd (upd F' t1 (.tup [V.str "redo", .int 0])) w1 (.lst (List.replicate (3 : Int).toNat [V.ref t1]).flatten)) t2 (.tup [V.str "undo", .int 0])) _ (upd (upd (upd F' t1 (.tup [V.str "redo", .int 0])) w1 (.lst (List.replicate (3 : Int).toNat [V.ref t1]).flatten)) t2 (.tup [V.str "undo", .int 0])) (upd (upd (upd (upd (upd H' t1 (.tup [V.str "redo", .int 0])) l1 (.lst [.ref t1])) w1 (.lst (List.replicate (3 : Int).toNat [V.ref t1]).flatten)) t2 (.tup [V.str "undo", .int 0])) l2 (.lst [.ref t2])) := Ev.new e14.wd hl2
      have ft2 : upd (upd (upd F' t1 (.tup [V.str "redo", .int 0])) w1 (.lst (List.replicate (3 : Int).toNat [V.ref t1]).flatten)) t2 (.tup [V.str "undo", .int 0]) t2 = some (.tup [V.str "undo", .int 0]) := upd_same
      refine ⟨l2, 24, [.ref t2], rfl, rfl, upd_same, by omega, by omega, szN (by show 1 * 24 ≤ 1000000; decide), fun w2 hw2 => ?_⟩
      obtain ⟨e17, d17⟩ := rep_fin (T := Tb) (it := .undo) (k := 24) (by rw [itemD]) e15.wd (e15.mono _ _ ft2) hw2
      have e1417 := (e14.trans0 e15).trans0 e17
      have d13' := e1417.dts d13
      refine ⟨w1, w2, _, _, rfl, rfl, e17.wd.sub _ _ (e1417.mono _ _ u13), upd_same, szN (by rw [d13.length, d17.length]; decide), fun D hD => ?_⟩
      have dd := d13'.append d17
      rw [← List.map_append] at dd
      obtain ⟨e18, h18⟩ := new_lst (S := S0) e17.wd hD dd
      have eall := (((e10.trans0 e11).trans0 e13).trans0 e1417).trans0 e18
      have okw := (ways_ok (x := (3 : Int).toNat) (y := (24 : Int).toNat) (by decide)).2
      exact ⟨_, q, a', b', p, c', d', m, _, .ref D, rfl, e18.wd, duo.ev0 eall, h18, okw, mv, by omega, fun F19 H19 b19 d19 g19 => k H19⟩
end
end K64
/-! ## KH0 -/
set_option Elab.async false
set_option linter.all false
set_option maxRecDepth 100000
set_option maxHeartbeats 2000000
namespace K64
open PySem PySem.Spec PyProof.Rows L2
/-! ### checks of the written part, by one Bool each -/
/-- an own exception over ValueError -/
def oexB (K : PySem.W.Frag) (C : Addr) : Bool := match K.lookup C with
  | some ⟨.type "type", _, .cls cd, sl⟩ => (match cd.mro, sl.toList with
    | .ref C' :: bm, [_, _, _, _, some (.builtin n), _] => C' == C && (n == "ValueError.__new__" && (!cd.hasDel && (cd.hasDict && PySem.HandSPX.refsVE bm)))
    | _, _ => false)
  | _ => false
theorem oexB_ok {K : PySem.W.Frag} {C : Addr} (q : oexB K C = true) : ∃ nm q N bs bm sn sub ab col dd k0 k1 k2 k3 k5, K.lookup C = some (excClassObj nm q C N bs bm true sn sub ab col dd k0 k1 k2 k3 k5 "ValueError.__new__") ∧ PySem.HandSPX.refsVE bm = true := by
  unfold oexB at q
  split at q
  · rename_i dd cd sl ho
    split at q
    · rename_i C' bm k0 k1 k2 k3 n k5 hm hs
      simp only [Bool.and_eq_true, beq_iff_eq, Bool.not_eq_true'] at q
      obtain ⟨e1, e2, h1, h2, h3⟩ := q
      obtain ⟨nm, bs, mro, ns, qn, hd, sn, sub, ab, col, del⟩ := cd
      obtain ⟨l⟩ := sl
      dsimp only at hm hs h1 h2
      subst e1 e2 hm hs h1 h2
      exact ⟨nm, qn, ns, bs, bm, sn, sub, ab, col, dd, k0, k1, k2, k3, k5, ho, h3⟩
    · cases q
  · cases q
/-- an exception's __init__: its closure holds the class's cell, its code object names the file -/
abbrev FnC : Type := Option (Str × Str × Arguments × FuncBody × Scope × Addr × List Str × Addr)
def fnC (K : PySem.W.Frag) (a : Addr) : FnC := match K.lookup a with
  | some ⟨_, _, .func fd, _⟩ => some (fd.name, fd.qualname, fd.params, fd.body, fd.scope, fd.globals, fd.closure.map (·.1), fd.builtins)
  | _ => none
def cellB (K : PySem.W.Frag) (C : Addr) : List (Str × Addr) → Bool
  | [(_, cc)] => (match K.lookup cc with
    | some ⟨_, _, .cell (some (.ref C')), _⟩ => C' == C
    | _ => false)
  | _ => false
def fileB (K : PySem.W.Frag) (file : Str) (qual : Str) : Value → Bool
  | .ref cda => PySem.W.codeIn K (.ref cda) qual && (match K.lookup cda with
    | some ⟨_, _, .fields vs, _⟩ => (match (vs[2]? : Option Value) with
      | some (.str f _) => file == f
      | _ => false)
    | _ => false)
  | _ => false
def nonB : Value → Bool
  | .none => true
  | _ => false
def xfnB (K : PySem.W.Frag) (C : Addr) (file qual : Str) (a : Addr) : Bool := match K.lookup a with
  | some ⟨_, _, .func fd, _⟩ => nonB fd.defaults && (cellB K C fd.closure && fileB K file qual fd.code)
  | _ => false
theorem xfnB_ok {K : PySem.W.Frag} {C a : Addr} {file x qual : Str} {params : Arguments} {body : List Stmt} {scope : Scope} (e : fnC K a = some (x, qual, params, FuncBody.stmts body, scope, mainGlobals, [("__class__" : Str)], builtinsNs)) (q : xfnB K C file qual a = true) :
    ∃ (oc doc pm kV ct : Value) (od an : Option Addr) (osl : Array (Option Value)) (cda cc : Addr), K.lookup a = some ⟨oc, od, .func (PySem.W.fnX x qual params body scope [("__class__", cc)] .none kV doc pm an (.ref cda) ct), osl⟩ ∧ PySem.W.codeIn K (.ref cda) qual = true ∧
    (∃ ccl cdd vs ccs file' tf, K.lookup cda = some ⟨ccl, cdd, .fields vs, ccs⟩ ∧ vs[2]? = some (.str file' tf) ∧ (file == file') = true) ∧ ∃ cl cld csl, K.lookup cc = some ⟨cl, cld, .cell (some (.ref C)), csl⟩ := by
  unfold xfnB at q
  unfold fnC at e
  cases h : K.lookup a with
  | none =>
    rw [h] at q
    cases q
  | some o =>
    obtain ⟨oc, od, dt, osl⟩ := o
    rw [h] at q e
    cases dt with
    | func fd =>
      obtain ⟨n1, n2, n3, n4, n5, n6, n7, n8, n9, n10, n11, n12, n13, n14, n15⟩ := fd
      have e2 : (some (n1, n2, n3, n4, n5, n6, n7.map (·.1), n15) : FnC) = some (x, qual, params, FuncBody.stmts body, scope, mainGlobals, [("__class__" : Str)], builtinsNs) := e
      simp only [Option.some.injEq, Prod.mk.injEq] at e2
      obtain ⟨h1, h2, h3, h4, h5, h6, h7, h8⟩ := e2
      subst h1 h2 h3 h4 h5 h6 h8
      have q2 : (nonB n8 && (cellB K C n7 && fileB K file n2 n13)) = true := q
      obtain ⟨q3, q4⟩ := He.ba q2
      obtain ⟨q5, q6⟩ := He.ba q4
      cases n8 with
      | none =>
        match n7, h7, q5 with
        | [(y, cc)], h7, q5 =>
          have ey : y = ("__class__" : Str) := by simpa using h7
          subst ey
          cases n13 with
          | ref cda =>
            obtain ⟨q7, q8⟩ := He.ba (show (PySem.W.codeIn K (.ref cda) n2 && (match K.lookup cda with
              | some ⟨_, _, .fields vs, _⟩ => (match (vs[2]? : Option Value) with
                | some (.str f _) => file == f
                | _ => false)
              | _ => false)) = true from q6)
            refine ⟨oc, n10, n11, n9, n14, od, n12, osl, cda, cc, rfl, q7, ?_, ?_⟩
            · split at q8
              · rename_i o1 o2 vs o3 hl
                split at q8
                · rename_i f tf hv
                  exact ⟨_, _, vs, _, f, tf, hl, hv, q8⟩
                · cases q8
              · cases q8
            · have q9 : (match K.lookup cc with
                | some ⟨_, _, .cell (some (.ref C')), _⟩ => C' == C
                | _ => false) = true := q5
              split at q9
              · rename_i o1 o2 C' o3 hl
                rw [beq_iff_eq] at q9
                rw [q9] at hl
                exact ⟨_, _, _, hl⟩
              · cases q9
          | _ => cases q6
      | _ => cases q3
    | _ => cases q
end K64
/-! ## KH1 -/
set_option Elab.async false
set_option linter.all false
set_option maxRecDepth 100000
set_option maxHeartbeats 0
namespace K64
open PySem PySem.Spec PyProof.Rows L2
def fa0 : List He.Fa := [.glo "law", .glo "remainder", .glo "is_rest_text", .glo "is_step_text", .glo "inverse_text", .glo "inverted", .glo "is_name", .glo "written_text", .glo "_law_word", .glo "_law_pool", .glo "_law_put_in", .glo "_law_steps_of", .glo "_law_chain_due", .glo "_law_due", .glo "_law_do", .glo "_law_deed", .glo "_law_state_text", .glo "_law_bench_right", .glo "_law_pen", .glo "_law_draw", .glo "_law_pick", .glo "_law_kinds", .glo "_law_step", .glo "_law_steps", .glo "_law_text", .glo "_law_program_text", .glo "_law_inverse", .glo "_law_inverted", .glo "_law_items", .glo "_law_play", .glo "_law_called", .glo "_law_taken_back", .glo "_law_done_again", .glo "_law_model_step", .glo "_law_model_play", .glo "_law_model_called", .glo "_law_model_first", .glo "Program"]
def fa1 : List He.Fa := [.glo "Step", .glo "Bench", .glo "TooMany", .glo "BadName", .glo "NoName", .glo "NothingToUndo", .glo "NothingToRedo", .glo "PLAIN", .glo "SHIFTED", .glo "SHIFT_TEXTS"]
def fa2 : List He.Fa := [.free "int", .free "len", .free "str", .free "abs", .free "range", .free "list", .free "tuple", .free "isinstance", .free "iter", .free "all", .free "enumerate", .free "KeyError", .free "super", .int "MOST_STEPS" 5, .int "MOST_DEALS" 2, .int "MOST_NAMES" 20, .int "MOST_LETTERS" 12, .str "BETWEEN" " then ", .str "LETTERS" "abcdefghijklmnopqrstuvwxyz", .cls "Bench", .cls "Program", .cls "Step", .noat "Bench" "programs", .noat "Bench" "past", .noat "Bench" "future", .noat "Program" "text", .noat "Program" "steps", .noat "Step" "text", .noat "Step" "kind", .noat "Step" "by", .noat "Step" "rest"]
def fa3 : List He.Fa := [.meth "Program" "__eq__", .meth "Program" "__invert__", .meth "Bench" "__contains__", .meth "Bench" "__len__", .meth "Bench" "__iter__", .meth "Bench" "__getitem__", .meth "Bench" "__setitem__", .meth "Bench" "settle", .meth "Bench" "drop", .meth "Bench" "turn_back", .meth "Bench" "chain", .meth "Bench" "undo", .meth "Bench" "redo", .meth "Bench" "at_once", .meth "Bench" "written", .mkr "Bench", .mkr "Program", .mkr "Step"]
def faAll : List He.Fa := fa0 ++ fa1 ++ fa2 ++ fa3
def lo1 : List Str := [("_wall" : Str), ("WordsError" : Str), ("BadText" : Str), ("BadStep" : Str), ("BadNumber" : Str), ("BadSize" : Str), ("BadBits" : Str), ("TooMany" : Str), ("NothingToUndo" : Str), ("BadName" : Str), ("NoName" : Str), ("BadLine" : Str), ("NothingToRedo" : Str), ("is_integer" : Str), ("remainder" : Str), ("SHIFT_TEXTS" : Str), ("PLAIN" : Str), ("SHIFTED" : Str), ("MOVES" : Str), ("FLIPS" : Str), ("LONGEST_WORD" : Str), ("is_rest_text" : Str), ("is_step_text" : Str), ("check_bits" : Str), ("Step" : Str), ("inverse_text" : Str), ("done_step" : Str), ("neighbours" : Str), ("place_before" : Str), ("is_flipped" : Str), ("MOST_STEPS" : Str), ("MOST_DEALS" : Str), ("BETWEEN" : Str), ("Program" : Str), ("joined" : Str), ("inverted" : Str), ("MOST_NAMES" : Str), ("MOST_LETTERS" : Str)]
def lo2 : List Str := [("LETTERS" : Str), ("is_name" : Str), ("program_of" : Str), ("programs_of" : Str), ("Bench" : Str), ("written_text" : Str), ("_law_word" : Str), ("_law_pool" : Str), ("_law_put_in" : Str), ("_law_steps_of" : Str), ("_law_chain_due" : Str), ("_law_due" : Str), ("_law_do" : Str), ("_law_deed" : Str), ("_law_state_text" : Str), ("_law_bench_right" : Str), ("_law_pen" : Str), ("_law_draw" : Str), ("_law_pick" : Str), ("_law_kinds" : Str), ("_law_step" : Str), ("_law_steps" : Str), ("_law_text" : Str), ("_law_program_text" : Str), ("_law_inverse" : Str), ("_law_inverted" : Str), ("_law_items" : Str), ("_law_play" : Str), ("_law_called" : Str), ("_law_taken_back" : Str), ("_law_done_again" : Str), ("_law_model_step" : Str), ("_law_model_play" : Str), ("_law_model_called" : Str), ("_law_model_first" : Str)]
def loose : List Str := lo1 ++ lo2
def chks0 (K : PySem.W.Frag) : List Bool := [oexB K (He.ga K "TooMany"), He.eqO (PySem.W.findIn K (.ref (He.ga K "TooMany")) "__setattr__") (some (some (.builtin "object.__setattr__"))), He.eqO (PySem.W.findIn K (.ref (He.ga K "TooMany")) "__init__") (some (some (.ref (He.ma K (He.ga K "TooMany") "__init__")))), decide (PySem.W.typeIn K (.ref (He.ma K (He.ga K "TooMany") "__init__")) = some (.type "function")), PySem.W.keepIn K (.ref (He.ga K "TooMany")), decide (PySem.W.subIn K (.ref (He.ga K "TooMany")) (.type "BaseException") = some true), decide (PySem.W.typeIn K (.ref (He.ga K "TooMany")) = some (.type "type")), decide (PySem.W.subIn K (.ref (He.ga K "TooMany")) (.type "ValueError") = some true), decide (PySem.W.mroIn K (He.ga K "TooMany") (.ref (He.ga K "TooMany")) = some true), He.eqO (PySem.W.ks_superIn K (He.ga K "TooMany") (He.ga K "TooMany") "__init__") (some (some (.builtin "ValueError.__init__"))), xfnB K (He.ga K "TooMany") (PySem.Challenge.pw_allwordlengths_k64_whole_deeds_at_once.main.file : Str) "TooMany.__init__" (He.ma K (He.ga K "TooMany") "__init__"), He.eqO (PySem.W.findIn K (.ref (He.ga K "TooMany")) "__getattribute__") (some (some (.builtin "BaseException.__getattribute__"))), He.eqO (PySem.W.findIn K (.ref (He.ga K "TooMany")) "__getattr__") (some none), PySem.W.hasDictIn K (He.ga K "TooMany"), He.eqO (PySem.W.findIn K (.ref (He.ga K "TooMany")) "most") (some none), oexB K (He.ga K "BadName"), He.eqO (PySem.W.findIn K (.ref (He.ga K "BadName")) "__setattr__") (some (some (.builtin "object.__setattr__"))), He.eqO (PySem.W.findIn K (.ref (He.ga K "BadName")) "__init__") (some (some (.ref (He.ma K (He.ga K "BadName") "__init__")))), decide (PySem.W.typeIn K (.ref (He.ma K (He.ga K "BadName") "__init__")) = some (.type "function")), PySem.W.keepIn K (.ref (He.ga K "BadName")), decide (PySem.W.subIn K (.ref (He.ga K "BadName")) (.type "BaseException") = some true), decide (PySem.W.typeIn K (.ref (He.ga K "BadName")) = some (.type "type")), decide (PySem.W.subIn K (.ref (He.ga K "BadName")) (.type "ValueError") = some true), decide (PySem.W.mroIn K (He.ga K "BadName") (.ref (He.ga K "BadName")) = some true), He.eqO (PySem.W.ks_superIn K (He.ga K "BadName") (He.ga K "BadName") "__init__") (some (some (.builtin "ValueError.__init__"))), xfnB K (He.ga K "BadName") (PySem.Challenge.pw_allwordlengths_k64_whole_deeds_at_once.main.file : Str) "BadName.__init__" (He.ma K (He.ga K "BadName") "__init__"), He.eqO (PySem.W.findIn K (.ref (He.ga K "BadName")) "__getattribute__") (some (some (.builtin "BaseException.__getattribute__"))), He.eqO (PySem.W.findIn K (.ref (He.ga K "BadName")) "__getattr__") (some none), PySem.W.hasDictIn K (He.ga K "BadName"), He.eqO (PySem.W.findIn K (.ref (He.ga K "BadName")) "name") (some none)]
def chks1 (K : PySem.W.Frag) : List Bool := [oexB K (He.ga K "NoName"), He.eqO (PySem.W.findIn K (.ref (He.ga K "NoName")) "__setattr__") (some (some (.builtin "object.__setattr__"))), He.eqO (PySem.W.findIn K (.ref (He.ga K "NoName")) "__init__") (some (some (.ref (He.ma K (He.ga K "NoName") "__init__")))), decide (PySem.W.typeIn K (.ref (He.ma K (He.ga K "NoName") "__init__")) = some (.type "function")), PySem.W.keepIn K (.ref (He.ga K "NoName")), decide (PySem.W.subIn K (.ref (He.ga K "NoName")) (.type "BaseException") = some true), decide (PySem.W.typeIn K (.ref (He.ga K "NoName")) = some (.type "type")), decide (PySem.W.subIn K (.ref (He.ga K "NoName")) (.type "ValueError") = some true), decide (PySem.W.mroIn K (He.ga K "NoName") (.ref (He.ga K "NoName")) = some true), He.eqO (PySem.W.ks_superIn K (He.ga K "NoName") (He.ga K "NoName") "__init__") (some (some (.builtin "ValueError.__init__"))), xfnB K (He.ga K "NoName") (PySem.Challenge.pw_allwordlengths_k64_whole_deeds_at_once.main.file : Str) "NoName.__init__" (He.ma K (He.ga K "NoName") "__init__"), He.eqO (PySem.W.findIn K (.ref (He.ga K "NoName")) "__getattribute__") (some (some (.builtin "BaseException.__getattribute__"))), He.eqO (PySem.W.findIn K (.ref (He.ga K "NoName")) "__getattr__") (some none), PySem.W.hasDictIn K (He.ga K "NoName"), He.eqO (PySem.W.findIn K (.ref (He.ga K "NoName")) "name") (some none), oexB K (He.ga K "NothingToUndo"), He.eqO (PySem.W.findIn K (.ref (He.ga K "NothingToUndo")) "__setattr__") (some (some (.builtin "object.__setattr__"))), He.eqO (PySem.W.findIn K (.ref (He.ga K "NothingToUndo")) "__init__") (some (some (.ref (He.ma K (He.ga K "NothingToUndo") "__init__")))), decide (PySem.W.typeIn K (.ref (He.ma K (He.ga K "NothingToUndo") "__init__")) = some (.type "function")), PySem.W.keepIn K (.ref (He.ga K "NothingToUndo")), decide (PySem.W.subIn K (.ref (He.ga K "NothingToUndo")) (.type "BaseException") = some true), decide (PySem.W.typeIn K (.ref (He.ga K "NothingToUndo")) = some (.type "type")), decide (PySem.W.subIn K (.ref (He.ga K "NothingToUndo")) (.type "ValueError") = some true), decide (PySem.W.mroIn K (He.ga K "NothingToUndo") (.ref (He.ga K "NothingToUndo")) = some true), He.eqO (PySem.W.ks_superIn K (He.ga K "NothingToUndo") (He.ga K "NothingToUndo") "__init__") (some (some (.builtin "ValueError.__init__"))), xfnB K (He.ga K "NothingToUndo") (PySem.Challenge.pw_allwordlengths_k64_whole_deeds_at_once.main.file : Str) "NothingToUndo.__init__" (He.ma K (He.ga K "NothingToUndo") "__init__"), oexB K (He.ga K "NothingToRedo"), He.eqO (PySem.W.findIn K (.ref (He.ga K "NothingToRedo")) "__setattr__") (some (some (.builtin "object.__setattr__"))), He.eqO (PySem.W.findIn K (.ref (He.ga K "NothingToRedo")) "__init__") (some (some (.ref (He.ma K (He.ga K "NothingToRedo") "__init__")))), decide (PySem.W.typeIn K (.ref (He.ma K (He.ga K "NothingToRedo") "__init__")) = some (.type "function"))]
def chks2 (K : PySem.W.Frag) : List Bool := [PySem.W.keepIn K (.ref (He.ga K "NothingToRedo")), decide (PySem.W.subIn K (.ref (He.ga K "NothingToRedo")) (.type "BaseException") = some true), decide (PySem.W.typeIn K (.ref (He.ga K "NothingToRedo")) = some (.type "type")), decide (PySem.W.subIn K (.ref (He.ga K "NothingToRedo")) (.type "ValueError") = some true), decide (PySem.W.mroIn K (He.ga K "NothingToRedo") (.ref (He.ga K "NothingToRedo")) = some true), He.eqO (PySem.W.ks_superIn K (He.ga K "NothingToRedo") (He.ga K "NothingToRedo") "__init__") (some (some (.builtin "ValueError.__init__"))), xfnB K (He.ga K "NothingToRedo") (PySem.Challenge.pw_allwordlengths_k64_whole_deeds_at_once.main.file : Str) "NothingToRedo.__init__" (He.ma K (He.ga K "NothingToRedo") "__init__"), He.eqO (PySem.W.nsIn K cStatics "thirdparty.any") (some none), PySem.W.fnIn K (He.ma K (He.ga K "Bench") "__getitem__"), PySem.W.noSeq K (He.ga K "Bench"), He.eqO (PySem.W.findIn K (.ref (He.ga K "Program")) "__ne__") (some (some (.builtin "object.__ne__"))), decide (PySem.W.subIn K (.ref (He.ga K "Program")) (.type "object") = some true), decide (PySem.W.kitOne K (.ref (He.ga K "Program")) (.ref (He.ga K "Program")) = some true), decide (PySem.W.kitOne K (.ref (He.ga K "Step")) (.ref (He.ga K "Step")) = some true), He.eqO (PySem.W.findIn K (.ref (He.ga K "Program")) "__class__") (some (some (.builtin "object.__class__"))), He.eqO (PySem.W.findIn K (.ref (He.ga K "Step")) "__class__") (some (some (.builtin "object.__class__"))), decide (PySem.W.mroIn K (He.ga K "Program") (.type "object") = some true), decide (PySem.W.mroIn K (He.ga K "Step") (.type "object") = some true), He.eqO (PySem.W.specialIn K (.builtin "object.__class__") "__get__") (some (some (.builtin "getset_descriptor.__get__"))), decide (PySem.W.takesIn K (.builtin "object.__class__") = some true), decide (PySem.W.exmOne K (.ref (He.ga K "TooMany")) (.ref (He.ga K "TooMany")) = some true), decide (PySem.W.exmOne K (.ref (He.ga K "NoName")) (.ref (He.ga K "NoName")) = some true), decide (PySem.W.exmOne K (.ref (He.ga K "TooMany")) (.ref (He.ga K "NoName")) = some false), decide (PySem.W.exmOne K (.ref (He.ga K "BadName")) (.ref (He.ga K "BadName")) = some true), decide (PySem.W.exmOne K (.ref (He.ga K "BadName")) (.type "KeyError") = some false), decide (PySem.W.exmOne K (.ref (He.ga K "NothingToUndo")) (.ref (He.ga K "NothingToUndo")) = some true), decide (PySem.W.exmOne K (.ref (He.ga K "NothingToRedo")) (.ref (He.ga K "NothingToRedo")) = some true), PySem.W.readsIn K (He.ga K "Program") (.type "type"), He.eqO (PySem.W.specialIn K (.ref (He.ga K "Program")) "__getattribute__") (some (some (.builtin "type.__getattribute__"))), He5.wrapB K (He.ga K "Program") "classmethod" "classmethod.__get__" "of"]
def chks3 (K : PySem.W.Frag) : List Bool := [PySem.W.fnIn K (He5.wf K (He.ga K "Program") "classmethod" "of"), He.tupB K "PLAIN" (plainK.map He.Dv.str), He.tupB K "SHIFTED" (shiftK.map He.Dv.str), He.tupB K "SHIFT_TEXTS" (shiftT.map He.Dv.str)]
def chks (K : PySem.W.Frag) : List Bool := chks0 K ++ chks1 K ++ chks2 K ++ chks3 K
def exK (K : PySem.W.Frag) : Bool := (chks K).all id
theorem chk_at {K : PySem.W.Frag} (h : exK K = true) (i : Nat) {b : Bool} (hb : (chks K)[i]? = some b := by rfl) : b = true := List.all_eq_true.mp h b (List.mem_of_getElem? hb)
end K64
/-! ## KH2 -/
set_option Elab.async false
set_option linter.all false
set_option maxRecDepth 100000
set_option maxHeartbeats 0
namespace K64
open PySem PySem.Spec PyProof.Rows L2
def fnL0 : List He5.DefA := [⟨fun K => He.ga K "remainder", "remainder", "remainder", defArgs s_remainder, defBody s_remainder, defScope s_remainder, [], []⟩, ⟨fun K => He.ga K "is_rest_text", "is_rest_text", "is_rest_text", defArgs s_is_rest_text, defBody s_is_rest_text, defScope s_is_rest_text, [], []⟩, ⟨fun K => He.ga K "is_step_text", "is_step_text", "is_step_text", defArgs s_is_step_text, defBody s_is_step_text, defScope s_is_step_text, [], []⟩, ⟨fun K => He.ma K (He.ga K "Step") "__init__", "__init__", "Step.__init__", defArgs s_Step_init, defBody s_Step_init, defScope s_Step_init, [], []⟩, ⟨fun K => He.ga K "inverse_text", "inverse_text", "inverse_text", defArgs s_inverse_text, defBody s_inverse_text, defScope s_inverse_text, [], []⟩, ⟨fun K => He.ma K (He.ga K "Program") "__init__", "__init__", "Program.__init__", defArgs s_Program_init, defBody s_Program_init, defScope s_Program_init, [], []⟩, ⟨fun K => He5.wf K (He.ga K "Program") "classmethod" "of", "of", "Program.of", defArgs s_Program_of, defBody s_Program_of, defScope s_Program_of, [], []⟩, ⟨fun K => He.ma K (He.ga K "Program") "__eq__", "__eq__", "Program.__eq__", defArgs s_Program_eq, defBody s_Program_eq, defScope s_Program_eq, [], []⟩, ⟨fun K => He.ma K (He.ga K "Program") "__invert__", "__invert__", "Program.__invert__", defArgs s_Program_invert, defBody s_Program_invert, defScope s_Program_invert, [], []⟩, ⟨fun K => He.ga K "inverted", "inverted", "inverted", defArgs s_inverted, defBody s_inverted, defScope s_inverted, [], []⟩, ⟨fun K => He.ga K "is_name", "is_name", "is_name", defArgs s_is_name, defBody s_is_name, defScope s_is_name, [], []⟩, ⟨fun K => He.ma K (He.ga K "Bench") "__init__", "__init__", "Bench.__init__", defArgs s_Bench_init, defBody s_Bench_init, defScope s_Bench_init, [], []⟩, ⟨fun K => He.ma K (He.ga K "Bench") "__contains__", "__contains__", "Bench.__contains__", defArgs s_Bench_contains, defBody s_Bench_contains, defScope s_Bench_contains, [], []⟩, ⟨fun K => He.ma K (He.ga K "Bench") "__len__", "__len__", "Bench.__len__", defArgs s_Bench_len, defBody s_Bench_len, defScope s_Bench_len, [], []⟩, ⟨fun K => He.ma K (He.ga K "Bench") "__iter__", "__iter__", "Bench.__iter__", defArgs s_Bench_iter, defBody s_Bench_iter, defScope s_Bench_iter, [], []⟩, ⟨fun K => He.ma K (He.ga K "Bench") "__getitem__", "__getitem__", "Bench.__getitem__", defArgs s_Bench_getitem, defBody s_Bench_getitem, defScope s_Bench_getitem, [], []⟩, ⟨fun K => He.ma K (He.ga K "Bench") "__setitem__", "__setitem__", "Bench.__setitem__", defArgs s_Bench_setitem, defBody s_Bench_setitem, defScope s_Bench_setitem, [], []⟩, ⟨fun K => He.ma K (He.ga K "Bench") "settle", "settle", "Bench.settle", defArgs s_Bench_settle, defBody s_Bench_settle, defScope s_Bench_settle, [], []⟩, ⟨fun K => He.ma K (He.ga K "Bench") "drop", "drop", "Bench.drop", defArgs s_Bench_drop, defBody s_Bench_drop, defScope s_Bench_drop, [], []⟩, ⟨fun K => He.ma K (He.ga K "Bench") "turn_back", "turn_back", "Bench.turn_back", defArgs s_Bench_turn_back, defBody s_Bench_turn_back, defScope s_Bench_turn_back, [], []⟩]
def fnL1 : List He5.DefA := [⟨fun K => He.ma K (He.ga K "Bench") "chain", "chain", "Bench.chain", defArgs s_Bench_chain, defBody s_Bench_chain, defScope s_Bench_chain, [], []⟩, ⟨fun K => He.ma K (He.ga K "Bench") "undo", "undo", "Bench.undo", defArgs s_Bench_undo, defBody s_Bench_undo, defScope s_Bench_undo, [], []⟩, ⟨fun K => He.ma K (He.ga K "Bench") "redo", "redo", "Bench.redo", defArgs s_Bench_redo, defBody s_Bench_redo, defScope s_Bench_redo, [], []⟩, ⟨fun K => He.ma K (He.ga K "Bench") "at_once", "at_once", "Bench.at_once", defArgs s_Bench_at_once, defBody s_Bench_at_once, defScope s_Bench_at_once, [], []⟩, ⟨fun K => He.ma K (He.ga K "Bench") "written", "written", "Bench.written", defArgs s_Bench_written, defBody s_Bench_written, defScope s_Bench_written, [], []⟩, ⟨fun K => He.ga K "written_text", "written_text", "written_text", defArgs s_written_text, defBody s_written_text, defScope s_written_text, [], []⟩, ⟨fun K => He.ga K "_law_word", "_law_word", "_law_word", defArgs s__law_word, defBody s__law_word, defScope s__law_word, [], []⟩, ⟨fun K => He.ga K "_law_pool", "_law_pool", "_law_pool", defArgs s__law_pool, defBody s__law_pool, defScope s__law_pool, [], []⟩, ⟨fun K => He.ga K "_law_put_in", "_law_put_in", "_law_put_in", defArgs s__law_put_in, defBody s__law_put_in, defScope s__law_put_in, [], []⟩, ⟨fun K => He.ga K "_law_steps_of", "_law_steps_of", "_law_steps_of", defArgs s__law_steps_of, defBody s__law_steps_of, defScope s__law_steps_of, [], []⟩, ⟨fun K => He.ga K "_law_chain_due", "_law_chain_due", "_law_chain_due", defArgs s__law_chain_due, defBody s__law_chain_due, defScope s__law_chain_due, [], []⟩, ⟨fun K => He.ga K "_law_due", "_law_due", "_law_due", defArgs s__law_due, defBody s__law_due, defScope s__law_due, [], []⟩, ⟨fun K => He.ga K "_law_do", "_law_do", "_law_do", defArgs s__law_do, defBody s__law_do, defScope s__law_do, [], []⟩, ⟨fun K => He.ga K "_law_deed", "_law_deed", "_law_deed", defArgs s__law_deed, defBody s__law_deed, defScope s__law_deed, [], []⟩, ⟨fun K => He.ga K "_law_state_text", "_law_state_text", "_law_state_text", defArgs s__law_state_text, defBody s__law_state_text, defScope s__law_state_text, [], []⟩, ⟨fun K => He.ga K "_law_bench_right", "_law_bench_right", "_law_bench_right", defArgs s__law_bench_right, defBody s__law_bench_right, defScope s__law_bench_right, [], []⟩, ⟨fun K => He.ga K "_law_pen", "_law_pen", "_law_pen", defArgs s__law_pen, defBody s__law_pen, defScope s__law_pen, [], []⟩, ⟨fun K => He.ga K "_law_draw", "_law_draw", "_law_draw", defArgs s__law_draw, defBody s__law_draw, defScope s__law_draw, [], []⟩, ⟨fun K => He.ga K "_law_pick", "_law_pick", "_law_pick", defArgs s__law_pick, defBody s__law_pick, defScope s__law_pick, [], []⟩, ⟨fun K => He.ga K "_law_kinds", "_law_kinds", "_law_kinds", defArgs s__law_kinds, defBody s__law_kinds, defScope s__law_kinds, [], []⟩]
def fnL2 : List He5.DefA := [⟨fun K => He.ga K "_law_step", "_law_step", "_law_step", defArgs s__law_step, defBody s__law_step, defScope s__law_step, [], []⟩, ⟨fun K => He.ga K "_law_steps", "_law_steps", "_law_steps", defArgs s__law_steps, defBody s__law_steps, defScope s__law_steps, [], []⟩, ⟨fun K => He.ga K "_law_text", "_law_text", "_law_text", defArgs s__law_text, defBody s__law_text, defScope s__law_text, [], []⟩, ⟨fun K => He.ga K "_law_program_text", "_law_program_text", "_law_program_text", defArgs s__law_program_text, defBody s__law_program_text, defScope s__law_program_text, [], []⟩, ⟨fun K => He.ga K "_law_inverse", "_law_inverse", "_law_inverse", defArgs s__law_inverse, defBody s__law_inverse, defScope s__law_inverse, [], []⟩, ⟨fun K => He.ga K "_law_inverted", "_law_inverted", "_law_inverted", defArgs s__law_inverted, defBody s__law_inverted, defScope s__law_inverted, [], []⟩, ⟨fun K => He.ga K "_law_items", "_law_items", "_law_items", defArgs s__law_items, defBody s__law_items, defScope s__law_items, [], []⟩, ⟨fun K => He.ga K "_law_play", "_law_play", "_law_play", defArgs s__law_play, defBody s__law_play, defScope s__law_play, [], []⟩, ⟨fun K => He.ga K "_law_called", "_law_called", "_law_called", defArgs s__law_called, defBody s__law_called, defScope s__law_called, [], []⟩, ⟨fun K => He.ga K "_law_taken_back", "_law_taken_back", "_law_taken_back", defArgs s__law_taken_back, defBody s__law_taken_back, defScope s__law_taken_back, [], []⟩, ⟨fun K => He.ga K "_law_done_again", "_law_done_again", "_law_done_again", defArgs s__law_done_again, defBody s__law_done_again, defScope s__law_done_again, [], []⟩, ⟨fun K => He.ga K "_law_model_step", "_law_model_step", "_law_model_step", defArgs s__law_model_step, defBody s__law_model_step, defScope s__law_model_step, [], []⟩, ⟨fun K => He.ga K "_law_model_play", "_law_model_play", "_law_model_play", defArgs s__law_model_play, defBody s__law_model_play, defScope s__law_model_play, [], []⟩, ⟨fun K => He.ga K "_law_model_called", "_law_model_called", "_law_model_called", defArgs s__law_model_called, defBody s__law_model_called, defScope s__law_model_called, [], []⟩, ⟨fun K => He.ga K "_law_model_first", "_law_model_first", "_law_model_first", defArgs s__law_model_first, defBody s__law_model_first, defScope s__law_model_first, [], []⟩, ⟨fun K => He.ga K "law", "law", "law", defArgs s_law, defBody s_law, defScope s_law, [], []⟩]
def fnL : List He5.DefA := fnL0 ++ fnL1 ++ fnL2
def xNames : List Str := [("TooMany" : Str), ("BadName" : Str), ("NoName" : Str), ("NothingToUndo" : Str), ("NothingToRedo" : Str)]
def xVals : List FnC := [some ("__init__", "TooMany.__init__", xArgs "most" (xposOf e_TooMany), FuncBody.stmts (defBody e_TooMany), xScope "most", mainGlobals, [("__class__" : Str)], builtinsNs), some ("__init__", "BadName.__init__", xArgs "name" (xposOf e_BadName), FuncBody.stmts (defBody e_BadName), xScope "name", mainGlobals, [("__class__" : Str)], builtinsNs), some ("__init__", "NoName.__init__", xArgs "name" (xposOf e_NoName), FuncBody.stmts (defBody e_NoName), xScope "name", mainGlobals, [("__class__" : Str)], builtinsNs), some ("__init__", "NothingToUndo.__init__", xArgs0 (xposOf e_NothingToUndo), FuncBody.stmts (defBody e_NothingToUndo), xScope0, mainGlobals, [("__class__" : Str)], builtinsNs), some ("__init__", "NothingToRedo.__init__", xArgs0 (xposOf e_NothingToRedo), FuncBody.stmts (defBody e_NothingToRedo), xScope0, mainGlobals, [("__class__" : Str)], builtinsNs)]
def tfK : List He.Defn := [("_law_called", none)]
def xObs (K : PySem.W.Frag) : List FnC := xNames.map fun x => fnC K (He.ma K (He.ga K x) "__init__")
abbrev AlK : Type := (He.AlD × List FnC) × Bool
/-- the addresses that are looked at: the module's names, its functions' code and cells, its classes' names and their functions -/
def dvQ (g : Addr → Option Obj) (a : Addr) : List Addr := match g a with
  | some ⟨_, _, .dict es _, _⟩ => es.toList.flatMap fun e => He.refV e.val
  | _ => []
def nsQ (g : Addr → Option Obj) (a : Addr) : List Addr := match g a with
  | some ⟨_, _, .cls cd, _⟩ => [cd.ns]
  | _ => []
def inQ (g : Addr → Option Obj) (a : Addr) : List Addr := match g a with
  | some ⟨_, _, .fields vs, _⟩ => vs.toList.flatMap He.refV
  | _ => []
def cdQ (g : Addr → Option Obj) (a : Addr) : List Addr := match g a with
  | some ⟨_, _, .func fd, _⟩ => He.refV fd.code ++ fd.closure.map (·.2)
  | _ => []
/-- a list of addresses, written out -/
def frL {α : Type} : List Addr → (List Addr → α) → α
  | [], k => k []
  | a :: r, k => HandSHeadRun.frNat a fun a => frL r fun r => k (a :: r)
theorem frL_eq {α : Type} : ∀ (l : List Addr) (k : List Addr → α), frL l k = k l
  | [], _ => rfl
  | a :: r, k => by
    show HandSHeadRun.frNat a (fun a => frL r fun r => k (a :: r)) = _
    rw [HandSHeadRun.frNat_eq, frL_eq r]
def asQ (g : Addr → Option Obj) : List Addr :=
  frL (dvQ g mainGlobals) fun l1 => frL (l1.flatMap (nsQ g)) fun l2 => frL (l2.flatMap (dvQ g)) fun l3 => frL (l3.flatMap (inQ g)) fun l4 => frL ((l1 ++ (l3 ++ l4)).flatMap (cdQ g)) fun l5 => mainGlobals :: cStatics :: (l1 ++ (l2 ++ (l3 ++ (l4 ++ l5))))
def obsAt (g : Addr → Option Obj) (as : List Addr) : AlK := ((He5.obsA faAll fnL (He.frT g as), xObs (He.frT g as)), exK (He.frT g as) && He.tabsB g tfK (He.frT g as))
def obsK (g : Addr → Option Obj) : AlK := frL (asQ g) (obsAt g)
theorem obsK_at (g : Addr → Option Obj) : obsK g = obsAt g (asQ g) := frL_eq _ _
def valK : AlK := ((He5.valA fnL, xVals), true)
structure SaysK (h : Heap) (K : PySem.W.Frag) : Prop where
  a : He5.SaysA faAll fnL K
  x : xObs K = xVals
  more : exK K = true
  hd : ∀ p ∈ tfK, PySem.W.codeHdIn K (He.cT K p).1 (He.cT K p).2 = true
  out : ∀ p ∈ tfK, K.lookup (He.cT K p).2 = none
  empty : ∀ p ∈ tfK, h.get? (He.cT K p).2 = some { cls := .none, data := .fields #[] }
theorem saysK_of {h : Heap} (e0 : obsK h.get? = valK) : SaysK h (He.frT h.get? (asQ h.get?)) := by
  have e := (obsK_at h.get?).symm.trans e0
  have e1 : He5.obsA faAll fnL (He.frT h.get? (asQ h.get?)) = He5.valA fnL := congrArg (fun z : AlK => z.1.1) e
  have e2 : xObs (He.frT h.get? (asQ h.get?)) = xVals := congrArg (fun z : AlK => z.1.2) e
  have e3 : (exK (He.frT h.get? (asQ h.get?)) && He.tabsB h.get? tfK (He.frT h.get? (asQ h.get?))) = true := congrArg (fun z : AlK => z.2) e
  obtain ⟨h1, h2⟩ := He.ba e3
  have tab : ∀ p ∈ tfK, PySem.W.codeHdIn (He.frT h.get? (asQ h.get?)) (He.cT (He.frT h.get? (asQ h.get?)) p).1 (He.cT (He.frT h.get? (asQ h.get?)) p).2 = true ∧ ∃ o, h.get? (He.cT (He.frT h.get? (asQ h.get?)) p).2 = some o ∧ He.emptyTab o = true := by
    intro p hp
    obtain ⟨k1, k2⟩ := He.ba (List.all_eq_true.mp h2 p hp)
    refine ⟨k1, ?_⟩
    split at k2
    · rename_i o ho
      exact ⟨o, ho, k2⟩
    · cases k2
  refine ⟨e1, e2, h1, fun p hp => (tab p hp).1, fun p hp => ?_, fun p hp => ?_⟩
  · obtain ⟨_, o, ho, ht⟩ := tab p hp
    exact He.frT_none ho ht
  · obtain ⟨_, o, ho, ht⟩ := tab p hp
    rw [ho, He.emptyTab_eq ht]
def hookK : PySem.W.Hook where
  α := AlK
  obs := fun s => obsK s.heap.get?
  val := fun _ => valK
  says := fun _ h => ∃ K : PySem.W.Frag, K.In h ∧ SaysK h K
  of := fun _ _ e => ⟨_, He.frT_in, saysK_of e⟩
  keeps := fun _ _ _ ⟨K, hK, c⟩ k => ⟨K, PySem.W.Frag.In.keeps hK k, ⟨c.a, c.x, c.more, c.hd, c.out, fun p hp => k _ _ (c.empty p hp)⟩⟩
theorem obsK_eq {g : Addr → Option Obj} {s : Shared} (h : ∀ a, g a = s.heap.get? a) : obsK g = hookK.obs s := by
  have e : g = s.heap.get? := funext h
  rw [e]
  rfl
abbrev RR : PySem.W.OpenRow := PySem.W.OpenLaw.row PySem.Challenge.rw_allwordlengths_k64_whole_deeds_at_once
def ob (s : PySem.W.SharedT) : AlK := obsK (HandSHeadRun.getT s)
theorem ob_eq (s : PySem.W.SharedT) : ob s = hookK.obs s.abs := obsK_eq (HandSHeadRun.getT_eq s)
end K64
/-! ## KH3 -/
set_option Elab.async false
set_option linter.all false
set_option maxRecDepth 100000
set_option maxHeartbeats 0
namespace K64
open PySem PySem.Spec PyProof.Rows L2
abbrev qv : Program := PySem.W.view RR.prog [79]
/-- the state behind the top -/
noncomputable abbrev endK (w : World) (os : OsState) : Option PySem.W.SharedT := HandSHeadRun.endF (HandSHeadRun.stepQ (HandSHeadRun.denQ HandSHeadRun.tabQ) RR.prog w) 15000 RR.prog w os
/-- the head's run, looked at in three parts (each runs the top anew: less memory at a time) -/
theorem run1 (w : World) (os : OsState) : (endK w os).map (fun s => (HandSHeadRun.looksF RR.prog (PySem.W.boot_heap w.params) s.abs, HandSHeadRun.seenQ qv loose (importedModules RR.prog.main.body) (fun s => PySem.W.xlAt qv [] s && PySem.W.recOk RR.toRowW.records s) s.abs)) = some (true, PySem.W.openGood qv loose) := by
  kernel_rfl
theorem run2 (w : World) (os : OsState) : (endK w os).map (fun s => frL (asQ (HandSHeadRun.getT s)) fun as => He5.obsA faAll fnL (He.frT (HandSHeadRun.getT s) as)) = some (He5.valA fnL) := by
  kernel_rfl
theorem run3 (w : World) (os : OsState) : (endK w os).map (fun s => frL (asQ (HandSHeadRun.getT s)) fun as => (xObs (He.frT (HandSHeadRun.getT s) as), exK (He.frT (HandSHeadRun.getT s) as) && He.tabsB (HandSHeadRun.getT s) tfK (He.frT (HandSHeadRun.getT s) as))) = some (xVals, true) := by
  kernel_rfl
theorem run (w : World) : HandSHeadRun.RunEq RR qv hookK ob 15000 loose w := by
  intro os
  have e1 := run1 w os
  have e2 := run2 w os
  have e3 := run3 w os
  show (endK w os).map _ = _
  generalize endK w os = o at e1 e2 e3
  cases o with
  | none => cases e1
  | some s =>
    have e1' := Option.some.inj e1
    have e2' := (frL_eq _ _).symm.trans (Option.some.inj e2)
    have e3' := (frL_eq _ _).symm.trans (Option.some.inj e3)
    obtain ⟨a1, a2⟩ := Prod.mk.inj e1'
    obtain ⟨b1, b2⟩ := Prod.mk.inj e3'
    have eo : ob s = valK := (obsK_at _).trans (Prod.ext (Prod.ext e2' b1) b2)
    exact congrArg some (Prod.ext a1 (Prod.ext a2 eo))
end K64
/-! ## KH4 -/
set_option Elab.async false
set_option linter.all false
set_option maxRecDepth 100000
set_option maxHeartbeats 4000000
namespace K64
open PySem PySem.Spec PyProof.Rows L2
abbrev LW : PySem.W.OpenLaw := PySem.Challenge.rw_allwordlengths_k64_whole_deeds_at_once
theorem exm_KE {K : PySem.W.Frag} : PySem.W.exmOne K (.type "KeyError") (.type "KeyError") = some true := by kernel_rfl
theorem map_str (xs : List Str) (K : PySem.W.Frag) : (xs.map He.Dv.str).map (He.Dv.v K) = xs.map V.str := by
  rw [List.map_map]
  rfl
section
variable {K : PySem.W.Frag} {h : Heap} {mg : Str → Option Value}
theorem x_TM (X : K.In h) (G : h.Ns mainGlobals mg) (c : SaysK h K) : XCls LW.prog K mg "TooMany" (He.ga K "TooMany") (He.ma K (He.ga K "TooMany") "__init__") "TooMany.__init__" (xArgs "most" (xposOf e_TooMany)) [xSup "there are too many" (xposOf e_TooMany), xSto "most" (xposOf e_TooMany)] (xScope "most") := by
  have e : fnC K (He.ma K (He.ga K "TooMany") "__init__") = some (("__init__" : Str), ("TooMany.__init__" : Str), (xArgs "most" (xposOf e_TooMany)), FuncBody.stmts [xSup "there are too many" (xposOf e_TooMany), xSto "most" (xposOf e_TooMany)], (xScope "most"), mainGlobals, [("__class__" : Str)], builtinsNs) := by
    have q := congrArg (fun l => l[0]?) c.x
    rw [← form_TooMany.1]
    exact Option.some.inj q
  exact { gC := He.glo_ok X G (c.a.fact 40 (f := .glo "TooMany") rfl), cls := oexB_ok (chk_at c.more 0), sa := (He.eqO_ok (chk_at c.more 1)), iC := (He.eqO_ok (chk_at c.more 2)), tI := (of_decide_eq_true (chk_at c.more 3)), kC := (chk_at c.more 4), exC := (of_decide_eq_true (chk_at c.more 5)), tyC := (of_decide_eq_true (chk_at c.more 6)), veC := (of_decide_eq_true (chk_at c.more 7)), self := (of_decide_eq_true (chk_at c.more 8)), sup := (He.eqO_ok (chk_at c.more 9)), stat := (He.eqO_ok (chk_at c.more 67)), gS := He.eqO_ok (c.a.fact 60 (f := .free "super") rfl), top := by decide +kernel, fn := xfnB_ok e (chk_at c.more 10) }
theorem rd_TM (c : SaysK h K) : XRd K (He.ga K "TooMany") "most" := ⟨(He.eqO_ok (chk_at c.more 11)), (He.eqO_ok (chk_at c.more 12)), (of_decide_eq_true (chk_at c.more 5)), (chk_at c.more 13), (He.eqO_ok (chk_at c.more 14))⟩
theorem x_BN (X : K.In h) (G : h.Ns mainGlobals mg) (c : SaysK h K) : XCls LW.prog K mg "BadName" (He.ga K "BadName") (He.ma K (He.ga K "BadName") "__init__") "BadName.__init__" (xArgs "name" (xposOf e_BadName)) [xSup "the name is wrong" (xposOf e_BadName), xSto "name" (xposOf e_BadName)] (xScope "name") := by
  have e : fnC K (He.ma K (He.ga K "BadName") "__init__") = some (("__init__" : Str), ("BadName.__init__" : Str), (xArgs "name" (xposOf e_BadName)), FuncBody.stmts [xSup "the name is wrong" (xposOf e_BadName), xSto "name" (xposOf e_BadName)], (xScope "name"), mainGlobals, [("__class__" : Str)], builtinsNs) := by
    have q := congrArg (fun l => l[1]?) c.x
    rw [← form_BadName.1]
    exact Option.some.inj q
  exact { gC := He.glo_ok X G (c.a.fact 41 (f := .glo "BadName") rfl), cls := oexB_ok (chk_at c.more 15), sa := (He.eqO_ok (chk_at c.more 16)), iC := (He.eqO_ok (chk_at c.more 17)), tI := (of_decide_eq_true (chk_at c.more 18)), kC := (chk_at c.more 19), exC := (of_decide_eq_true (chk_at c.more 20)), tyC := (of_decide_eq_true (chk_at c.more 21)), veC := (of_decide_eq_true (chk_at c.more 22)), self := (of_decide_eq_true (chk_at c.more 23)), sup := (He.eqO_ok (chk_at c.more 24)), stat := (He.eqO_ok (chk_at c.more 67)), gS := He.eqO_ok (c.a.fact 60 (f := .free "super") rfl), top := by decide +kernel, fn := xfnB_ok e (chk_at c.more 25) }
theorem rd_BN (c : SaysK h K) : XRd K (He.ga K "BadName") "name" := ⟨(He.eqO_ok (chk_at c.more 26)), (He.eqO_ok (chk_at c.more 27)), (of_decide_eq_true (chk_at c.more 20)), (chk_at c.more 28), (He.eqO_ok (chk_at c.more 29))⟩
theorem x_NN (X : K.In h) (G : h.Ns mainGlobals mg) (c : SaysK h K) : XCls LW.prog K mg "NoName" (He.ga K "NoName") (He.ma K (He.ga K "NoName") "__init__") "NoName.__init__" (xArgs "name" (xposOf e_NoName)) [xSup "the name is not there" (xposOf e_NoName), xSto "name" (xposOf e_NoName)] (xScope "name") := by
  have e : fnC K (He.ma K (He.ga K "NoName") "__init__") = some (("__init__" : Str), ("NoName.__init__" : Str), (xArgs "name" (xposOf e_NoName)), FuncBody.stmts [xSup "the name is not there" (xposOf e_NoName), xSto "name" (xposOf e_NoName)], (xScope "name"), mainGlobals, [("__class__" : Str)], builtinsNs) := by
    have q := congrArg (fun l => l[2]?) c.x
    rw [← form_NoName.1]
    exact Option.some.inj q
  exact { gC := He.glo_ok X G (c.a.fact 42 (f := .glo "NoName") rfl), cls := oexB_ok (chk_at c.more 30), sa := (He.eqO_ok (chk_at c.more 31)), iC := (He.eqO_ok (chk_at c.more 32)), tI := (of_decide_eq_true (chk_at c.more 33)), kC := (chk_at c.more 34), exC := (of_decide_eq_true (chk_at c.more 35)), tyC := (of_decide_eq_true (chk_at c.more 36)), veC := (of_decide_eq_true (chk_at c.more 37)), self := (of_decide_eq_true (chk_at c.more 38)), sup := (He.eqO_ok (chk_at c.more 39)), stat := (He.eqO_ok (chk_at c.more 67)), gS := He.eqO_ok (c.a.fact 60 (f := .free "super") rfl), top := by decide +kernel, fn := xfnB_ok e (chk_at c.more 40) }
theorem rd_NN (c : SaysK h K) : XRd K (He.ga K "NoName") "name" := ⟨(He.eqO_ok (chk_at c.more 41)), (He.eqO_ok (chk_at c.more 42)), (of_decide_eq_true (chk_at c.more 35)), (chk_at c.more 43), (He.eqO_ok (chk_at c.more 44))⟩
theorem x_NU (X : K.In h) (G : h.Ns mainGlobals mg) (c : SaysK h K) : XCls LW.prog K mg "NothingToUndo" (He.ga K "NothingToUndo") (He.ma K (He.ga K "NothingToUndo") "__init__") "NothingToUndo.__init__" (xArgs0 (xposOf e_NothingToUndo)) [xSup "there is nothing to undo" (xposOf e_NothingToUndo)] xScope0 := by
  have e : fnC K (He.ma K (He.ga K "NothingToUndo") "__init__") = some (("__init__" : Str), ("NothingToUndo.__init__" : Str), (xArgs0 (xposOf e_NothingToUndo)), FuncBody.stmts [xSup "there is nothing to undo" (xposOf e_NothingToUndo)], xScope0, mainGlobals, [("__class__" : Str)], builtinsNs) := by
    have q := congrArg (fun l => l[3]?) c.x
    rw [← form_NothingToUndo.1]
    exact Option.some.inj q
  exact { gC := He.glo_ok X G (c.a.fact 43 (f := .glo "NothingToUndo") rfl), cls := oexB_ok (chk_at c.more 45), sa := (He.eqO_ok (chk_at c.more 46)), iC := (He.eqO_ok (chk_at c.more 47)), tI := (of_decide_eq_true (chk_at c.more 48)), kC := (chk_at c.more 49), exC := (of_decide_eq_true (chk_at c.more 50)), tyC := (of_decide_eq_true (chk_at c.more 51)), veC := (of_decide_eq_true (chk_at c.more 52)), self := (of_decide_eq_true (chk_at c.more 53)), sup := (He.eqO_ok (chk_at c.more 54)), stat := (He.eqO_ok (chk_at c.more 67)), gS := He.eqO_ok (c.a.fact 60 (f := .free "super") rfl), top := by decide +kernel, fn := xfnB_ok e (chk_at c.more 55) }
theorem x_NR (X : K.In h) (G : h.Ns mainGlobals mg) (c : SaysK h K) : XCls LW.prog K mg "NothingToRedo" (He.ga K "NothingToRedo") (He.ma K (He.ga K "NothingToRedo") "__init__") "NothingToRedo.__init__" (xArgs0 (xposOf e_NothingToRedo)) [xSup "there is nothing to do again" (xposOf e_NothingToRedo)] xScope0 := by
  have e : fnC K (He.ma K (He.ga K "NothingToRedo") "__init__") = some (("__init__" : Str), ("NothingToRedo.__init__" : Str), (xArgs0 (xposOf e_NothingToRedo)), FuncBody.stmts [xSup "there is nothing to do again" (xposOf e_NothingToRedo)], xScope0, mainGlobals, [("__class__" : Str)], builtinsNs) := by
    have q := congrArg (fun l => l[4]?) c.x
    rw [← form_NothingToRedo.1]
    exact Option.some.inj q
  exact { gC := He.glo_ok X G (c.a.fact 44 (f := .glo "NothingToRedo") rfl), cls := oexB_ok (chk_at c.more 56), sa := (He.eqO_ok (chk_at c.more 57)), iC := (He.eqO_ok (chk_at c.more 58)), tI := (of_decide_eq_true (chk_at c.more 59)), kC := (chk_at c.more 60), exC := (of_decide_eq_true (chk_at c.more 61)), tyC := (of_decide_eq_true (chk_at c.more 62)), veC := (of_decide_eq_true (chk_at c.more 63)), self := (of_decide_eq_true (chk_at c.more 64)), sup := (He.eqO_ok (chk_at c.more 65)), stat := (He.eqO_ok (chk_at c.more 67)), gS := He.eqO_ok (c.a.fact 60 (f := .free "super") rfl), top := by decide +kernel, fn := xfnB_ok e (chk_at c.more 66) }
end
end K64
/-! ## KH5 -/
set_option Elab.async false
set_option linter.all false
set_option maxRecDepth 100000
set_option maxHeartbeats 4000000
namespace K64
open PySem PySem.Spec PyProof.Rows L2
section
variable {K : PySem.W.Frag} {h : Heap} {mg : Str → Option Value}
theorem txt_of (X : K.In h) (G : h.Ns mainGlobals mg) (c : SaysK h K) : ∃ A : Ad, A.CB = He.ga K "Bench" ∧ A.CP = He.ga K "Program" ∧ A.CS = He.ga K "Step" ∧ Txt LW.prog K mg A := by
  obtain ⟨t1, g1⟩ := He.int_ok X G (c.a.fact 61 (f := .int "MOST_STEPS" 5) rfl)
  obtain ⟨t2, g2⟩ := He.int_ok X G (c.a.fact 62 (f := .int "MOST_DEALS" 2) rfl)
  obtain ⟨t3, g3⟩ := He.int_ok X G (c.a.fact 63 (f := .int "MOST_NAMES" 20) rfl)
  obtain ⟨t4, g4⟩ := He.int_ok X G (c.a.fact 64 (f := .int "MOST_LETTERS" 12) rfl)
  obtain ⟨t5, g5⟩ := He.str_ok X G (c.a.fact 65 (f := .str "BETWEEN" " then ") rfl)
  obtain ⟨t6, g6⟩ := He.str_ok X G (c.a.fact 66 (f := .str "LETTERS" "abcdefghijklmnopqrstuvwxyz") rfl)
  refine ⟨⟨(He.ga K "Bench"), (He.ga K "Program"), (He.ga K "Step"), t1, t2, t3, t4, t5, t6, He.ga K "PLAIN", He.ga K "SHIFTED", He.ga K "SHIFT_TEXTS", (He.ga K "TooMany"), (He.ga K "BadName"), (He.ga K "NoName"), (He.ga K "NothingToUndo"), (He.ga K "NothingToRedo"), He.ma K (He.ga K "TooMany") "__init__", He.ma K (He.ga K "BadName") "__init__", He.ma K (He.ga K "NoName") "__init__", He.ma K (He.ga K "NothingToUndo") "__init__", He.ma K (He.ga K "NothingToRedo") "__init__"⟩, rfl, rfl, rfl, ?_⟩
  exact {
    clB := He.cls_ok (c.a.fact 67 (f := .cls "Bench") rfl)
    clP := He.cls_ok (c.a.fact 68 (f := .cls "Program") rfl)
    clS := He.cls_ok (c.a.fact 69 (f := .cls "Step") rfl)
    nBp := He.noat_ok (c.a.fact 70 (f := .noat "Bench" "programs") rfl)
    nBa := He.noat_ok (c.a.fact 71 (f := .noat "Bench" "past") rfl)
    nBf := He.noat_ok (c.a.fact 72 (f := .noat "Bench" "future") rfl)
    nPt := He.noat_ok (c.a.fact 73 (f := .noat "Program" "text") rfl)
    nPs := He.noat_ok (c.a.fact 74 (f := .noat "Program" "steps") rfl)
    nSt := He.noat_ok (c.a.fact 75 (f := .noat "Step" "text") rfl)
    nSk := He.noat_ok (c.a.fact 76 (f := .noat "Step" "kind") rfl)
    nSb := He.noat_ok (c.a.fact 77 (f := .noat "Step" "by") rfl)
    nSr := He.noat_ok (c.a.fact 78 (f := .noat "Step" "rest") rfl)
    fiB := fun f hm => by
      have e := hm.at_
      have e2 := (He.meth_ok (c.a.fact 84 (f := .meth "Bench" "__getitem__") rfl)).at_
      rw [e2] at e
      cases e
      exact (chk_at c.more 68)
    nsB := (chk_at c.more 69)
    neP := (He.eqO_ok (chk_at c.more 70))
    tyP := (He.eqO_ok (chk_at c.more 74))
    tyS := (He.eqO_ok (chk_at c.more 75))
    gn := (He.eqO_ok (chk_at c.more 78))
    obP := (of_decide_eq_true (chk_at c.more 71))
    isP := (of_decide_eq_true (chk_at c.more 72))
    isS := (of_decide_eq_true (chk_at c.more 73))
    moP := (of_decide_eq_true (chk_at c.more 76))
    moS := (of_decide_eq_true (chk_at c.more 77))
    gt := (of_decide_eq_true (chk_at c.more 79))
    mTT := (of_decide_eq_true (chk_at c.more 80))
    mNN := (of_decide_eq_true (chk_at c.more 81))
    mTN := (of_decide_eq_true (chk_at c.more 82))
    mBB := (of_decide_eq_true (chk_at c.more 83))
    mBK := (of_decide_eq_true (chk_at c.more 84))
    mUU := (of_decide_eq_true (chk_at c.more 85))
    mRR := (of_decide_eq_true (chk_at c.more 86))
    mKK := exm_KE
    g_Program := He.glo_ok X G (c.a.fact 37 (f := .glo "Program") rfl)
    g_Step := He.glo_ok X G (c.a.fact 38 (f := .glo "Step") rfl)
    g_Bench := He.glo_ok X G (c.a.fact 39 (f := .glo "Bench") rfl)
    g_MOST_STEPS := g1
    g_MOST_DEALS := g2
    g_MOST_NAMES := g3
    g_MOST_LETTERS := g4
    g_BETWEEN := g5
    g_LETTERS := g6
    g_PLAIN := He.glo_ok X G (c.a.fact 45 (f := .glo "PLAIN") rfl)
    g_SHIFTED := He.glo_ok X G (c.a.fact 46 (f := .glo "SHIFTED") rfl)
    g_SHIFT_TEXTS := He.glo_ok X G (c.a.fact 47 (f := .glo "SHIFT_TEXTS") rfl)
    s_PLAIN := fun H => by
      have q := He.tupB_ok (chk_at c.more 91) H
      rw [map_str] at q
      exact q
    s_SHIFTED := fun H => by
      have q := He.tupB_ok (chk_at c.more 92) H
      rw [map_str] at q
      exact q
    s_SHIFT_TEXTS := fun H => by
      have q := He.tupB_ok (chk_at c.more 93) H
      rw [map_str] at q
      exact q
    z_int := He.free_ok X G (c.a.fact 48 (f := .free "int") rfl)
    z_len := He.free_ok X G (c.a.fact 49 (f := .free "len") rfl)
    z_str := He.free_ok X G (c.a.fact 50 (f := .free "str") rfl)
    z_abs := He.free_ok X G (c.a.fact 51 (f := .free "abs") rfl)
    z_range := He.free_ok X G (c.a.fact 52 (f := .free "range") rfl)
    z_list := He.free_ok X G (c.a.fact 53 (f := .free "list") rfl)
    z_tuple := He.free_ok X G (c.a.fact 54 (f := .free "tuple") rfl)
    z_isinstance := He.free_ok X G (c.a.fact 55 (f := .free "isinstance") rfl)
    z_iter := He.free_ok X G (c.a.fact 56 (f := .free "iter") rfl)
    z_all := He.free_ok X G (c.a.fact 57 (f := .free "all") rfl)
    z_enumerate := He.free_ok X G (c.a.fact 58 (f := .free "enumerate") rfl)
    z_KeyError := He.free_ok X G (c.a.fact 59 (f := .free "KeyError") rfl)
    x_TooMany := x_TM X G c
    x_BadName := x_BN X G c
    x_NoName := x_NN X G c
    x_NothingToUndo := x_NU X G c
    x_NothingToRedo := x_NR X G c
    rdT := rd_TM c
    rdB := rd_BN c
    rdN := rd_NN c
    crP := ⟨(chk_at c.more 87), (He.eqO_ok (chk_at c.more 88))⟩ }
theorem def_g (X : K.In h) (G : h.Ns mainGlobals mg) {x : Str} {st : Stmt} {kws : List (Str × V)} {fd : FuncData} (hg : (He.Fa.glo x).ok K = true) (F : FunD K x x (defArgs st) (defBody st) (defScope st) [] kws (He.ga K x) fd) : DefG K mg x st := ⟨_, _, He.glo_ok X G hg, He5.fun_of F⟩
theorem def_m {x m qual : Str} {st : Stmt} {kws : List (Str × V)} {fd : FuncData} (hm : (He.Fa.meth x m).ok K = true) (F : FunD K m qual (defArgs st) (defBody st) (defScope st) [] kws (He.ma K (He.ga K x) m) fd) : DefM K (He.ga K x) m qual st := ⟨_, _, He.meth_ok hm, He5.fun_of F⟩
theorem def_i (X : K.In h) (G : h.Ns mainGlobals mg) {x qual : Str} {st : Stmt} {kws : List (Str × V)} {fd : FuncData} (hg : (He.Fa.glo x).ok K = true) (hm : (He.Fa.mkr x).ok K = true) (F : FunD K "__init__" qual (defArgs st) (defBody st) (defScope st) [] kws (He.ma K (He.ga K x) "__init__") fd) : DefI K mg (He.ga K x) x qual st := ⟨_, _, He.glo_ok X G hg, He.mkr_ok hm, He5.fun_of F⟩
theorem dg_remainder (X : K.In h) (G : h.Ns mainGlobals mg) (c : SaysK h K) : DefG K mg "remainder" s_remainder := by
  obtain ⟨fd, F⟩ := c.a.def_ 0 (d := ⟨fun K => He.ga K "remainder", "remainder", "remainder", defArgs s_remainder, defBody s_remainder, defScope s_remainder, [], []⟩) rfl
  exact def_g X G (c.a.fact 1 (f := .glo "remainder") rfl) F
theorem dg_is_rest_text (X : K.In h) (G : h.Ns mainGlobals mg) (c : SaysK h K) : DefG K mg "is_rest_text" s_is_rest_text := by
  obtain ⟨fd, F⟩ := c.a.def_ 1 (d := ⟨fun K => He.ga K "is_rest_text", "is_rest_text", "is_rest_text", defArgs s_is_rest_text, defBody s_is_rest_text, defScope s_is_rest_text, [], []⟩) rfl
  exact def_g X G (c.a.fact 2 (f := .glo "is_rest_text") rfl) F
theorem dg_is_step_text (X : K.In h) (G : h.Ns mainGlobals mg) (c : SaysK h K) : DefG K mg "is_step_text" s_is_step_text := by
  obtain ⟨fd, F⟩ := c.a.def_ 2 (d := ⟨fun K => He.ga K "is_step_text", "is_step_text", "is_step_text", defArgs s_is_step_text, defBody s_is_step_text, defScope s_is_step_text, [], []⟩) rfl
  exact def_g X G (c.a.fact 3 (f := .glo "is_step_text") rfl) F
theorem dg_Step_init (X : K.In h) (G : h.Ns mainGlobals mg) (c : SaysK h K) : DefI K mg (He.ga K "Step") "Step" "Step.__init__" s_Step_init := by
  obtain ⟨fd, F⟩ := c.a.def_ 3 (d := ⟨fun K => He.ma K (He.ga K "Step") "__init__", "__init__", "Step.__init__", defArgs s_Step_init, defBody s_Step_init, defScope s_Step_init, [], []⟩) rfl
  exact def_i X G (c.a.fact 38 (f := .glo "Step") rfl) (c.a.fact 96 (f := .mkr "Step") rfl) F
theorem dg_inverse_text (X : K.In h) (G : h.Ns mainGlobals mg) (c : SaysK h K) : DefG K mg "inverse_text" s_inverse_text := by
  obtain ⟨fd, F⟩ := c.a.def_ 4 (d := ⟨fun K => He.ga K "inverse_text", "inverse_text", "inverse_text", defArgs s_inverse_text, defBody s_inverse_text, defScope s_inverse_text, [], []⟩) rfl
  exact def_g X G (c.a.fact 4 (f := .glo "inverse_text") rfl) F
theorem dg_Program_init (X : K.In h) (G : h.Ns mainGlobals mg) (c : SaysK h K) : DefI K mg (He.ga K "Program") "Program" "Program.__init__" s_Program_init := by
  obtain ⟨fd, F⟩ := c.a.def_ 5 (d := ⟨fun K => He.ma K (He.ga K "Program") "__init__", "__init__", "Program.__init__", defArgs s_Program_init, defBody s_Program_init, defScope s_Program_init, [], []⟩) rfl
  exact def_i X G (c.a.fact 37 (f := .glo "Program") rfl) (c.a.fact 95 (f := .mkr "Program") rfl) F
theorem dg_Program_of (c : SaysK h K) : DefC K (He.ga K "Program") "of" "Program.of" s_Program_of := by
  obtain ⟨fd, F⟩ := c.a.def_ 6 (d := ⟨fun K => He5.wf K (He.ga K "Program") "classmethod" "of", "of", "Program.of", defArgs s_Program_of, defBody s_Program_of, defScope s_Program_of, [], []⟩) rfl
  exact ⟨_, _, fd, He5.cmet_of (chk_at c.more 89) (chk_at c.more 90), He5.fun_of F⟩
theorem dg_Program_eq (c : SaysK h K) : DefM K (He.ga K "Program") "__eq__" "Program.__eq__" s_Program_eq := by
  obtain ⟨fd, F⟩ := c.a.def_ 7 (d := ⟨fun K => He.ma K (He.ga K "Program") "__eq__", "__eq__", "Program.__eq__", defArgs s_Program_eq, defBody s_Program_eq, defScope s_Program_eq, [], []⟩) rfl
  exact def_m (c.a.fact 79 (f := .meth "Program" "__eq__") rfl) F
theorem dg_Program_invert (c : SaysK h K) : DefM K (He.ga K "Program") "__invert__" "Program.__invert__" s_Program_invert := by
  obtain ⟨fd, F⟩ := c.a.def_ 8 (d := ⟨fun K => He.ma K (He.ga K "Program") "__invert__", "__invert__", "Program.__invert__", defArgs s_Program_invert, defBody s_Program_invert, defScope s_Program_invert, [], []⟩) rfl
  exact def_m (c.a.fact 80 (f := .meth "Program" "__invert__") rfl) F
theorem dg_inverted (X : K.In h) (G : h.Ns mainGlobals mg) (c : SaysK h K) : DefG K mg "inverted" s_inverted := by
  obtain ⟨fd, F⟩ := c.a.def_ 9 (d := ⟨fun K => He.ga K "inverted", "inverted", "inverted", defArgs s_inverted, defBody s_inverted, defScope s_inverted, [], []⟩) rfl
  exact def_g X G (c.a.fact 5 (f := .glo "inverted") rfl) F
theorem dg_is_name (X : K.In h) (G : h.Ns mainGlobals mg) (c : SaysK h K) : DefG K mg "is_name" s_is_name := by
  obtain ⟨fd, F⟩ := c.a.def_ 10 (d := ⟨fun K => He.ga K "is_name", "is_name", "is_name", defArgs s_is_name, defBody s_is_name, defScope s_is_name, [], []⟩) rfl
  exact def_g X G (c.a.fact 6 (f := .glo "is_name") rfl) F
theorem dg_Bench_init (X : K.In h) (G : h.Ns mainGlobals mg) (c : SaysK h K) : DefI K mg (He.ga K "Bench") "Bench" "Bench.__init__" s_Bench_init := by
  obtain ⟨fd, F⟩ := c.a.def_ 11 (d := ⟨fun K => He.ma K (He.ga K "Bench") "__init__", "__init__", "Bench.__init__", defArgs s_Bench_init, defBody s_Bench_init, defScope s_Bench_init, [], []⟩) rfl
  exact def_i X G (c.a.fact 39 (f := .glo "Bench") rfl) (c.a.fact 94 (f := .mkr "Bench") rfl) F
theorem dg_Bench_contains (c : SaysK h K) : DefM K (He.ga K "Bench") "__contains__" "Bench.__contains__" s_Bench_contains := by
  obtain ⟨fd, F⟩ := c.a.def_ 12 (d := ⟨fun K => He.ma K (He.ga K "Bench") "__contains__", "__contains__", "Bench.__contains__", defArgs s_Bench_contains, defBody s_Bench_contains, defScope s_Bench_contains, [], []⟩) rfl
  exact def_m (c.a.fact 81 (f := .meth "Bench" "__contains__") rfl) F
theorem dg_Bench_len (c : SaysK h K) : DefM K (He.ga K "Bench") "__len__" "Bench.__len__" s_Bench_len := by
  obtain ⟨fd, F⟩ := c.a.def_ 13 (d := ⟨fun K => He.ma K (He.ga K "Bench") "__len__", "__len__", "Bench.__len__", defArgs s_Bench_len, defBody s_Bench_len, defScope s_Bench_len, [], []⟩) rfl
  exact def_m (c.a.fact 82 (f := .meth "Bench" "__len__") rfl) F
theorem dg_Bench_iter (c : SaysK h K) : DefM K (He.ga K "Bench") "__iter__" "Bench.__iter__" s_Bench_iter := by
  obtain ⟨fd, F⟩ := c.a.def_ 14 (d := ⟨fun K => He.ma K (He.ga K "Bench") "__iter__", "__iter__", "Bench.__iter__", defArgs s_Bench_iter, defBody s_Bench_iter, defScope s_Bench_iter, [], []⟩) rfl
  exact def_m (c.a.fact 83 (f := .meth "Bench" "__iter__") rfl) F
theorem dg_Bench_getitem (c : SaysK h K) : DefM K (He.ga K "Bench") "__getitem__" "Bench.__getitem__" s_Bench_getitem := by
  obtain ⟨fd, F⟩ := c.a.def_ 15 (d := ⟨fun K => He.ma K (He.ga K "Bench") "__getitem__", "__getitem__", "Bench.__getitem__", defArgs s_Bench_getitem, defBody s_Bench_getitem, defScope s_Bench_getitem, [], []⟩) rfl
  exact def_m (c.a.fact 84 (f := .meth "Bench" "__getitem__") rfl) F
theorem dg_Bench_setitem (c : SaysK h K) : DefM K (He.ga K "Bench") "__setitem__" "Bench.__setitem__" s_Bench_setitem := by
  obtain ⟨fd, F⟩ := c.a.def_ 16 (d := ⟨fun K => He.ma K (He.ga K "Bench") "__setitem__", "__setitem__", "Bench.__setitem__", defArgs s_Bench_setitem, defBody s_Bench_setitem, defScope s_Bench_setitem, [], []⟩) rfl
  exact def_m (c.a.fact 85 (f := .meth "Bench" "__setitem__") rfl) F
theorem dg_Bench_settle (c : SaysK h K) : DefM K (He.ga K "Bench") "settle" "Bench.settle" s_Bench_settle := by
  obtain ⟨fd, F⟩ := c.a.def_ 17 (d := ⟨fun K => He.ma K (He.ga K "Bench") "settle", "settle", "Bench.settle", defArgs s_Bench_settle, defBody s_Bench_settle, defScope s_Bench_settle, [], []⟩) rfl
  exact def_m (c.a.fact 86 (f := .meth "Bench" "settle") rfl) F
theorem dg_Bench_drop (c : SaysK h K) : DefM K (He.ga K "Bench") "drop" "Bench.drop" s_Bench_drop := by
  obtain ⟨fd, F⟩ := c.a.def_ 18 (d := ⟨fun K => He.ma K (He.ga K "Bench") "drop", "drop", "Bench.drop", defArgs s_Bench_drop, defBody s_Bench_drop, defScope s_Bench_drop, [], []⟩) rfl
  exact def_m (c.a.fact 87 (f := .meth "Bench" "drop") rfl) F
theorem dg_Bench_turn_back (c : SaysK h K) : DefM K (He.ga K "Bench") "turn_back" "Bench.turn_back" s_Bench_turn_back := by
  obtain ⟨fd, F⟩ := c.a.def_ 19 (d := ⟨fun K => He.ma K (He.ga K "Bench") "turn_back", "turn_back", "Bench.turn_back", defArgs s_Bench_turn_back, defBody s_Bench_turn_back, defScope s_Bench_turn_back, [], []⟩) rfl
  exact def_m (c.a.fact 88 (f := .meth "Bench" "turn_back") rfl) F
theorem dg_Bench_chain (c : SaysK h K) : DefM K (He.ga K "Bench") "chain" "Bench.chain" s_Bench_chain := by
  obtain ⟨fd, F⟩ := c.a.def_ 20 (d := ⟨fun K => He.ma K (He.ga K "Bench") "chain", "chain", "Bench.chain", defArgs s_Bench_chain, defBody s_Bench_chain, defScope s_Bench_chain, [], []⟩) rfl
  exact def_m (c.a.fact 89 (f := .meth "Bench" "chain") rfl) F
theorem dg_Bench_undo (c : SaysK h K) : DefM K (He.ga K "Bench") "undo" "Bench.undo" s_Bench_undo := by
  obtain ⟨fd, F⟩ := c.a.def_ 21 (d := ⟨fun K => He.ma K (He.ga K "Bench") "undo", "undo", "Bench.undo", defArgs s_Bench_undo, defBody s_Bench_undo, defScope s_Bench_undo, [], []⟩) rfl
  exact def_m (c.a.fact 90 (f := .meth "Bench" "undo") rfl) F
theorem dg_Bench_redo (c : SaysK h K) : DefM K (He.ga K "Bench") "redo" "Bench.redo" s_Bench_redo := by
  obtain ⟨fd, F⟩ := c.a.def_ 22 (d := ⟨fun K => He.ma K (He.ga K "Bench") "redo", "redo", "Bench.redo", defArgs s_Bench_redo, defBody s_Bench_redo, defScope s_Bench_redo, [], []⟩) rfl
  exact def_m (c.a.fact 91 (f := .meth "Bench" "redo") rfl) F
theorem dg_Bench_at_once (c : SaysK h K) : DefM K (He.ga K "Bench") "at_once" "Bench.at_once" s_Bench_at_once := by
  obtain ⟨fd, F⟩ := c.a.def_ 23 (d := ⟨fun K => He.ma K (He.ga K "Bench") "at_once", "at_once", "Bench.at_once", defArgs s_Bench_at_once, defBody s_Bench_at_once, defScope s_Bench_at_once, [], []⟩) rfl
  exact def_m (c.a.fact 92 (f := .meth "Bench" "at_once") rfl) F
theorem dg_Bench_written (c : SaysK h K) : DefM K (He.ga K "Bench") "written" "Bench.written" s_Bench_written := by
  obtain ⟨fd, F⟩ := c.a.def_ 24 (d := ⟨fun K => He.ma K (He.ga K "Bench") "written", "written", "Bench.written", defArgs s_Bench_written, defBody s_Bench_written, defScope s_Bench_written, [], []⟩) rfl
  exact def_m (c.a.fact 93 (f := .meth "Bench" "written") rfl) F
theorem dg_written_text (X : K.In h) (G : h.Ns mainGlobals mg) (c : SaysK h K) : DefG K mg "written_text" s_written_text := by
  obtain ⟨fd, F⟩ := c.a.def_ 25 (d := ⟨fun K => He.ga K "written_text", "written_text", "written_text", defArgs s_written_text, defBody s_written_text, defScope s_written_text, [], []⟩) rfl
  exact def_g X G (c.a.fact 7 (f := .glo "written_text") rfl) F
theorem dg__law_word (X : K.In h) (G : h.Ns mainGlobals mg) (c : SaysK h K) : DefG K mg "_law_word" s__law_word := by
  obtain ⟨fd, F⟩ := c.a.def_ 26 (d := ⟨fun K => He.ga K "_law_word", "_law_word", "_law_word", defArgs s__law_word, defBody s__law_word, defScope s__law_word, [], []⟩) rfl
  exact def_g X G (c.a.fact 8 (f := .glo "_law_word") rfl) F
theorem dg__law_pool (X : K.In h) (G : h.Ns mainGlobals mg) (c : SaysK h K) : DefG K mg "_law_pool" s__law_pool := by
  obtain ⟨fd, F⟩ := c.a.def_ 27 (d := ⟨fun K => He.ga K "_law_pool", "_law_pool", "_law_pool", defArgs s__law_pool, defBody s__law_pool, defScope s__law_pool, [], []⟩) rfl
  exact def_g X G (c.a.fact 9 (f := .glo "_law_pool") rfl) F
theorem dg__law_put_in (X : K.In h) (G : h.Ns mainGlobals mg) (c : SaysK h K) : DefG K mg "_law_put_in" s__law_put_in := by
  obtain ⟨fd, F⟩ := c.a.def_ 28 (d := ⟨fun K => He.ga K "_law_put_in", "_law_put_in", "_law_put_in", defArgs s__law_put_in, defBody s__law_put_in, defScope s__law_put_in, [], []⟩) rfl
  exact def_g X G (c.a.fact 10 (f := .glo "_law_put_in") rfl) F
theorem dg__law_steps_of (X : K.In h) (G : h.Ns mainGlobals mg) (c : SaysK h K) : DefG K mg "_law_steps_of" s__law_steps_of := by
  obtain ⟨fd, F⟩ := c.a.def_ 29 (d := ⟨fun K => He.ga K "_law_steps_of", "_law_steps_of", "_law_steps_of", defArgs s__law_steps_of, defBody s__law_steps_of, defScope s__law_steps_of, [], []⟩) rfl
  exact def_g X G (c.a.fact 11 (f := .glo "_law_steps_of") rfl) F
theorem dg__law_chain_due (X : K.In h) (G : h.Ns mainGlobals mg) (c : SaysK h K) : DefG K mg "_law_chain_due" s__law_chain_due := by
  obtain ⟨fd, F⟩ := c.a.def_ 30 (d := ⟨fun K => He.ga K "_law_chain_due", "_law_chain_due", "_law_chain_due", defArgs s__law_chain_due, defBody s__law_chain_due, defScope s__law_chain_due, [], []⟩) rfl
  exact def_g X G (c.a.fact 12 (f := .glo "_law_chain_due") rfl) F
theorem dg__law_due (X : K.In h) (G : h.Ns mainGlobals mg) (c : SaysK h K) : DefG K mg "_law_due" s__law_due := by
  obtain ⟨fd, F⟩ := c.a.def_ 31 (d := ⟨fun K => He.ga K "_law_due", "_law_due", "_law_due", defArgs s__law_due, defBody s__law_due, defScope s__law_due, [], []⟩) rfl
  exact def_g X G (c.a.fact 13 (f := .glo "_law_due") rfl) F
theorem dg__law_do (X : K.In h) (G : h.Ns mainGlobals mg) (c : SaysK h K) : DefG K mg "_law_do" s__law_do := by
  obtain ⟨fd, F⟩ := c.a.def_ 32 (d := ⟨fun K => He.ga K "_law_do", "_law_do", "_law_do", defArgs s__law_do, defBody s__law_do, defScope s__law_do, [], []⟩) rfl
  exact def_g X G (c.a.fact 14 (f := .glo "_law_do") rfl) F
theorem dg__law_deed (X : K.In h) (G : h.Ns mainGlobals mg) (c : SaysK h K) : DefG K mg "_law_deed" s__law_deed := by
  obtain ⟨fd, F⟩ := c.a.def_ 33 (d := ⟨fun K => He.ga K "_law_deed", "_law_deed", "_law_deed", defArgs s__law_deed, defBody s__law_deed, defScope s__law_deed, [], []⟩) rfl
  exact def_g X G (c.a.fact 15 (f := .glo "_law_deed") rfl) F
theorem dg__law_state_text (X : K.In h) (G : h.Ns mainGlobals mg) (c : SaysK h K) : DefG K mg "_law_state_text" s__law_state_text := by
  obtain ⟨fd, F⟩ := c.a.def_ 34 (d := ⟨fun K => He.ga K "_law_state_text", "_law_state_text", "_law_state_text", defArgs s__law_state_text, defBody s__law_state_text, defScope s__law_state_text, [], []⟩) rfl
  exact def_g X G (c.a.fact 16 (f := .glo "_law_state_text") rfl) F
theorem dg__law_bench_right (X : K.In h) (G : h.Ns mainGlobals mg) (c : SaysK h K) : DefG K mg "_law_bench_right" s__law_bench_right := by
  obtain ⟨fd, F⟩ := c.a.def_ 35 (d := ⟨fun K => He.ga K "_law_bench_right", "_law_bench_right", "_law_bench_right", defArgs s__law_bench_right, defBody s__law_bench_right, defScope s__law_bench_right, [], []⟩) rfl
  exact def_g X G (c.a.fact 17 (f := .glo "_law_bench_right") rfl) F
theorem dg__law_pen (X : K.In h) (G : h.Ns mainGlobals mg) (c : SaysK h K) : DefG K mg "_law_pen" s__law_pen := by
  obtain ⟨fd, F⟩ := c.a.def_ 36 (d := ⟨fun K => He.ga K "_law_pen", "_law_pen", "_law_pen", defArgs s__law_pen, defBody s__law_pen, defScope s__law_pen, [], []⟩) rfl
  exact def_g X G (c.a.fact 18 (f := .glo "_law_pen") rfl) F
theorem dg__law_draw (X : K.In h) (G : h.Ns mainGlobals mg) (c : SaysK h K) : DefG K mg "_law_draw" s__law_draw := by
  obtain ⟨fd, F⟩ := c.a.def_ 37 (d := ⟨fun K => He.ga K "_law_draw", "_law_draw", "_law_draw", defArgs s__law_draw, defBody s__law_draw, defScope s__law_draw, [], []⟩) rfl
  exact def_g X G (c.a.fact 19 (f := .glo "_law_draw") rfl) F
theorem dg__law_pick (X : K.In h) (G : h.Ns mainGlobals mg) (c : SaysK h K) : DefG K mg "_law_pick" s__law_pick := by
  obtain ⟨fd, F⟩ := c.a.def_ 38 (d := ⟨fun K => He.ga K "_law_pick", "_law_pick", "_law_pick", defArgs s__law_pick, defBody s__law_pick, defScope s__law_pick, [], []⟩) rfl
  exact def_g X G (c.a.fact 20 (f := .glo "_law_pick") rfl) F
theorem dg__law_kinds (X : K.In h) (G : h.Ns mainGlobals mg) (c : SaysK h K) : DefG K mg "_law_kinds" s__law_kinds := by
  obtain ⟨fd, F⟩ := c.a.def_ 39 (d := ⟨fun K => He.ga K "_law_kinds", "_law_kinds", "_law_kinds", defArgs s__law_kinds, defBody s__law_kinds, defScope s__law_kinds, [], []⟩) rfl
  exact def_g X G (c.a.fact 21 (f := .glo "_law_kinds") rfl) F
theorem dg__law_step (X : K.In h) (G : h.Ns mainGlobals mg) (c : SaysK h K) : DefG K mg "_law_step" s__law_step := by
  obtain ⟨fd, F⟩ := c.a.def_ 40 (d := ⟨fun K => He.ga K "_law_step", "_law_step", "_law_step", defArgs s__law_step, defBody s__law_step, defScope s__law_step, [], []⟩) rfl
  exact def_g X G (c.a.fact 22 (f := .glo "_law_step") rfl) F
theorem dg__law_steps (X : K.In h) (G : h.Ns mainGlobals mg) (c : SaysK h K) : DefG K mg "_law_steps" s__law_steps := by
  obtain ⟨fd, F⟩ := c.a.def_ 41 (d := ⟨fun K => He.ga K "_law_steps", "_law_steps", "_law_steps", defArgs s__law_steps, defBody s__law_steps, defScope s__law_steps, [], []⟩) rfl
  exact def_g X G (c.a.fact 23 (f := .glo "_law_steps") rfl) F
theorem dg__law_text (X : K.In h) (G : h.Ns mainGlobals mg) (c : SaysK h K) : DefG K mg "_law_text" s__law_text := by
  obtain ⟨fd, F⟩ := c.a.def_ 42 (d := ⟨fun K => He.ga K "_law_text", "_law_text", "_law_text", defArgs s__law_text, defBody s__law_text, defScope s__law_text, [], []⟩) rfl
  exact def_g X G (c.a.fact 24 (f := .glo "_law_text") rfl) F
theorem dg__law_program_text (X : K.In h) (G : h.Ns mainGlobals mg) (c : SaysK h K) : DefG K mg "_law_program_text" s__law_program_text := by
  obtain ⟨fd, F⟩ := c.a.def_ 43 (d := ⟨fun K => He.ga K "_law_program_text", "_law_program_text", "_law_program_text", defArgs s__law_program_text, defBody s__law_program_text, defScope s__law_program_text, [], []⟩) rfl
  exact def_g X G (c.a.fact 25 (f := .glo "_law_program_text") rfl) F
theorem dg__law_inverse (X : K.In h) (G : h.Ns mainGlobals mg) (c : SaysK h K) : DefG K mg "_law_inverse" s__law_inverse := by
  obtain ⟨fd, F⟩ := c.a.def_ 44 (d := ⟨fun K => He.ga K "_law_inverse", "_law_inverse", "_law_inverse", defArgs s__law_inverse, defBody s__law_inverse, defScope s__law_inverse, [], []⟩) rfl
  exact def_g X G (c.a.fact 26 (f := .glo "_law_inverse") rfl) F
theorem dg__law_inverted (X : K.In h) (G : h.Ns mainGlobals mg) (c : SaysK h K) : DefG K mg "_law_inverted" s__law_inverted := by
  obtain ⟨fd, F⟩ := c.a.def_ 45 (d := ⟨fun K => He.ga K "_law_inverted", "_law_inverted", "_law_inverted", defArgs s__law_inverted, defBody s__law_inverted, defScope s__law_inverted, [], []⟩) rfl
  exact def_g X G (c.a.fact 27 (f := .glo "_law_inverted") rfl) F
theorem dg__law_items (X : K.In h) (G : h.Ns mainGlobals mg) (c : SaysK h K) : DefG K mg "_law_items" s__law_items := by
  obtain ⟨fd, F⟩ := c.a.def_ 46 (d := ⟨fun K => He.ga K "_law_items", "_law_items", "_law_items", defArgs s__law_items, defBody s__law_items, defScope s__law_items, [], []⟩) rfl
  exact def_g X G (c.a.fact 28 (f := .glo "_law_items") rfl) F
theorem dg__law_play (X : K.In h) (G : h.Ns mainGlobals mg) (c : SaysK h K) : DefG K mg "_law_play" s__law_play := by
  obtain ⟨fd, F⟩ := c.a.def_ 47 (d := ⟨fun K => He.ga K "_law_play", "_law_play", "_law_play", defArgs s__law_play, defBody s__law_play, defScope s__law_play, [], []⟩) rfl
  exact def_g X G (c.a.fact 29 (f := .glo "_law_play") rfl) F
theorem dg__law_called (X : K.In h) (G : h.Ns mainGlobals mg) (c : SaysK h K) : DefG K mg "_law_called" s__law_called := by
  obtain ⟨fd, F⟩ := c.a.def_ 48 (d := ⟨fun K => He.ga K "_law_called", "_law_called", "_law_called", defArgs s__law_called, defBody s__law_called, defScope s__law_called, [], []⟩) rfl
  exact def_g X G (c.a.fact 30 (f := .glo "_law_called") rfl) F
theorem dg__law_taken_back (X : K.In h) (G : h.Ns mainGlobals mg) (c : SaysK h K) : DefG K mg "_law_taken_back" s__law_taken_back := by
  obtain ⟨fd, F⟩ := c.a.def_ 49 (d := ⟨fun K => He.ga K "_law_taken_back", "_law_taken_back", "_law_taken_back", defArgs s__law_taken_back, defBody s__law_taken_back, defScope s__law_taken_back, [], []⟩) rfl
  exact def_g X G (c.a.fact 31 (f := .glo "_law_taken_back") rfl) F
theorem dg__law_done_again (X : K.In h) (G : h.Ns mainGlobals mg) (c : SaysK h K) : DefG K mg "_law_done_again" s__law_done_again := by
  obtain ⟨fd, F⟩ := c.a.def_ 50 (d := ⟨fun K => He.ga K "_law_done_again", "_law_done_again", "_law_done_again", defArgs s__law_done_again, defBody s__law_done_again, defScope s__law_done_again, [], []⟩) rfl
  exact def_g X G (c.a.fact 32 (f := .glo "_law_done_again") rfl) F
theorem dg__law_model_step (X : K.In h) (G : h.Ns mainGlobals mg) (c : SaysK h K) : DefG K mg "_law_model_step" s__law_model_step := by
  obtain ⟨fd, F⟩ := c.a.def_ 51 (d := ⟨fun K => He.ga K "_law_model_step", "_law_model_step", "_law_model_step", defArgs s__law_model_step, defBody s__law_model_step, defScope s__law_model_step, [], []⟩) rfl
  exact def_g X G (c.a.fact 33 (f := .glo "_law_model_step") rfl) F
theorem dg__law_model_play (X : K.In h) (G : h.Ns mainGlobals mg) (c : SaysK h K) : DefG K mg "_law_model_play" s__law_model_play := by
  obtain ⟨fd, F⟩ := c.a.def_ 52 (d := ⟨fun K => He.ga K "_law_model_play", "_law_model_play", "_law_model_play", defArgs s__law_model_play, defBody s__law_model_play, defScope s__law_model_play, [], []⟩) rfl
  exact def_g X G (c.a.fact 34 (f := .glo "_law_model_play") rfl) F
theorem dg__law_model_called (X : K.In h) (G : h.Ns mainGlobals mg) (c : SaysK h K) : DefG K mg "_law_model_called" s__law_model_called := by
  obtain ⟨fd, F⟩ := c.a.def_ 53 (d := ⟨fun K => He.ga K "_law_model_called", "_law_model_called", "_law_model_called", defArgs s__law_model_called, defBody s__law_model_called, defScope s__law_model_called, [], []⟩) rfl
  exact def_g X G (c.a.fact 35 (f := .glo "_law_model_called") rfl) F
theorem dg__law_model_first (X : K.In h) (G : h.Ns mainGlobals mg) (c : SaysK h K) : DefG K mg "_law_model_first" s__law_model_first := by
  obtain ⟨fd, F⟩ := c.a.def_ 54 (d := ⟨fun K => He.ga K "_law_model_first", "_law_model_first", "_law_model_first", defArgs s__law_model_first, defBody s__law_model_first, defScope s__law_model_first, [], []⟩) rfl
  exact def_g X G (c.a.fact 36 (f := .glo "_law_model_first") rfl) F
end
end K64
/-! ## KH6 -/
set_option Elab.async false
set_option linter.all false
set_option maxRecDepth 100000
set_option maxHeartbeats 4000000
namespace K64
open PySem PySem.Spec PyProof.Rows L2 LamX
abbrev dnK : He.Defn := ("_law_called", none)
abbrev lamK : Str := (("_law_called" : Str) ++ ".<locals>.") ++ "<lambda>"
abbrev TbK (K : PySem.W.Frag) : List (Addr × Str) := [((He.cT K dnK).2, lamK)]
section
variable {w : World} {K : PySem.W.Frag} {h : Heap} {mg : Str → Option Value} {base : Heap} {A : Ad}
theorem code_at {f : Addr} {fd : FuncData} (F : L2.Fun K "_law_called" "_law_called" s__law_called f fd) (ef : f = He.ga K "_law_called") (TB : TabB base mg (He.cT K dnK).1 (He.cT K dnK).2) : CodeAt K base mg (TbK K) f := by
  intro oc od osl fd2 lk
  obtain ⟨oc1, od1, kV, doc, pm, an, cdv, ct, osl1, rfl, lk1, hcd⟩ := F.ex
  obtain ⟨cc, rfl⟩ := He.codeIn_ref hcd
  rw [lk1] at lk
  cases lk
  have e : He.codeOf K dnK = cc := He.codeOf_eq (p := dnK) (by show K.lookup (He.ga K "_law_called") = _; rw [← ef]; exact lk1) rfl
  have TB2 : TabB base mg cc (He.cT K dnK).2 := by
    have e1 : (He.cT K dnK).1 = cc := e
    rw [e1] at TB
    exact TB
  exact ⟨cc, _, rfl, TB2, List.mem_singleton.mpr rfl, fun p hp _ => by rw [List.mem_singleton.mp hp]⟩
theorem tabs_nil {H : Hp} (hH : H (He.cT K dnK).2 = some (.tbl #[])) : Tabs (TbK K) H := fun p hp => by
  rw [List.mem_singleton.mp hp]
  exact ⟨#[], hH, trivial, fun pos cv hc => by cases hc⟩
theorem law_ok (X : K.In h) (G : h.Ns mainGlobals mg) (c : SaysK h K) (T : Txt LW.prog K mg A) (eB : He.ga K "Bench" = A.CB) (eP : He.ga K "Program" = A.CP) (eS : He.ga K "Step" = A.CS) (TB : TabB base mg (He.cT K dnK).1 (He.cT K dnK).2)
    {f : Addr} {fd : FuncData} (F : L2.Fun K "law" "law" s_law f fd) : FnOk LW.prog w K mg base CX0 22 f fd P_law (spLaw K (TbK K)) := by
  let Tb := TbK K
  have F__law_put_in : FnG LW.prog w K mg base CX0 1 "_law_put_in" P__law_put_in (spPutIn Tb) := DefG.mk' (dg__law_put_in X G c) (fun f fd F => bd__law_put_in F) (fun f fd F => ok_put_in F T )
  have F__law_steps_of : FnG LW.prog w K mg base CX0 1 "_law_steps_of" P__law_steps_of (spStepsOf Tb) := DefG.mk' (dg__law_steps_of X G c) (fun f fd F => bd__law_steps_of F) (fun f fd F => ok_steps_of F T )
  have F__law_text : FnG LW.prog w K mg base CX0 1 "_law_text" P__law_text (spText Tb) := DefG.mk' (dg__law_text X G c) (fun f fd F => bd__law_text F) (fun f fd F => ok_text F T )
  have F__law_program_text : FnG LW.prog w K mg base CX0 2 "_law_program_text" P__law_program_text (spProgText Tb) := DefG.mk' (dg__law_program_text X G c) (fun f fd F => bd__law_program_text F) (fun f fd F => ok_program_text F T F__law_text)
  have F__law_inverse : FnG LW.prog w K mg base CX0 1 "_law_inverse" P__law_inverse (spInverse Tb) := DefG.mk' (dg__law_inverse X G c) (fun f fd F => bd__law_inverse F) (fun f fd F => ok_inverse F T )
  have F__law_inverted : FnG LW.prog w K mg base CX0 2 "_law_inverted" P__law_inverted (spInverted Tb) := DefG.mk' (dg__law_inverted X G c) (fun f fd F => bd__law_inverted F) (fun f fd F => ok_inverted_l F T F__law_inverse)
  have F__law_state_text : FnG LW.prog w K mg base CX0 3 "_law_state_text" P__law_state_text (spStateText Tb) := DefG.mk' (dg__law_state_text X G c) (fun f fd F => bd__law_state_text F) (fun f fd F => ok_state_text F T F__law_program_text)
  have F__law_chain_due : FnG LW.prog w K mg base CX0 2 "_law_chain_due" P__law_chain_due (spChainDue Tb) := DefG.mk' (dg__law_chain_due X G c) (fun f fd F => bd__law_chain_due F) (fun f fd F => ok_chain_due F T F__law_steps_of F__law_put_in)
  have F__law_due : FnG LW.prog w K mg base CX0 3 "_law_due" P__law_due (spDue Tb) := DefG.mk' (dg__law_due X G c) (fun f fd F => bd__law_due F) (fun f fd F => ok_due F T F__law_steps_of F__law_put_in F__law_chain_due F__law_program_text F__law_inverted)
  have F__law_draw : FnG LW.prog w K mg base CX0 1 "_law_draw" P__law_draw (spDraw Tb) := DefG.mk' (dg__law_draw X G c) (fun f fd F => bd__law_draw F) (fun f fd F => ok_draw F T )
  have F__law_pick : FnG LW.prog w K mg base CX0 2 "_law_pick" P__law_pick (spPick Tb) := DefG.mk' (dg__law_pick X G c) (fun f fd F => bd__law_pick F) (fun f fd F => ok_pick F T F__law_draw)
  have F__law_kinds : FnG LW.prog w K mg base CX0 1 "_law_kinds" P__law_kinds (spKinds Tb) := DefG.mk' (dg__law_kinds X G c) (fun f fd F => bd__law_kinds F) (fun f fd F => ok_kinds F T )
  have F__law_pen : FnG LW.prog w K mg base CX0 1 "_law_pen" P__law_pen (spPen K Tb) := DefG.mk' (dg__law_pen X G c) (fun f fd F => bd__law_pen F) (fun f fd F => ok_pen F T )
  have F__law_word : FnG LW.prog w K mg base CX0 3 "_law_word" P__law_word (spWord Tb) := DefG.mk' (dg__law_word X G c) (fun f fd F => bd__law_word F) (fun f fd F => ok_word F T F__law_pick)
  have F__law_pool : FnG LW.prog w K mg base CX0 4 "_law_pool" P__law_pool (spPool Tb) := DefG.mk' (dg__law_pool X G c) (fun f fd F => bd__law_pool F) (fun f fd F => ok_pool F T F__law_word)
  have F__law_step : FnG LW.prog w K mg base CX0 3 "_law_step" P__law_step (spStep Tb) := DefG.mk' (dg__law_step X G c) (fun f fd F => bd__law_step F) (fun f fd F => ok_step F T F__law_draw F__law_pick)
  have F__law_steps : FnG LW.prog w K mg base CX0 4 "_law_steps" P__law_steps (spSteps Tb) := DefG.mk' (dg__law_steps X G c) (fun f fd F => bd__law_steps F) (fun f fd F => ok_steps F T F__law_step)
  have F__law_deed : FnG LW.prog w K mg base CX0 5 "_law_deed" P__law_deed (spDeed Tb) := DefG.mk' (dg__law_deed X G c) (fun f fd F => bd__law_deed F) (fun f fd F => ok_deed F T F__law_draw F__law_pick F__law_kinds F__law_steps)
  have F__law_model_step : FnG LW.prog w K mg base CX0 1 "_law_model_step" P__law_model_step (spMStep Tb) := DefG.mk' (dg__law_model_step X G c) (fun f fd F => bd__law_model_step F) (fun f fd F => ok_mstep F T )
  have F_remainder : FnG LW.prog w K mg base CX0 1 "remainder" P_remainder spRem := DefG.mk' (dg_remainder X G c) (fun f fd F => bd_remainder F) (fun f fd F => ok_remainder F T )
  have F_is_rest_text : FnG LW.prog w K mg base CX0 1 "is_rest_text" P_is_rest_text (spRest Tb) := DefG.mk' (dg_is_rest_text X G c) (fun f fd F => bd_is_rest_text F) (fun f fd F => ok_rest F T )
  have F_is_step_text : FnG LW.prog w K mg base CX0 2 "is_step_text" P_is_step_text (spIsStep Tb) := DefG.mk' (dg_is_step_text X G c) (fun f fd F => bd_is_step_text F) (fun f fd F => ok_is_step F T F_is_rest_text F_remainder)
  have F_inverse_text : FnG LW.prog w K mg base CX0 1 "inverse_text" P_inverse_text (spInvT Tb) := DefG.mk' (dg_inverse_text X G c) (fun f fd F => bd_inverse_text F) (fun f fd F => ok_inverse_text F T )
  have F_inverted : FnG LW.prog w K mg base CX0 2 "inverted" P_inverted (spInvS A Tb) := DefG.mk' (dg_inverted X G c) (fun f fd F => bd_inverted F) (fun f fd F => ok_inverted F T F_inverse_text)
  have F_Step_init : MkG LW.prog w K mg base CX0 3 A.CS "Step" P_Step_init (spStepI A Tb) := DefI.mk' (eS ▸ (dg_Step_init X G c)) (fun f fd F => bd_Step_init F) (fun f fd F => ok_step_init F T F_is_step_text)
  have F_Program_init : MkG LW.prog w K mg base (L2.CX LW.prog w) 5 A.CP "Program" P_Program_init (spProg A Tb) := DefI.mk' (eP ▸ (dg_Program_init X G c)) (fun f fd F => bd_Program_init F) (fun f fd F => ok_prog_init F T F_is_step_text F_Step_init)
  have F_Program_of : CmG LW.prog w K mg base (L2.CX LW.prog w) 7 A.CP "of" (spOf A Tb) := DefC.mk' (eP ▸ (dg_Program_of c)) (fun f fd F => bd_Program_of F) (fun f fd F => ok_of F T F_Program_init)
  have F_Program_eq : MtG LW.prog w K mg base CX0 1 A.CP "__eq__" P_Program_eq (spPEq A) := DefM.mk' (eP ▸ (dg_Program_eq c)) (fun f fd F => bd_Program_eq F) (fun f fd F => ok_peq F T )
  have F_Program_invert : MtG LW.prog w K mg base CX0 7 A.CP "__invert__" P_Program_invert (spPInv A Tb) := DefM.mk' (eP ▸ (dg_Program_invert c)) (fun f fd F => bd_Program_invert F) (fun f fd F => ok_pinv F T F_Program_init F_inverted)
  have F_is_name : FnG LW.prog w K mg base CX0 1 "is_name" P_is_name (spIsName Tb) := DefG.mk' (dg_is_name X G c) (fun f fd F => bd_is_name F) (fun f fd F => ok_is_name F T )
  have F_Bench_contains : MtG LW.prog w K mg base CX0 1 A.CB "__contains__" P_Bench_contains (spBIn A) := DefM.mk' (eB ▸ (dg_Bench_contains c)) (fun f fd F => bd_Bench_contains F) (fun f fd F => ok_bin F T )
  have F_Bench_len : MtG LW.prog w K mg base CX0 1 A.CB "__len__" P_Bench_len (spLenF A.CB "programs") := DefM.mk' (eB ▸ (dg_Bench_len c)) (fun f fd F => bd_Bench_len F) (fun f fd F => ok_blen F T )
  have F_Bench_iter : MtG LW.prog w K mg base CX0 1 A.CB "__iter__" P_Bench_iter (spIterF A.CB "programs") := DefM.mk' (eB ▸ (dg_Bench_iter c)) (fun f fd F => bd_Bench_iter F) (fun f fd F => ok_biter F T )
  have F_Bench_getitem : MtG LW.prog w K mg base (L2.CX LW.prog w) 1 A.CB "__getitem__" P_Bench_getitem (spBGet A Tb) := DefM.mk' (eB ▸ (dg_Bench_getitem c)) (fun f fd F => bd_Bench_getitem F) (fun f fd F => ok_bget F T )
  have F_Bench_settle : MtG LW.prog w K mg base CX0 1 A.CB "settle" P_Bench_settle (spSettle A Tb) := DefM.mk' (eB ▸ (dg_Bench_settle c)) (fun f fd F => bd_Bench_settle F) (fun f fd F => ok_settle F T )
  have F_written_text : FnG LW.prog w K mg base CX0 1 "written_text" P_written_text (spWT A Tb) := DefG.mk' (dg_written_text X G c) (fun f fd F => bd_written_text F) (fun f fd F => ok_written_text F T )
  have F_Bench_written : MtG LW.prog w K mg base CX0 2 A.CB "written" P_Bench_written (spWritten A Tb) := DefM.mk' (eB ▸ (dg_Bench_written c)) (fun f fd F => bd_Bench_written F) (fun f fd F => ok_written F T F_written_text)
  have F_Bench_init : MkG LW.prog w K mg base CX0 1 A.CB "Bench" P_Bench_init (spBInit A Tb) := DefI.mk' (eB ▸ (dg_Bench_init X G c)) (fun f fd F => bd_Bench_init F) (fun f fd F => ok_binit F T )
  have F_Bench_undo : MtG LW.prog w K mg base (L2.CX LW.prog w) 1 A.CB "undo" P_Bench_undo (spUndo A Tb) := DefM.mk' (eB ▸ (dg_Bench_undo c)) (fun f fd F => bd_Bench_undo F) (fun f fd F => ok_undo F T )
  have F_Bench_redo : MtG LW.prog w K mg base (L2.CX LW.prog w) 1 A.CB "redo" P_Bench_redo (spRedo A Tb) := DefM.mk' (eB ▸ (dg_Bench_redo c)) (fun f fd F => bd_Bench_redo F) (fun f fd F => ok_redo F T )
  have F_Bench_setitem : MtG LW.prog w K mg base (L2.CX LW.prog w) 2 A.CB "__setitem__" P_Bench_setitem (spBSet A Tb) := DefM.mk' (eB ▸ (dg_Bench_setitem c)) (fun f fd F => bd_Bench_setitem F) (fun f fd F => ok_bset F T F_is_name F_Bench_settle)
  have F_Bench_drop : MtG LW.prog w K mg base (L2.CX LW.prog w) 3 A.CB "drop" P_Bench_drop (spDrop A Tb) := DefM.mk' (eB ▸ (dg_Bench_drop c)) (fun f fd F => bd_Bench_drop F) (fun f fd F => ok_drop F T F_Bench_getitem F_Bench_settle)
  have F_Bench_turn_back : MtG LW.prog w K mg base (L2.CX LW.prog w) 8 A.CB "turn_back" P_Bench_turn_back (spTurn A Tb) := DefM.mk' (eB ▸ (dg_Bench_turn_back c)) (fun f fd F => bd_Bench_turn_back F) (fun f fd F => ok_turn F T F_Bench_getitem F_Bench_setitem F_Program_invert)
  have F_Bench_chain : MtG LW.prog w K mg base (L2.CX LW.prog w) 8 A.CB "chain" P_Bench_chain (spChain A Tb) := DefM.mk' (eB ▸ (dg_Bench_chain c)) (fun f fd F => bd_Bench_chain F) (fun f fd F => ok_chain F T F_Bench_getitem F_Bench_setitem F_is_name F_Program_of)
  have F__law_taken_back : FnG LW.prog w K mg base CX0 2 "_law_taken_back" P__law_taken_back (spBack A Tb true) := DefG.mk' (dg__law_taken_back X G c) (fun f fd F => bd__law_taken_back F) (fun f fd F => ok_taken F T F_Bench_undo)
  have F__law_done_again : FnG LW.prog w K mg base CX0 2 "_law_done_again" P__law_done_again (spBack A Tb false) := DefG.mk' (dg__law_done_again X G c) (fun f fd F => bd__law_done_again F) (fun f fd F => ok_done F T F_Bench_redo)
  have F__law_do : FnG LW.prog w K mg base CX0 9 "_law_do" P__law_do (spDo A Tb) := DefG.mk' (dg__law_do X G c) (fun f fd F => bd__law_do F) (fun f fd F => ok_do F T F_Program_init F__law_program_text F_Bench_setitem F_Bench_drop F_Bench_turn_back F_Bench_chain)
  have F__law_bench_right : FnG LW.prog w K mg base CX0 7 "_law_bench_right" P__law_bench_right (spRight A Tb) := DefG.mk' (dg__law_bench_right X G c) (fun f fd F => bd__law_bench_right F) (fun f fd F => ok_right F T F_Bench_written F__law_state_text F_Bench_len F_Bench_iter F_Bench_getitem F_Bench_contains F_Program_init F_Program_eq F__law_program_text)
  have FI_no : FnG LW.prog w K mg base CX0 5 "_law_items" P__law_items spNo := DefG.mk' (dg__law_items X G c) (fun f fd F => bd__law_items F) (fun f fd F => ok_no F sc__law_items)
  have FI_0 : FnG LW.prog w K mg base CX0 6 "_law_items" P__law_items (spItems Tb 0) := DefG.mk' (dg__law_items X G c) (fun f fd F => bd__law_items F) (fun f fd F => ok_items (d := 0) F T F__law_draw F__law_pick F__law_deed FI_no)
  have FI_1 : FnG LW.prog w K mg base CX0 7 "_law_items" P__law_items (spItems Tb 1) := DefG.mk' (dg__law_items X G c) (fun f fd F => bd__law_items F) (fun f fd F => ok_items (d := 1) F T F__law_draw F__law_pick F__law_deed FI_0)
  have FI_2 : FnG LW.prog w K mg base CX0 8 "_law_items" P__law_items (spItems Tb 2) := DefG.mk' (dg__law_items X G c) (fun f fd F => bd__law_items F) (fun f fd F => ok_items (d := 2) F T F__law_draw F__law_pick F__law_deed FI_1)
  have FM_no : FnG LW.prog w K mg base CX0 3 "_law_model_called" P__law_model_called spNo := DefG.mk' (dg__law_model_called X G c) (fun f fd F => bd__law_model_called F) (fun f fd F => ok_no F sc__law_model_called)
  have FMp_0 : FnG LW.prog w K mg base CX0 4 "_law_model_play" P__law_model_play (spMPlay Tb 0) := DefG.mk' (dg__law_model_play X G c) (fun f fd F => bd__law_model_play F) (fun f fd F => ok_mplay (d := 0) (j := 0) F T F__law_model_step F__law_due F__law_state_text FM_no)
  have FMc_0 : FnG LW.prog w K mg base CX0 5 "_law_model_called" P__law_model_called (spMCalled Tb 0) := DefG.mk' (dg__law_model_called X G c) (fun f fd F => bd__law_model_called F) (fun f fd F => ok_mcalled (d := 0) (j := 0) F T FMp_0)
  have FMp_1 : FnG LW.prog w K mg base CX0 6 "_law_model_play" P__law_model_play (spMPlay Tb 1) := DefG.mk' (dg__law_model_play X G c) (fun f fd F => bd__law_model_play F) (fun f fd F => ok_mplay (d := 1) (j := 2) F T F__law_model_step F__law_due F__law_state_text FMc_0)
  have FMc_1 : FnG LW.prog w K mg base CX0 7 "_law_model_called" P__law_model_called (spMCalled Tb 1) := DefG.mk' (dg__law_model_called X G c) (fun f fd F => bd__law_model_called F) (fun f fd F => ok_mcalled (d := 1) (j := 2) F T FMp_1)
  have FMp_2 : FnG LW.prog w K mg base CX0 8 "_law_model_play" P__law_model_play (spMPlay Tb 2) := DefG.mk' (dg__law_model_play X G c) (fun f fd F => bd__law_model_play F) (fun f fd F => ok_mplay (d := 2) (j := 4) F T F__law_model_step F__law_due F__law_state_text FMc_1)
  have FMc_2 : FnG LW.prog w K mg base CX0 9 "_law_model_called" P__law_model_called (spMCalled Tb 2) := DefG.mk' (dg__law_model_called X G c) (fun f fd F => bd__law_model_called F) (fun f fd F => ok_mcalled (d := 2) (j := 4) F T FMp_2)
  have FC_no : FnG LW.prog w K mg base CX0 9 "_law_called" P__law_called spNo := DefG.mk' (dg__law_called X G c) (fun f fd F => bd__law_called F) (fun f fd F => ok_no F sc__law_called)
  obtain ⟨fc, Fc0⟩ := c.a.def_ 48 (d := ⟨fun K => He.ga K "_law_called", "_law_called", "_law_called", defArgs s__law_called, defBody s__law_called, defScope s__law_called, [], []⟩) rfl
  have Fc : L2.Fun K "_law_called" "_law_called" s__law_called (He.ga K "_law_called") fc := He5.fun_of (kws := []) Fc0
  have CA : CodeAt K base mg Tb (He.ga K "_law_called") := code_at Fc rfl TB
  have gC : mg "_law_called" = some (.ref (He.ga K "_law_called")) := He.glo_ok X G (c.a.fact 30 (f := .glo "_law_called") rfl)
  have FP_0 : FnG LW.prog w K mg base (L2.CX LW.prog w) 10 "_law_play" P__law_play (spPlay A Tb 0) := DefG.mk' (dg__law_play X G c) (fun f fd F => bd__law_play F) (fun f fd F => ok_play (d := 0) (j := 0) F T F__law_taken_back F__law_done_again F__law_do FC_no F_Bench_written F_Program_init F_Bench_setitem)
  have FC_0 : FnG LW.prog w K mg base CX0 13 "_law_called" P__law_called (spCalled A Tb 0) := ⟨_, _, gC, Fc.kp, bd__law_called Fc, ok_called (d := 0) (j := 0) Fc T CA FP_0 (eB ▸ dg_Bench_at_once c)⟩
  have FP_1 : FnG LW.prog w K mg base (L2.CX LW.prog w) 14 "_law_play" P__law_play (spPlay A Tb 1) := DefG.mk' (dg__law_play X G c) (fun f fd F => bd__law_play F) (fun f fd F => ok_play (d := 1) (j := 4) F T F__law_taken_back F__law_done_again F__law_do FC_0 F_Bench_written F_Program_init F_Bench_setitem)
  have FC_1 : FnG LW.prog w K mg base CX0 17 "_law_called" P__law_called (spCalled A Tb 1) := ⟨_, _, gC, Fc.kp, bd__law_called Fc, ok_called (d := 1) (j := 4) Fc T CA FP_1 (eB ▸ dg_Bench_at_once c)⟩
  have FP_2 : FnG LW.prog w K mg base (L2.CX LW.prog w) 18 "_law_play" P__law_play (spPlay A Tb 2) := DefG.mk' (dg__law_play X G c) (fun f fd F => bd__law_play F) (fun f fd F => ok_play (d := 2) (j := 8) F T F__law_taken_back F__law_done_again F__law_do FC_1 F_Bench_written F_Program_init F_Bench_setitem)
  have FC_2 : FnG LW.prog w K mg base CX0 21 "_law_called" P__law_called (spCalled A Tb 2) := ⟨_, _, gC, Fc.kp, bd__law_called Fc, ok_called (d := 2) (j := 8) Fc T CA FP_2 (eB ▸ dg_Bench_at_once c)⟩
  have F__law_model_first : FnG LW.prog w K mg base CX0 11 "_law_model_first" P__law_model_first (spFirst A Tb) := DefG.mk' (dg__law_model_first X G c) (fun f fd F => bd__law_model_first F) (fun f fd F => ok_first F T FMp_0 FP_0)
  exact ok_law F T F__law_pen F__law_pool F_Bench_init F__law_model_first FI_0 FI_2 F__law_pick F__law_draw FC_2 FMc_2 F__law_bench_right
end
end K64
/-! ## KH7 -/
set_option Elab.async false
set_option linter.all false
set_option maxRecDepth 100000
set_option maxHeartbeats 0
namespace K64
open PySem PySem.Spec PyProof.Rows L2 LamX
theorem law_at {w : World} {K : PySem.W.Frag} {h : Heap} {mg : Str → Option Value} {fa : Addr} (X : K.In h) (G : h.Ns mainGlobals mg) (hmg : mg ("law" : Str) = some (.ref fa)) (c : SaysK h K) : LawAtS LW w K CX0 22 63 "_law_script" mg fa h := by
  obtain ⟨A, eB, eP, eS, T⟩ := txt_of X G c
  obtain ⟨fd, F0⟩ := c.a.def_ 55 (d := ⟨fun K => He.ga K "law", "law", "law", defArgs s_law, defBody s_law, defScope s_law, [], []⟩) rfl
  have F : L2.Fun K "law" "law" s_law (He.ga K "law") fd := He5.fun_of (kws := []) F0
  have e := hmg.symm.trans (He.glo_ok X G (c.a.fact 0 (f := .glo "law") rfl))
  cases e
  have b := FunD.bindsA (ps := [("_law_script" : Str)]) (kws := []) F0 fun _ _ _ _ _ _ us hl => match us, hl with | [_], _ => rfl
  refine ⟨fd, [He.cT K dnK], spLaw K (TbK K), fun p hp => ?_, fun p hp => ?_, fun p hp => ?_, fun s u => b s [u] rfl, fun H a ns hl hb hH hS => ⟨a, ns, rfl, tabs_nil (hH _ (List.mem_singleton.mpr rfl)), hS, fun _ => rfl⟩, fun base hK hM hT => ?_⟩
  · rw [List.mem_singleton.mp hp]
    exact c.empty dnK (List.mem_singleton.mpr rfl)
  · rw [List.mem_singleton.mp hp]
    exact c.out dnK (List.mem_singleton.mpr rfl)
  · rw [List.mem_singleton.mp hp]
    exact PySem.W.codeHd_of_K X (c.hd dnK (List.mem_singleton.mpr rfl))
  · exact law_ok X G c T eB.symm eP.symm eS.symm (hT _ (List.mem_singleton.mpr rfl)) F
end K64
open PySem PySem.W PySem.Calls PyProof.Rows
set_option maxHeartbeats 0 in
theorem PySem.Challenge.cw_allwordlengths_k64_whole_deeds_at_once_holds : PySem.Challenge.rw_allwordlengths_k64_whole_deeds_at_once.Holds := by
  w_on; o_law
  refine HandSHeadRun.head_any (r := OpenLaw.row PySem.Challenge.rw_allwordlengths_k64_whole_deeds_at_once) (q := K64.qv) (H := K64.hookK) (ob := K64.ob) (M := 15000) (loose := K64.loose) (d := HandSHeadRun.topDef (OpenLaw.row PySem.Challenge.rw_allwordlengths_k64_whole_deeds_at_once).prog 79) (kwd := []) K64.ob_eq
    (by kernel_rfl) (fun s => by kernel_rfl) K64.run (by kernel_rfl) (by kernel_rfl) (by kernel_rfl) (by rfl) (by first | assumption | decide +kernel) (by decide +kernel) ⟨rfl, rfl, rfl, rfl, rfl, by decide +kernel⟩ ?hw ?hc
  case hw => w_witness2
  case hc =>
    refine LamX.walk_ofTsE (l := PySem.Challenge.rw_allwordlengths_k64_whole_deeds_at_once) (n := 63) (k := 22) (x := "_law_script") (CX := fun _ => L2.CX0) rfl (by decide) (by kernel_rfl) ⟨rfl, by decide, by decide⟩ ?F (fun _ _ _ _ _ z => z)
    intro w mg fa h Y G hmg0
    obtain ⟨K, KX, c⟩ := Y
    have hmg : mg ("law" : PySem.Str) = some (.ref fa) := by
      have e : (HandSHeadRun.topDef (OpenLaw.row PySem.Challenge.rw_allwordlengths_k64_whole_deeds_at_once).prog 79).name = ("law" : PySem.Str) := by kernel_rfl
      rw [← e]
      exact hmg0
    exact ⟨K, KX, K64.law_at KX G hmg c⟩
