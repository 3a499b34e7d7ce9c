import PyProof.Rows.All
import Wide.All
import OpenK.AllK
import Wide.FinOn
import KE.KOpsOwn
import HandS.ForMost
import HandS.More
import HandS.Star
import HandS.ClsMeth
import HandS.Property
import HandS.IsInst
import HandS.SetKeys
import HandS.Style
import KE.GoesMore
import PyProof.EnumMake
import HandS.Text
import PyProof.InstNe
import HandS.Conv
import HandS.TupAny
import PyProof.ListStr
import HandS.Lambda
import HandS.Nested
import HandS.EndTab
import HandS.ForExc
import HandS.ExcInit
import HandS.ExcIs
import HandS.ExcField
import HandS.TryOnly
import KE.KDflt
import KE.KExcIs
import PyProof.Rows.CountFlat
import HandS.FStr
import HandS.EndOwn
import HandS.WideBits
import HandS.GenYield
import HandS.GenCall
import HandS.GenList
import HandS.DictComp
import HandS.SetFor
import HandS.Strs
import HandS.SortInts
import HandS.Defaults
import HandS.NoneIn
import PyProof.StrOps2
import KE.KDictZip
import KE.KRevSl
import PySem.Challenge.RW_pastekeys_k07_changes_and_patterns
set_option Elab.async false
set_option linter.all false
set_option maxRecDepth 100000
set_option maxHeartbeats 1000000
/-! own rules over the hand layer: names of defs by promise, own operators, star makes, match, enumerate of a tuple -/
namespace L2.Px
open PySem PySem.Spec PyProof.Rows StX

/-! ### promises of defs by name -/
/-- the def named x keeps the promise sp -/
def GOk (P : Program) (w : World) (K : PySem.W.Frag) (mg : Str → Option Value) (base : Heap) (CX : CXT) (k : Nat) (x : Str) (sp : Sp) : Prop :=
  ∃ f, FnR P w K mg base CX k f sp ∧ mg x = some (.ref f) ∧ PySem.W.keepIn K (.ref f) = true
/-- the method m of the class at C keeps the promise sp -/
def MOk (P : Program) (w : World) (K : PySem.W.Frag) (mg : Str → Option Value) (base : Heap) (CX : CXT) (k : Nat) (C : Addr) (m : Str) (sp : Sp) : Prop :=
  ∃ f, FnR P w K mg base CX k f sp ∧ Meth K C m f
/-- a def of the top, as it stands -/
def DefG (K : PySem.W.Frag) (mg : Str → Option Value) (x : Str) (st : Stmt) (ps : List Str) : Prop :=
  ∃ f fd, Fun K x x st f fd ∧ mg x = some (.ref f) ∧ Binds K fd ps []
/-- a method of the class at C, as it stands -/
def DefM (K : PySem.W.Frag) (C : Addr) (m qual : Str) (st : Stmt) (ps : List Str) : Prop :=
  ∃ f fd, Fun K m qual st f fd ∧ Meth K C m f ∧ Binds K fd ps []
section
variable {P : Program} {w : World} {K : PySem.W.Frag} {mg : Str → Option Value} {base : Heap} {CX : CXT} {k : Nat} {f C : Addr} {fd : FuncData} {ps : List Str} {sp : Sp} {x m qual : Str} {st : Stmt}
theorem FnOk.toR (F : FnOk P w K mg base CX k f fd ps sp) (hb : Binds K fd ps []) : FnR P w K mg base CX k f sp := by
  intro A outer s H us vs Q E hr e0 r h
  have hl : (us ++ ([] : List Value)).length = ps.length := by rw [List.append_nil, ← r.length]; exact F.len _ _ _ _ h
  have kin : K.In s.heap := e0.mod.kin.keeps fun b o e => (e0.bs b o e).1
  have b1 := hb s us kin hl
  rw [List.append_nil] at b1
  exact F.run A outer s H ⟨us, []⟩ us vs Q E hr e0 b1 r h
theorem FnOk.toR1 {dvs : List V} {ds : List Value} (F : FnOk P w K mg base CX k f fd ps sp) (hb : Binds K fd ps ds) (hd : Vals dvs ds) : FnR P w K mg base CX k f (fun vs => sp (vs ++ dvs)) := by
  intro A outer s H us vs Q E hr e0 r h
  have r2 : Vals (vs ++ dvs) (us ++ ds) := r.append hd
  have hl : (us ++ ds).length = ps.length := by rw [← r2.length]; exact F.len _ _ _ _ h
  have kin : K.In s.heap := e0.mod.kin.keeps fun b o e => (e0.bs b o e).1
  exact F.run A outer s H ⟨us, []⟩ (us ++ ds) (vs ++ dvs) Q E hr e0 (hb s us kin hl) r2 h
theorem GOk.mono {j : Nat} (G : GOk P w K mg base CX j x sp) (h : j ≤ k) : GOk P w K mg base CX k x sp := let ⟨f, F, a, b⟩ := G; ⟨f, F.mono h, a, b⟩
theorem MOk.mono {j : Nat} (G : MOk P w K mg base CX j C m sp) (h : j ≤ k) : MOk P w K mg base CX k C m sp := let ⟨f, F, a⟩ := G; ⟨f, F.mono h, a⟩
/-- a def that no error leaves -/
theorem DefG.ok {N : List Str} (D : DefG K mg x st ps) (S : FnScope N ps (defScope st)) (len : ∀ vs H Q E, sp vs H Q E → vs.length = ps.length)
    (hbody : ∀ (f : Addr) (cdv : Value) (A : Around) (outer : List Env) (s : Shared) (H : Hp) (vs : List V) (Q : VK) (E : XK), Room k (A.deeper (envOfC x (defScope st) s.heap.objs.size f cdv)) → sp vs H Q E →
      ∃ t, PSs (cxOf CX0 P w K mg base N x (defScope st) f cdv A outer s H E).nox (defBody st) t ∧ t { nx := fun _ H' => Q .non H', rt := Q } (start N vs) H) : GOk P w K mg base CX0 (k + 1) x sp := by
  obtain ⟨f, fd, F, a, b⟩ := D
  exact ⟨f, FnOk.toR (F.ok S len fun cdv A outer s H vs Q E hr h => hbody f cdv A outer s H vs Q E hr h) b, a, F.kp⟩
theorem DefM.ok {N : List Str} (D : DefM K C m qual st ps) (S : FnScope N ps (defScope st)) (len : ∀ vs H Q E, sp vs H Q E → vs.length = ps.length)
    (hbody : ∀ (f : Addr) (cdv : Value) (A : Around) (outer : List Env) (s : Shared) (H : Hp) (vs : List V) (Q : VK) (E : XK), Room k (A.deeper (envOfC qual (defScope st) s.heap.objs.size f cdv)) → sp vs H Q E →
      ∃ t, PSs (cxOf CX0 P w K mg base N qual (defScope st) f cdv A outer s H E).nox (defBody st) t ∧ t { nx := fun _ H' => Q .non H', rt := Q } (start N vs) H) : MOk P w K mg base CX0 (k + 1) C m sp := by
  obtain ⟨f, fd, F, a, b⟩ := D
  exact ⟨f, FnOk.toR (F.ok S len fun cdv A outer s H vs Q E hr h => hbody f cdv A outer s H vs Q E hr h) b, a⟩
end

/-! ### calls by name -/
section
variable {X : Cx} {CX : CXT} {k : Nat} {C : Addr} {sp : Sp} {E : XK} {x m : Str} {e o : Expr} {es : List Expr} {te ta : TE} {t : TA} {p pos apos : Pos}
def tG (sp : Sp) (E : XK) (t : TA) : TE := fun σ H Q => t σ H fun vs H1 => sp vs H1 Q E
theorem pe_g (G : GOk X.prog X.w X.K X.mg X.base CX k x sp) (hr : Room k X.A) (hx : Passes CX X E) (ha : PA X (e :: es) t) (hg : Gl X x := by rfl) (hd : (x == ("__debug__" : Str)) = false := by decide)
    (he : starEach (e :: es) X.env = (false, eval e X.env) :: starEach es X.env := by rfl) (hpl : (backTo pos (starEach es X.env)).any (·.1) = false := by rfl) : PE X (.Call (.Name x p) (e :: es) [] pos) (tG sp E t) := by
  obtain ⟨f, F, hm, hk⟩ := G
  refine ⟨fun pins s σ H Q I h => ?_⟩
  refine wpAny_Call_Name_kw (ld_glob I hg hm ?_ hd)
  refine PySem.W.callWith_K (h₀ := X.base) I.ok.mod.kin hk (thn (ha.run pos pins s σ H _ I h) fun us s1 ⟨vs, H1, I1, r, q⟩ => ⟨I1.kIn, ?_⟩) he hpl
  exact wpAny_call (run_fnR F hr hx I1 r q)
theorem pe_g0 (G : GOk X.prog X.w X.K X.mg X.base CX k x sp) (hr : Room k X.A) (hx : Passes CX X E) (hg : Gl X x := by rfl) (hd : (x == ("__debug__" : Str)) = false := by decide) : PE X (.Call (.Name x p) [] [] pos) (tG sp E tNil) := by
  obtain ⟨f, F, hm, hk⟩ := G
  refine ⟨fun pins s σ H Q I h => ?_⟩
  refine wpAny_Call_Name_kw (ld_glob I hg hm ?_ hd)
  exact PySem.W.callWith_K0 I.kIn hk (wpAny_call (run_fnR (us := []) F hr hx I .nil h))
/-- an instance of C that has no attribute m -/
def InsM (H : Hp) (a C : Addr) (m : Str) : Prop := ∃ dx fs, H a = some (.ins C dx fs) ∧ fs.lookup m = none
def tM (C : Addr) (m : Str) (sp : Sp) (E : XK) (ta : TE) (t : TA) : TE := fun σ H Q => ta σ H fun x H1 => ∃ a, x = .ref a ∧ InsM H1 a C m ∧ t σ H1 fun vs H2 => sp (x :: vs) H2 Q E
theorem pe_m {pl : Sem Bool} (he : PE X o ta) (c : Cls X.K C) (G : MOk X.prog X.w X.K X.mg X.base CX k C m sp) (hr : Room k X.A) (hx : Passes CX X E) (ha : PA X (e :: es) t)
    (hst : starEach (e :: es) X.env = (false, eval e X.env) :: starEach es X.env := by rfl) (hpl : (backTo pos (starEach es X.env)).any (·.1) = false := by rfl)
    (ht : eval (.Call (.Attribute o m apos) (e :: es) [] pos) X.env = (do
      let ov ← eval o X.env
      standAt apos.atName
      let (f, first) ← holding [ov] (getMethod ov m pl)
      callWith pos f first (backTo pos (starEach (e :: es) X.env)) (backToKw pos (keywordEach [] X.env))) := by rfl) :
    PE X (.Call (.Attribute o m apos) (e :: es) [] pos) (tM C m sp E ta t) := by
  obtain ⟨f, F, hm⟩ := G
  refine ⟨fun pins s σ H Q I h => ?_⟩
  refine PySem.W.methodCall_KW (pl := pl) (thn (he.run pins s σ H _ I h) fun u s1 ⟨x, H1, I1, rx, a, ex, ⟨dx, fs, ea, l⟩, q⟩ => ?_) ht
  subst ex
  obtain rfl : u = Value.ref a := rx
  refine getmeth_ok I1 ea c hm l ?_
  refine PySem.W.callWith_K (first := [.ref a]) (h₀ := X.base) I.ok.mod.kin hm.kp (thn (ha.run pos pins s1 σ H1 _ I1 q) fun us s2 ⟨vs, H2, I2, r, q2⟩ => ⟨I2.kIn, ?_⟩) hst hpl
  exact wpAny_call (run_fnR (us := .ref a :: us) (vs := .ref a :: vs) F hr hx I2 (.cons rfl r) q2)
theorem pe_m0 {pl : Sem Bool} (he : PE X o ta) (c : Cls X.K C) (G : MOk X.prog X.w X.K X.mg X.base CX k C m sp) (hr : Room k X.A) (hx : Passes CX X E)
    (ht : eval (.Call (.Attribute o m apos) [] [] pos) X.env = (do
      let ov ← eval o X.env
      standAt apos.atName
      let (f, first) ← holding [ov] (getMethod ov m pl)
      callWith pos f first (backTo pos (starEach [] X.env)) (backToKw pos (keywordEach [] X.env))) := by rfl) :
    PE X (.Call (.Attribute o m apos) [] [] pos) (tM C m sp E ta tNil) := by
  obtain ⟨f, F, hm⟩ := G
  refine ⟨fun pins s σ H Q I h => ?_⟩
  refine PySem.W.methodCall_KW (pl := pl) (thn (he.run pins s σ H _ I h) fun u s1 ⟨x, H1, I1, rx, a, ex, ⟨dx, fs, ea, l⟩, q⟩ => ?_) ht
  subst ex
  obtain rfl : u = Value.ref a := rx
  refine getmeth_ok I1 ea c hm l ?_
  exact PySem.W.callWith_K0 (first := [.ref a]) I1.kIn hm.kp (wpAny_call (run_fnR (us := [.ref a]) (vs := [.ref a]) F hr hx I1 (.cons rfl .nil) q))

/-! ### making instances, by the promise of __init__ -/
/-- the class at C is made by an __init__ that keeps sp -/
def KOk (P : Program) (w : World) (K : PySem.W.Frag) (mg : Str → Option Value) (base : Heap) (CX : CXT) (k : Nat) (C : Addr) (sp : Sp) : Prop :=
  ∃ f, FnR P w K mg base CX k f sp ∧ Mk K C f
theorem pe_k (G : KOk X.prog X.w X.K X.mg X.base CX k C sp) (hr : Room (k + 1) X.A) (hm : X.mg x = some (.ref C)) (hx : Passes CX X E) (ha : PA X (e :: es) t) (hg : Gl X x := by rfl) (hdb : (x == ("__debug__" : Str)) = false := by decide)
    (he : starEach (e :: es) X.env = (false, eval e X.env) :: starEach es X.env := by rfl) (hpl : (backTo pos (starEach es X.env)).any (·.1) = false := by rfl) : PE X (.Call (.Name x p) (e :: es) [] pos) (tMakeR C sp E t) :=
  let ⟨_, F, M⟩ := G
  pe_makeR M F hr hg hm hx ha hdb he hpl
theorem pe_k0 (G : KOk X.prog X.w X.K X.mg X.base CX k C sp) (hr : Room (k + 1) X.A) (hm : X.mg x = some (.ref C)) (hx : Passes CX X E) (hg : Gl X x := by rfl) (hdb : (x == ("__debug__" : Str)) = false := by decide) :
    PE X (.Call (.Name x p) [] [] pos) (tMakeR C sp E tNil) := by
  obtain ⟨f, F, M⟩ := G
  refine ⟨fun pins s σ H Q I h => ?_⟩
  refine wpAny_Call_Name_kw (ld_glob I hg hm ?_ hdb)
  exact PySem.W.callWith_K0 I.kIn M.kp (run_makeR (us := []) M F hr hx I .nil h)
/-- C(*y), C by any name -/
def tMakeS (K : PySem.W.Frag) (C : Addr) (sp : Sp) (E : XK) (tf te : TE) : TE := fun σ H Q => tf σ H fun c H0 => c = V.ref C ∧ te σ H0 fun y H1 => ∃ a xs, y = V.ref a ∧ (SqT K H1 a xs ∨ SqL K H1 a xs) ∧
  ∀ x dx, H1 x = Option.none → H1 dx = Option.none → dx ≠ x → sp (V.ref x :: xs) (upd (upd H1 dx (.own x)) x (.ins C dx [])) (fun v H2 => v = .non ∧ Q (.ref x) H2) E
theorem pe_ks {tf : TE} {sp_ : Pos} (hf : PE X (.Name x p) tf) (G : KOk X.prog X.w X.K X.mg X.base CX k C sp) (hr : Room (k + 1) X.A) (hx : Passes CX X E) (he : PE X e te)
    (hst : starEach [.Starred e sp_] X.env = [(true, eval e X.env)] := by rfl) : PE X (.Call (.Name x p) [.Starred e sp_] [] pos) (tMakeS X.K C sp E tf te) := by
  obtain ⟨f, F, M⟩ := G
  refine ⟨fun pins s σ H Q I h => ?_⟩
  refine wpAny_Call_Name_kw (thn (hf.run pins s σ H _ I h) fun u0 s0 ⟨c, H0, I0, rc, ec, q0⟩ => ?_)
  subst ec
  obtain rfl : u0 = Value.ref C := rc
  refine PySem.W.callWith_S (h₀ := X.base) I.ok.mod.kin M.kp (thn (he.run pins s0 σ H0 _ I0 q0) fun v s1 ⟨y, H1, I1, ry, a, xs, ey, hxs, q⟩ => ?_) hst
  subst ey
  obtain rfl : v = Value.ref a := ry
  exact star_any I1 hxs fun us s2 I2 rv => ⟨I2.kIn, run_makeR M F hr hx I2 rv q⟩
/-- C(e, ..), C by a local name -/
def tMakeV (C : Addr) (sp : Sp) (E : XK) (tf : TE) (t : TA) : TE := fun σ H Q => tf σ H fun c H0 => c = V.ref C ∧ t σ H0 fun vs H1 => ∀ x dx, H1 x = Option.none → H1 dx = Option.none → dx ≠ x →
  sp (V.ref x :: vs) (upd (upd H1 dx (.own x)) x (.ins C dx [])) (fun v H2 => v = .non ∧ Q (.ref x) H2) E
theorem pe_kv {tf : TE} (hf : PE X (.Name x p) tf) (G : KOk X.prog X.w X.K X.mg X.base CX k C sp) (hr : Room (k + 1) X.A) (hx : Passes CX X E) (ha : PA X (e :: es) t)
    (he : starEach (e :: es) X.env = (false, eval e X.env) :: starEach es X.env := by rfl) (hpl : (backTo pos (starEach es X.env)).any (·.1) = false := by rfl) : PE X (.Call (.Name x p) (e :: es) [] pos) (tMakeV C sp E tf t) := by
  obtain ⟨f, F, M⟩ := G
  refine ⟨fun pins s σ H Q I h => ?_⟩
  refine wpAny_Call_Name_kw (thn (hf.run pins s σ H _ I h) fun u0 s0 ⟨c, H0, I0, rc, ec, q0⟩ => ?_)
  subst ec
  obtain rfl : u0 = Value.ref C := rc
  refine PySem.W.callWith_K (h₀ := X.base) I.ok.mod.kin M.kp (thn (ha.run pos pins s0 σ H0 _ I0 q0) fun us s1 ⟨vs, H1, I1, r, q⟩ => ⟨I1.kIn, ?_⟩) he hpl
  exact run_makeR M F hr hx I1 r q
end

/-! ### own operators -/
section
variable {X : Cx} {CX : CXT} {k : Nat} {C f : Addr} {sp : Sp} {E : XK}
def InsA (H : Hp) (a C : Addr) : Prop := ∃ dx fs, H a = some (.ins C dx fs)
theorem InsA.at {pins : List (Addr × Obj)} {σ : St} {H : Hp} {s : Shared} {a : Addr} (I : Inv X pins σ H s) (h : InsA H a C) : ∃ ox od, PySem.W.InstAt s.heap a ox C od := by
  obtain ⟨dx, fs, h⟩ := h
  obtain ⟨mA, O, _⟩ := ins_get I.hok h
  obtain ⟨od, J, _⟩ := O.look
  exact ⟨_, _, J⟩
/-- what a class must have for x op y by its own method, y of the same class -/
structure BOwn (K : PySem.W.Frag) (C : Addr) (m : Str) (f : Addr) : Prop where
  first : PySem.W.selfFirst K C = true
  at_ : PySem.W.findIn K (.ref C) m = some (some (.ref f))
  fn : PySem.W.isFn K (.ref f) = true
theorem ncb {u : Value} {x : V} (r : RelV x u) {Q : Value → Shared → Prop} {s : Shared} (h : Q u s) : PySem.W.CmpBack Q u s := by
  cases x with
  | non => cases r; exact h
  | bl _ => cases r; exact h
  | int _ => obtain ⟨t, rfl⟩ := r; exact h
  | str _ => obtain ⟨t, rfl⟩ := r; exact h
  | byt _ => obtain ⟨t, rfl⟩ := r; exact h
  | flt _ => obtain ⟨t, rfl⟩ := r; exact h
  | ref _ => cases r; exact h
  | ty _ => cases r; exact h
def rOwn (C : Addr) (sp : Sp) (E : XK) : R2 := fun x y H Q => ∃ a b, x = .ref a ∧ y = .ref b ∧ InsA H a C ∧ InsA H b C ∧ sp [x, y] H Q E
theorem op_own {op : Operator} (b : BOwn X.K C (PySem.dunder op.info.2) f) (F : FnR X.prog X.w X.K X.mg X.base CX k f sp) (hr : Room k X.A) (hx : Passes CX X E) : OpR X (binaryOp op) (rOwn C sp E) := by
  intro pins s σ H x y v u Q I rx ry h
  obtain ⟨a, c, rfl, rfl, ia, ic, q⟩ := h
  obtain rfl : v = Value.ref a := rx
  obtain rfl : u = Value.ref c := ry
  obtain ⟨ox, od, J⟩ := ia.at I
  obtain ⟨oy, od', J'⟩ := ic.at I
  obtain ⟨m, Fr0⟩ := I.fr
  refine PySem.W.binop_K Fr0 I.ok.mod.kin J J'.type b.first b.at_ b.fn ?_
  exact wpAny_call (codeAny_mono (run_fnR (us := [.ref a, .ref c]) (vs := [.ref a, .ref c]) F hr hx I (.cons rfl (.cons rfl .nil)) q) fun r s' hq => by
    cases r with
    | error e => exact hq
    | ok fl =>
      cases fl with
      | ret w =>
        obtain ⟨v', H', I', rv, q'⟩ := hq
        exact ncb rv ⟨v', H', I', rv, q'⟩
      | next => exact hq
      | brk => exact hq
      | cont => exact hq)
/-- .. y an int -/
structure BOwnI (K : PySem.W.Frag) (C : Addr) (op : Operator) (f : Addr) : Prop where
  first : PySem.W.selfFirst K C = true
  at_ : PySem.W.findIn K (.ref C) (PySem.dunder op.info.2) = some (some (.ref f))
  fn : PySem.W.isFn K (.ref f) = true
  rr : PySem.W.findIn K (.ref C) (dunderR op.info.2) = some none
  h1 : ∃ fo, PySem.W.findIn K (.type "int") (PySem.dunder op.info.2) = some fo
  h2 : ∃ ro, PySem.W.findIn K (.type "int") (dunderR op.info.2) = some ro
  sub : PySem.W.subIn K (.type "int") (.ref C) = some false
def rOwnI (C : Addr) (sp : Sp) (E : XK) : R2 := fun x y H Q => ∃ a i, x = .ref a ∧ y = .int i ∧ InsA H a C ∧ sp [x, y] H Q E
theorem op_ownI {op : Operator} (b : BOwnI X.K C op f) (F : FnR X.prog X.w X.K X.mg X.base CX k f sp) (hr : Room k X.A) (hx : Passes CX X E) : OpR X (binaryOp op) (rOwnI C sp E) := by
  intro pins s σ H x y v u Q I rx ry h
  obtain ⟨a, i, rfl, rfl, ia, q⟩ := h
  obtain rfl : v = Value.ref a := rx
  obtain ⟨t, rfl⟩ := ry
  obtain ⟨ox, od, J⟩ := ia.at I
  obtain ⟨m, Fr0⟩ := I.fr
  obtain ⟨fo, h1⟩ := b.h1
  obtain ⟨ro, h2⟩ := b.h2
  refine PySem.W.ksp_binT Fr0 I.ok.mod.kin J (T := "int") rfl b.first b.at_ b.fn b.rr (.inl rfl) h1 h2 b.sub ?_
  exact wpAny_call (codeAny_mono (run_fnR (us := [.ref a, .int i t]) (vs := [.ref a, .int i]) F hr hx I (.cons rfl (.cons ⟨t, rfl⟩ .nil)) q) fun r s' hq => by
    cases r with
    | error e => exact hq
    | ok fl =>
      cases fl with
      | ret w =>
        obtain ⟨v', H', I', rv, q'⟩ := hq
        exact ncb rv ⟨v', H', I', rv, q'⟩
      | next => exact hq
      | brk => exact hq
      | cont => exact hq)
/-- x[y] by the own __getitem__ -/
structure IOwn (K : PySem.W.Frag) (C f : Addr) : Prop where
  at_ : PySem.W.findIn K (.ref C) "__getitem__" = some (some (.ref f))
  fi : PySem.W.fnIn K f = true
  fn : PySem.W.isFn K (.ref f) = true
def tIxOwn (C : Addr) (sp : Sp) (E : XK) (ta tb : TE) : TE := fun σ H Q => ta σ H fun x H1 => tb σ H1 fun y H2 => ∃ a, x = .ref a ∧ InsA H2 a C ∧ sp [x, y] H2 Q E
end
end L2.Px

set_option Elab.async false
set_option linter.all false
set_option maxRecDepth 100000
set_option maxHeartbeats 1000000
namespace L2.Px
open PySem PySem.Spec PyProof.Rows StX

/-! ### own [] and in -/
section
variable {X : Cx} {CX : CXT} {k : Nat} {C f : Addr} {sp : Sp} {E : XK} {a b : Expr} {ta tb : TE} {pos : Pos}
theorem run_in1 {pins : List (Addr × Obj)} {σ : St} {H : Hp} {s : Shared} {Q : VK} {us : List Value} {vs : List V} (F : FnR X.prog X.w X.K X.mg X.base CX k f sp) (hr : Room (k + 1) X.A) (hx : Passes CX X E) (I : Inv X pins σ H s) (r : Vals vs us) (h : sp vs H Q E) :
    wpAny (model X.prog X.w) X.A.in1 (call (.ref f) us) (EP X pins σ Q) X.xe s := by
  refine wpAny_call (codeAny_mono (F X.A.in1 X.stack s H us vs Q E hr.in1 I.env0.in1 r h) fun r s' hq => ?_)
  cases r with
  | error e => exact hx pins σ H s e s' I hq
  | ok fl =>
    cases fl with
    | ret u => exact I.after hq
    | next => exact False.elim hq
    | brk => exact False.elim hq
    | cont => exact False.elim hq
theorem pe_ixOwn (c : IOwn X.K C f) (F : FnR X.prog X.w X.K X.mg X.base CX k f sp) (hr : Room (k + 1) X.A) (hx : Passes CX X E) (ha : PE X a ta) (hb : PE X b tb)
    (hsl : ∀ x i, subscripted b true (.ref x) i = runValue (.builtin "lifetime.subscript" ⟨[.ref x, i], []⟩) := by intros; rfl) : PE X (.Subscript a b pos) (tIxOwn C sp E ta tb) := by
  refine ⟨fun pins s σ H Q I h => ?_⟩
  refine Subscript_ (binT (R := fun x y H2 => ∃ a, x = .ref a ∧ InsA H2 a C ∧ sp [x, y] H2 Q E) ha hb I h fun v u s2 x y H2 I2 rx ry q => ?_)
  obtain ⟨p, rfl, ip, q⟩ := q
  obtain rfl : v = Value.ref p := rx
  obtain ⟨ox, od, J⟩ := ip.at I2
  obtain ⟨m, Fr0⟩ := I2.fr
  exact PySem.W.sub_K Fr0 I.ok.mod.kin J c.at_ c.fi c.fn (run_in1 (us := [.ref p, u]) (vs := [.ref p, y]) F hr hx I2 (.cons rfl (.cons ry .nil)) q) (hsl p u)
structure COwn (K : PySem.W.Frag) (C f : Addr) : Prop where
  at_ : PySem.W.findIn K (.ref C) "__contains__" = some (some (.ref f))
  fn : PySem.W.isFn K (.ref f) = true
def rInOwn (C : Addr) (sp : Sp) (E : XK) : R2 := fun y x H Q => ∃ a, x = .ref a ∧ InsA H a C ∧ sp [x, y] H (fun v H' => ∃ k, v = .bl k ∧ Q (.bl k) H') E
theorem op_inOwn (c : COwn X.K C f) (F : FnR X.prog X.w X.K X.mg X.base CX k f sp) (hr : Room k X.A) (hx : Passes CX X E) : OpR X (compareOp .In) (rInOwn C sp E) := by
  intro pins s σ H y x v u Q I ry rx h
  obtain ⟨p, rfl, ip, q⟩ := h
  obtain rfl : u = Value.ref p := rx
  obtain ⟨ox, od, J⟩ := ip.at I
  obtain ⟨m, Fr0⟩ := I.fr
  refine PySem.W.in_K Fr0 I.ok.mod.kin J c.at_ c.fn ?_
  refine wpAny_call (codeAny_mono (run_fnR (us := [.ref p, v]) (vs := [.ref p, y]) F hr hx I (.cons rfl (.cons ry .nil)) q) fun r s' hq => ?_)
  cases r with
  | error e => exact hq
  | ok fl =>
    cases fl with
    | ret w =>
      obtain ⟨v', H', I', rv, k, ev, q'⟩ := hq
      subst ev
      obtain rfl : w = Value.bool k := rv
      exact wpAny_truthy_bool ⟨.bl k, H', I', rfl, q'⟩
    | next => exact hq
    | brk => exact hq
    | cont => exact hq
end

/-! ### match -/
section
variable {X : Cx}
abbrev MQ := List (Str ⊕ Nat)
/-- the sub-patterns of a sequence: written texts and names -/
inductive PatEach (X : Cx) : List Pattern → MQ → Prop
  | nil : PatEach X [] []
  | val {z : Str} {k : Nat} {c pp : Pos} {ps : List Pattern} {qs : MQ} (h : PatEach X ps qs) : PatEach X (.MatchValue (.Constant (.str z) k c) pp :: ps) (.inl z :: qs)
  | cap {x : Str} {i : Nat} {pp : Pos} {ps : List Pattern} {qs : MQ} (h : X.N[i]? = some x ∧ Loc X.env.scope x ∧ (X.fn x = true ∨ X.env.scope.names.lookup x = some .local)) (h2 : PatEach X ps qs) : PatEach X (.MatchAs none (some x) pp :: ps) (.inr i :: qs)
def mBind : MQ → List V → Option (List (Nat × V))
  | .inl z :: qs, v :: vs => if v = .str z then mBind qs vs else none
  | .inr i :: qs, v :: vs => (mBind qs vs).map ((i, v) :: ·)
  | _, _ => some []
def scalOk : MQ → List V → Prop
  | .inl z :: qs, v :: vs => scal v (.str z) = true ∧ (v = .str z → scalOk qs vs)
  | .inr _ :: qs, _ :: vs => scalOk qs vs
  | _, _ => True
def setAll : St → List (Nat × V) → St
  | σ, [] => σ
  | σ, (i, v) :: bs => setAll (σ.set i (some v)) bs
/-- the names' values, as the matching hands them on -/
def BindsAre (X : Cx) : List (Nat × V) → List (Str × Value) → Prop := Paired fun p q => (X.N[p.1]? = some q.1 ∧ Loc X.env.scope q.1 ∧ (X.fn q.1 = true ∨ X.env.scope.names.lookup q.1 = some .local)) ∧ RelV p.2 q.2
theorem matchEach_run {pins : List (Addr × Obj)} {σ : St} {H : Hp} : ∀ {ps : List Pattern} {qs : MQ} {vs : List V} {us : List Value} {s : Shared}, PatEach X ps qs → Vals vs us → qs.length = vs.length → scalOk qs vs → Inv X pins σ H s →
    wpAny (model X.prog X.w) X.A (matchEach ps X.env us) (fun r s' => Inv X pins σ H s' ∧ match mBind qs vs with | none => r = none | some bs => ∃ bs', r = some bs' ∧ BindsAre X bs bs') X.xe s := by
  intro ps
  induction ps with
  | nil =>
    intro qs vs us s hp r hl hs I
    cases hp
    cases vs with
    | nil =>
      cases r
      exact wpAny_matchEach_nil ⟨I, [], rfl, .nil⟩
    | cons v vs => cases hl
  | cons p ps ih =>
    intro qs vs us s hp r hl hs I
    cases qs with
    | nil => cases hp
    | cons q qs =>
      cases vs with
      | nil => cases hl
      | cons v vs =>
        cases r with
        | cons rv rr =>
          rename_i u us
          have hl' : qs.length = vs.length := Nat.succ.inj hl
          cases q with
          | inl z' =>
            cases hp with
            | val hp2 =>
            rename_i k c pp
            obtain ⟨sc, hs2⟩ := hs
            refine wpAny_matchEach_cons (wpAny_matchPattern_Value (Calls.Constant_str ?_)) rfl
            have I1 := I.tok (s.toks + 1)
            refine thn (op_eq pins { s with toks := s.toks + 1 } σ H v (.str z') u (.str z' s.toks) (fun x H' => H' = H ∧ x = .bl (decide (v = .str z'))) I1 rv ⟨_, rfl⟩ ⟨sc, rfl, rfl⟩) fun w s2 hw => ?_
            obtain ⟨x, H', I2, rx, eH, ex⟩ := hw
            subst eH ex
            obtain rfl : w = Value.bool (decide (v = .str z')) := rx
            refine wpAny_truthy_bool ?_
            by_cases hv : v = .str z'
            · rw [if_pos (decide_eq_true hv)]
              refine thn (ih hp2 rr hl' (hs2 hv) I2) fun r' s3 ⟨I3, h3⟩ => ?_
              unfold mBind
              rw [if_pos hv]
              revert h3
              cases mBind qs vs with
              | none => intro h3; subst h3; exact ⟨I3, rfl⟩
              | some bs =>
                rintro ⟨bs', e, hb⟩
                subst e
                exact ⟨I3, bs', rfl, hb⟩
            · rw [if_neg (by simp [hv])]
              unfold mBind
              rw [if_neg hv]
              exact ⟨I2, rfl⟩
          | inr i =>
            cases hp with
            | cap hx hp2 =>
            refine wpAny_matchEach_cons (wpAny_matchPattern_Capture ?_) rfl
            refine thn (ih hp2 rr hl' hs I) fun r' s3 ⟨I3, h3⟩ => ?_
            unfold mBind
            revert h3
            cases mBind qs vs with
            | none => intro h3; subst h3; exact ⟨I3, rfl⟩
            | some bs =>
              rintro ⟨bs', e, hb⟩
              subst e
              exact ⟨I3, _, rfl, .cons ⟨hx, rv⟩ hb⟩
theorem binds_run {pins : List (Addr × Obj)} {H : Hp} (hN : X.N.Nodup) : ∀ {bs : List (Nat × V)} {bs' : List (Str × Value)} {σ : St} {s : Shared} {Q : Unit → Shared → Prop} {E : Value → Shared → Prop}, BindsAre X bs bs' → Inv X pins σ H s →
    (∀ s', Inv X pins (setAll σ bs) H s' → Q () s') → wpAny (model X.prog X.w) X.A (assignInOrder (bs'.map fun (n, _) => bindName X.env n) (bs'.map (·.2))) Q E s
  | [], _, σ, s, Q, E, .nil, I, h => assignInOrder_nil (h s I)
  | (i, v) :: bs, (x, u) :: bs', σ, s, Q, E, .cons hx hb, I, h => by
    obtain ⟨⟨h1, h2, h3⟩, rv⟩ := hx
    refine assignInOrder_cons (wpAny_bindName (store_ok I hN h1 h2 rv (fun s1 I1 => ?_) h3))
    exact binds_run hN hb I1 h
abbrev TC := V → TS
/-- the cases of a match, from one on -/
structure PCs (X : Cx) (cs : List MatchCase) (t : TC) : Prop where
  run : ∀ (first : Bool) (pins : List (Addr × Obj)) (s : Shared) (σ : St) (H : Hp) (D : Ends) (x : V) (v : Value), Inv X pins σ H s → RelV x v → t x D σ H → wpAny (model X.prog X.w) X.A (matchCases cs X.env v first) (SP X pins D) X.xe s
theorem pcs_nil : PCs X [] (fun _ D σ H => D.nx σ H) := ⟨fun _ _ _ σ H _ _ _ I _ h => wpAny_matchCases_nil ⟨σ, H, I, h⟩⟩
/-- case _: -/
theorem pcs_wild {body : List Stmt} {tb : TS} {p : Pos} (hb : PSs X body tb) : PCs X [⟨.MatchAs none none p, none, body⟩] (fun _ => tb) := by
  refine ⟨fun first pins s σ H D x v I r h => ?_⟩
  exact wpAny_matchCases_cons (wpAny_matchPattern_Capture (assignInOrder_nil (hb.run pins s σ H D I h)))
def NoSeq : V → Prop
  | .non | .bl _ | .int _ | .str _ => True
  | _ => False
def tCaseS (K : PySem.W.Frag) (qs : MQ) (g : TT) (tb : TS) (rest : TC) : TC := fun x D σ H =>
  (NoSeq x ∧ rest x D σ H) ∨ ∃ a xs, x = .ref a ∧ (SqT K H a xs ∨ SqL K H a xs) ∧ ((xs.length ≠ qs.length ∧ rest x D σ H) ∨ (xs.length = qs.length ∧ scalOk qs xs ∧
    match mBind qs xs with
    | none => rest x D σ H
    | some bs => g (setAll σ bs) H fun ok H1 => if ok = true then tb D (setAll σ bs) H1 else rest x D (setAll σ bs) H1))
theorem noseq_flag {x : V} {v : Value} (n : NoSeq x) (r : RelV x v) {Q : Bool → Shared → Prop} {M : Model} {A : Around} {E : Value → Shared → Prop} {s : Shared} (h : Q false s) : wpAny M A (collectionFlag true v) Q E s := by
  cases x with
  | non => cases r; exact wpAny_collectionFlag (T := "NoneType") rfl flag_seq_None h
  | bl _ => cases r; exact wpAny_collectionFlag (T := "bool") rfl flag_seq_bool h
  | int _ => obtain ⟨t, rfl⟩ := r; exact wpAny_collectionFlag (T := "int") rfl flag_seq_int h
  | str _ => obtain ⟨t, rfl⟩ := r; exact wpAny_collectionFlag (T := "str") rfl flag_seq_str h
  | byt _ => exact n.elim
  | flt _ => exact n.elim
  | ref _ => exact n.elim
  | ty _ => exact n.elim
/-- case [p1, p2, ..] if g: -/
theorem pcs_seq {ps : List Pattern} {qs : MQ} {g : Expr} {body : List Stmt} {rest : List MatchCase} {tg : TT} {tb : TS} {tr : TC} {p : Pos} (hc : X.calm = true) (hN : X.N.Nodup) (hp : PatEach X ps qs) (hl : ps.length = qs.length) (hg : PT X g tg) (hb : PSs X body tb) (hr : PCs X rest tr)
    (hstar : ps.findIdx? (·.isStar) = none := by rfl) (hwild : (ps.all fun p => p.isWildcard || (p.isStar && p.names.isEmpty)) = false := by rfl) : PCs X (⟨.MatchSequence ps p, some g, body⟩ :: rest) (tCaseS X.K qs tg tb tr) := by
  refine ⟨fun first pins s σ H D x v I r h => wpAny_matchCases_cons ?_⟩
  rcases h with ⟨n, h⟩ | ⟨a, xs, rfl, hq, h⟩
  · refine wpAny_matchPattern_Sequence (noseq_flag n r ?_) hstar hwild
    rw [if_neg Bool.false_ne_true]
    exact hr.run false pins s σ H D x v I r h
  · obtain rfl : v = Value.ref a := r
    have tail : ∀ {us : List Value} {s1 : Shared}, Inv X pins σ H s1 → Vals xs us → xs.length = qs.length → scalOk qs xs → (match mBind qs xs with
        | none => tr (.ref a) D σ H
        | some bs => tg (setAll σ bs) H fun ok H1 => if ok = true then tb D (setAll σ bs) H1 else tr (.ref a) D (setAll σ bs) H1) →
        wpAny (model X.prog X.w) X.A (matchEach ps X.env us) (fun r s₁ => match r with
          | none => wpAny (model X.prog X.w) X.A (matchCases rest X.env (.ref a) false) (SP X pins D) X.xe s₁
          | some bs => wpAny (model X.prog X.w) X.A (assignInOrder (bs.map fun (n, _) => bindName X.env n) (bs.map (·.2))) (fun _ s₂ =>
              wpAny (model X.prog X.w) X.A (isTrue g X.env (eval g X.env)) (fun ok s₃ => if ok then wpAny (model X.prog X.w) X.A (execs body X.env) (SP X pins D) X.xe s₃ else wpAny (model X.prog X.w) X.A (matchCases rest X.env (.ref a) false) (SP X pins D) X.xe s₃) X.xe s₂) X.xe s₁) X.xe s1 := by
      intro us s1 I1 rv hl2 hs hm
      refine thn (matchEach_run hp rv hl2.symm hs I1) fun r' s3 ⟨I3, h3⟩ => ?_
      revert h3 hm
      cases mBind qs xs with
      | none => intro hm h3; subst h3; exact hr.run false pins s3 σ H D (.ref a) _ I3 rfl hm
      | some bs =>
        rintro hm ⟨bs', e, hb'⟩
        subst e
        refine binds_run hN hb' I3 fun s4 I4 => ?_
        refine thn (hg.run pins s4 _ H _ I4 hm) fun ok s5 ⟨H5, I5, h5⟩ => ?_
        cases ok with
        | true => exact hb.run pins s5 _ H5 D I5 h5
        | false => exact hr.run false pins s5 _ H5 D (.ref a) _ I5 rfl h5
    rcases hq with hq | hq
    · obtain ⟨its, rv, ht, hz⟩ := I.tuple hq
      have hfit : (its.toArray.size : Int) < 2 ^ 63 := by
        have e := rv.length
        have z := line63
        rw [List.size_toArray]
        omega
      have I1 := I.tok (s.toks + 1 + 1)
      rcases h with ⟨hn, h⟩ | ⟨hn, hs, h⟩
      · exact matchSeq_tuple_miss ht hfit (by rw [List.size_toArray, ← rv.length, hl]; exact hn) (hr.run false pins _ σ H D (.ref a) _ I1 rfl h) hstar hwild
      · refine matchSeq_tuple_hit ht hfit (by rw [List.size_toArray, ← rv.length, hl]; exact hn) ?_ hstar hwild
        have e : ps.length = its.toArray.size := by rw [List.size_toArray, ← rv.length, hl]; exact hn.symm
        rw [e]
        refine unpackItems_tuple (I.ok.hd hc) ht fun h' hx => ?_
        exact tail (I1.kept (t' := s.toks + 1 + 1) fun b o q => hx b o (Nat.ne_of_lt (Heap.lt_size q)) q) (by simpa using rv) hn hs h
    · obtain ⟨its, rv, pl, hz⟩ := I.list hq
      have hfit : (its.toArray.size : Int) < 2 ^ 63 := by
        have e := rv.length
        have z := line63
        rw [List.size_toArray]
        omega
      have I1 := I.tok (s.toks + 1 + 1)
      rcases h with ⟨hn, h⟩ | ⟨hn, hs, h⟩
      · exact matchSeq_list_miss pl.isList hfit (by rw [List.size_toArray, ← rv.length, hl]; exact hn) (hr.run false pins _ σ H D (.ref a) _ I1 rfl h) hstar hwild
      · refine matchSeq_list_hit pl.isList hfit (by rw [List.size_toArray, ← rv.length, hl]; exact hn) ?_ hstar hwild
        have e : ps.length = its.toArray.size := by rw [List.size_toArray, ← rv.length, hl]; exact hn.symm
        rw [e]
        refine PySem.W.kun_itemsOf (I.ok.hd hc) pl.isList fun h' hx => ?_
        exact tail (I1.kept (t' := s.toks + 1 + 1) fun b o q => hx b o (Nat.ne_of_lt (Heap.lt_size q)) q) (by simpa using rv) hn hs h
def tMatch (te : TE) (tc : TC) : TS := fun D σ H => te σ H fun x H1 => tc x D σ H1
theorem ps_match {e : Expr} {cs : List MatchCase} {te : TE} {tc : TC} {pos : Pos} (he : PE X e te) (hc : PCs X cs tc) : PS X (.Match e cs pos) (tMatch te tc) := by
  refine ⟨fun pins s σ H D I h => wpAny_Match (thn (he.run pins s σ H _ I h) fun v s1 ⟨x, H1, I1, r, q⟩ => ?_)⟩
  exact hc.run true pins s1 σ H1 D x v I1 r q
end
end L2.Px

set_option Elab.async false
set_option linter.all false
set_option maxRecDepth 100000
set_option maxHeartbeats 1000000
/-! enumerate of a tuple -/
namespace PySem
open Sem (wp)
open AutoSeq1 (wpAny_loadPart')
theorem pxMeets_enumerate_newT (l : Addr) (items : Array Value) (n : Nat) (dct : Option Addr) (sl : Array (Option Value)) :
    Meets (Builtin.«enumerate.__new__» ⟨[.type "enumerate", .ref l], []⟩) (fun _ R s => s.heap.get? l = some { cls := .type "tuple", dict := dct, data := .seq items n, slots := sl } ∧
      R (.ok (.ret (.ref (s.heap.push { cls := .type "tuple_iterator", data := .fields #[.ref l, .int 0 0] }).objs.size)))
        { s with heap := (s.heap.push { cls := .type "tuple_iterator", data := .fields #[.ref l, .int 0 0] }).push { cls := .type "enumerate", data := .fields #[.none, .bool false, .ref s.heap.objs.size, rawInt 0, .none, .none] } }) :=
  .of_wp fun prog w A R s h => by
    obtain ⟨hp, g, d, tk, os⟩ := s; obtain ⟨hl, h⟩ := h
    have hsub := sub_enumerate
    have hL : Heap.IsTuple (Shared.heap ⟨hp, g, d, tk, os⟩) l items := ⟨_, hl, rfl, n, rfl⟩
    wp_walk using wpAny_loadPart' hl
    refine wpAny_stack_any fun st => wpAny_pure ?_
    split
    · rename_i c _ _ _ _ _
      cases (c == Value.type "enumerate")
      · wp_walk using wpAny_loadPart' hl, wpAny_pyIter_tuple hL
        exact ⟨_, rfl, h⟩
      · wp_walk using wpAny_loadPart' hl, wpAny_pyIter_tuple hL
        exact ⟨_, rfl, h⟩
    · wp_walk using wpAny_loadPart' hl, wpAny_pyIter_tuple hL
      exact ⟨_, rfl, h⟩
section
variable {prog : Program} {w : World} {A : Around} {E : Value → Shared → Prop} {s : Shared}
theorem pxCall_enumerate_tuple {l : Addr} {items : Array Value} {Q : Value → Shared → Prop} (hL : s.heap.IsTuple l items)
    (h : ∀ h', IsEnum h' (s.heap.objs.size + 1) s.heap.objs.size 0 .none → h'.IsTupleIter s.heap.objs.size l 0 → h'.objs.size = s.heap.objs.size + 2 →
      (∀ b o, s.heap.get? b = some o → h'.get? b = some o) → Q (.ref (s.heap.objs.size + 1)) { s with heap := h' }) :
    wpAny (model prog w) A (call (.type "enumerate") [.ref l]) Q E s := by
  obtain ⟨⟨c, dct, dt, sl⟩, hl, hc, n, hd⟩ := hL
  replace hc : c = .type "tuple" := hc
  replace hd : dt = .seq items n := hd
  subst hc hd
  refine callType_new F.called_enumerate (by decide) (F.typeCall_enumerate_1 _) (F.newCall_enumerate_1 _) (fun obj => F.args_object_init_2 obj _) F.entry_enumerate_new
    (pxMeets_enumerate_newT l items n dct sl) ⟨hl, ?_⟩
  have hz : (s.heap.push { cls := .type "tuple_iterator", data := .fields #[.ref l, .int 0 0] }).objs.size = s.heap.objs.size + 1 := Heap.size_push ..
  show _ ∧ _
  rw [hz]
  have he : IsEnum ((s.heap.push { cls := .type "tuple_iterator", data := .fields #[.ref l, .int 0 0] }).push
      { cls := .type "enumerate", data := .fields #[.none, .bool false, .ref s.heap.objs.size, rawInt 0, .none, .none] }) (s.heap.objs.size + 1) s.heap.objs.size 0 .none := by
    have := Heap.get?_push_size (s.heap.push { cls := .type "tuple_iterator", data := .fields #[.ref l, .int 0 0] })
      (o := { cls := .type "enumerate", data := .fields #[.none, .bool false, .ref s.heap.objs.size, rawInt 0, .none, .none] }) rfl
    rw [hz] at this; exact this
  refine ⟨⟨_, he, rfl⟩, h _ he ⟨_, Heap.get?_push_of_some _ (Heap.get?_push_size _ rfl), rfl, rfl⟩ (by rw [Heap.size_push, hz]) fun b o x => Heap.get?_push_of_some _ (Heap.get?_push_of_some _ x)⟩
end
end PySem
namespace L2.Px
open PySem PySem.Spec PyProof.Rows StX
/-- the tuple at a, each item in a new pair -/
def IteT (K : PySem.W.Frag) (a : Addr) : It :=
  ⟨fun i H => ∃ (xs : List V) (x : V), SqT K H a xs ∧ xs[i]? = some x, fun i H v H' => ∃ T x, v = .ref T ∧ H T = none ∧ H' = upd H T (.tup [.int (i : Nat), x]) ∧ ∀ xs, SqT K H a xs → xs[i]? = some x, fun i H => ∃ xs : List V, SqT K H a xs ∧ xs.length ≤ i⟩
theorem turn_enumT {P : Program} {w : World} {K : PySem.W.Frag} {elts : List Expr} {kk : Nat} {tpos : Pos} (a e it : Addr) :
    Turn P w K (.Tuple elts kk tpos) (IteT K a) [e, it] e (fun i h => (∃ old, IsEnum h e it ((i : Nat) : Int) old) ∧ h.IsTupleIter it a i ∧ e ≠ it) where
  mem := by simp
  obj := fun i h st b hb => by
    obtain ⟨⟨old, he⟩, ⟨o, ho, hc, hd⟩, _⟩ := st
    have e' : b = e ∨ b = it := by simpa using hb
    rcases e' with z | z
    · rw [z]; exact ⟨_, he, fun v q => nomatch q⟩
    · rw [z]; exact ⟨o, ho, fun v q => by rw [hd] at q; cases q⟩
  keep := fun i h h' st k => let ⟨⟨old, he⟩, hi, hne⟩ := st; ⟨⟨old, k e (by simp) _ he⟩, hi.at fun o q => k it (by simp) o q, hne⟩
  item := by
    intro X hP hw hK hc i pins s σ H E I hf st hg
    subst hP hw hK
    obtain ⟨⟨old, he⟩, hit, hne⟩ := st
    obtain ⟨xs, x, hq, hx⟩ := hg
    obtain ⟨its, rv, p, hz⟩ := I.tuple hq
    obtain ⟨u, hu, ru⟩ := rv.get hx
    have hel : e < s.heap.objs.size := Heap.lt_size he
    have hil : it < s.heap.objs.size := by obtain ⟨_, q, _⟩ := hit; exact Heap.lt_size q
    have hh : X.A.handled = none := I.ok.hd hc
    have hait : a ≠ it := by
      rintro rfl
      obtain ⟨o1, q1, c1, _⟩ := p
      obtain ⟨o2, q2, c2, _⟩ := hit
      rw [q1] at q2; cases q2; rw [c1] at c2; exact absurd (Value.type.inj c2) (by decide)
    have hae : e ≠ a := by
      rintro rfl
      obtain ⟨o1, q1, c1, _⟩ := p
      have he' : s.heap.get? e = some _ := he
      rw [q1] at he'; cases he'; exact absurd (Value.type.inj c1) (by decide)
    have hi : i < its.toArray.size := by
      rw [List.size_toArray]
      exact (List.getElem?_eq_some_iff.mp hu).1
    refine wpAny_pyNext_enum_itemD (Draws.tuple (A := X.A.in1) hh it a hait its.toArray) he ⟨hit, p⟩ hi hne (by simp [hne, hae]) fun u' h' tk hu' ho hit' hT hsz hk => ?_
    have eu : u' = u := by
      have q : its[i]? = some u' := by simpa using hu'
      rw [hu] at q; exact (Option.some.inj q).symm
    subst eu
    refine ⟨_, rfl, wpAny_letOwnedTupleGo_enum (s := { s with heap := h', toks := tk + 1 }) ho fun h'' he' sb => ?_⟩
    have hT2 : h''.get? s.heap.objs.size = some { cls := .type "tuple", data := .seq #[.int i tk, u'] } := (sb.2 _ (Nat.ne_of_gt hel)).trans hT
    have new : ObjOk X.prog X.w (upd H s.heap.objs.size (.tup [.int (i : Nat), x])) h'' s.heap.objs.size (.tup [.int (i : Nat), x]) :=
      ⟨by show 2 ≤ sizeLine; decide, [.int i tk, u'], .cons ⟨_, rfl⟩ (.cons ru .nil), ⟨_, hT2, rfl, _, rfl⟩⟩
    have I1 : Inv X pins σ (upd H s.heap.objs.size (.tup [.int (i : Nat), x])) { s with heap := h'', toks := tk + 1 } :=
      I.turnedNew (ch := [e, it]) (fun b ob hb q => (sb.2 b (fun z => hb (by simp [z]))).trans (hk b ob (fun z => hb (by simp [z])) (fun z => hb (by simp [z])) q)) hf (Nat.le_refl _) new
    refine ⟨.ref s.heap.objs.size, _, I1, rfl, ⟨_, x, rfl, I.hok.fresh (Nat.le_refl _), rfl, fun ys hy => by rw [I.tuple_inj hy hq]; exact hx⟩, ⟨⟨u', ?_⟩, hit'.1.at fun o q => (sb.2 it (Ne.symm hne)).trans q, hne⟩, fun b hb => ?_⟩
    · have e1 : ((i + 1 : Nat) : Int) = (i : Int) + 1 := by omega
      rw [e1]; exact he'
    · have hb' : b < s.heap.objs.size := by
        have e' : b = e ∨ b = it := by simpa using hb
        rcases e' with z | z
        · rw [z]; exact hel
        · rw [z]; exact hil
      rw [upd_ne (Nat.ne_of_lt hb')]
      exact (hf b hb).1
  done := by
    intro X hP hw hK hc i pins s σ H E I hf st hg
    subst hP hw hK
    obtain ⟨⟨old, he⟩, hit, hne⟩ := st
    obtain ⟨xs, hq, hx⟩ := hg
    obtain ⟨its, rv, p, hz⟩ := I.tuple hq
    obtain ⟨f0, f1, f2, f3, f4, f5⟩ := hf it (by simp)
    have hh : X.A.handled = none := I.ok.hd hc
    have hn : its.toArray[i]? = none := by
      have hl := rv.length
      simp; omega
    have hT : s.TypeIs (.ref e) "enumerate" := ⟨_, he, rfl⟩
    unfold pyNext
    refine wpAny_bind (wpAny_attempt (wpAny_callSpecial?_slot (name := Str.ofString "__next__") hT F.slot_enumerate_next
      (wpAny_call_entry F.slot_enumerate_next hT F.entry_enumerate_next ?_ (F.args_enumerate_next_1 _))))
    show wpAny _ _ (field (.ref e) 2 >>= _) _ _ _
    refine wpAny_bind (wpAny_field he rfl (x := .ref it) rfl ?_)
    refine wpAny_bind (wpAny_nextOf_tuple_end hh hit p hn fun h' x he' hx' => ?_)
    obtain ⟨o, ho, hc'⟩ := hx'
    refine wpAny_bind (wpAny_isInstance (T := "StopIteration") (b := true) ⟨o, ho, hc'⟩ isSubtype_stop ?_)
    exact wpAny_pure ⟨rfl, I.turned (t' := s.toks) (fun b o hb q => he' b o hb q) f0 f1 f3 f4 f5⟩
  self := fun A i s Q E st h => let ⟨⟨_, he⟩, _⟩ := st; wpAny_pyIter_enum he h
def iEnumT (K : PySem.W.Frag) (ta : TA) : TI := fun σ H R => ta σ H fun vs H1 => ∃ a xs, vs = [.ref a] ∧ SqT K H1 a xs ∧ R (IteT K a) H1
theorem pi_enumT {X : Cx} {e : Expr} {ta : TA} {p pos tpos : Pos} {elts : List Expr} {kk : Nat} (hm : X.mg "enumerate" = none) (ha : PA X [e] ta) (hg : Gl X "enumerate" := by rfl) (hs : starEach [e] X.env = [(false, eval e X.env)] := by rfl) :
    PI X (.Tuple elts kk tpos) (.Call (.Name "enumerate" p) [e] [] pos) (iEnumT X.K ta) := by
  refine ⟨fun pins s σ H R I h => ?_⟩
  refine Call_ (ld_blt I hg hm boot_enumerate (PyProof.Rows.callWith_type1 (thn (ha.run pos pins s σ H _ I h) fun us s1 ⟨vs, H1, I1, r1, q1⟩ => ?_) hs rfl))
  obtain ⟨a, xs, ex, hq, q⟩ := q1
  subst ex
  cases r1 with
  | cons r rr =>
    cases rr
    cases r
    obtain ⟨its, rv, p', hz⟩ := I1.tuple hq
    refine pxCall_enumerate_tuple (show s1.heap.IsTuple a its.toArray from p') fun h' he hit hsz hk => wpAny_pyIter_enum he ?_
    have I2 : Inv X pins σ H1 { s1 with heap := h' } := I1.kept (t' := s1.toks) hk
    refine ⟨s1.heap.objs.size + 1, [s1.heap.objs.size + 1, s1.heap.objs.size], _, _, H1, rfl, I2, turn_enumT a (s1.heap.objs.size + 1) s1.heap.objs.size, ⟨⟨.none, he⟩, hit, Nat.succ_ne_self _⟩, fun b hb => ?_, q⟩
    have e' : b = s1.heap.objs.size + 1 ∨ b = s1.heap.objs.size := by simpa using hb
    have hle : s1.heap.objs.size ≤ b := by
      rcases e' with z | z
      · rw [z]; exact Nat.le_add_right _ _
      · rw [z]; exact Nat.le_refl _
    exact I1.fpOk hle (I1.hok.fresh hle)
/-- the loop over such a walk: the pair is new at T -/
theorem for_enumT {K : PySem.W.Frag} {a : Addr} {xs : List V} {g : TG} {tb : TS} {D : Ends} {σ : St} {H : Hp} (Pv : Nat → St → Hp → Prop) (h0 : Pv 0 σ H) (hl : ∀ i σ H, i ≤ xs.length → Pv i σ H → SqT K H a xs)
    (hs : ∀ i x T σ H, xs[i]? = some x → Pv i σ H → H T = none → g (.ref T) σ (upd H T (.tup [.int (i : Nat), x])) fun σ2 H2 => tb { D with nx := Pv (i + 1), ct := Pv (i + 1), bk := D.nx } σ2 H2) (hd : ∀ σ H, Pv xs.length σ H → D.nx σ H) :
    ∃ W : Nat → Nat → St → Hp → Prop, (∃ m, W 0 m σ H) ∧ ∀ i m σ H, W i m σ H →
      ((IteT K a).stop i H ∧ D.nx σ H) ∨ ((IteT K a).go i H ∧ ∃ N : St → Hp → Prop, (∀ σ' H', N σ' H' → ∃ m', m' < m ∧ W (i + 1) m' σ' H') ∧ ∀ x H', (IteT K a).yld i H x H' → g x σ H' fun σ2 H2 => tb { D with nx := N, ct := N, bk := D.nx } σ2 H2) := by
  refine ⟨fun i m σ H => m = xs.length - i ∧ i ≤ xs.length ∧ Pv i σ H, ⟨xs.length, by simp, Nat.zero_le _, h0⟩, ?_⟩
  rintro i m σ H ⟨rfl, hi, p⟩
  have q := hl i σ H hi p
  by_cases hlt : i < xs.length
  · refine .inr ⟨⟨xs, xs[i], q, by simp [hlt]⟩, Pv (i + 1), fun σ' H' p' => ⟨xs.length - (i + 1), by omega, rfl, hlt, p'⟩, fun x H' y => ?_⟩
    obtain ⟨T, z, rfl, hT, rfl, y⟩ := y
    exact hs i z T σ H (y xs q) p hT
  · have e : i = xs.length := by omega
    subst e
    exact .inl ⟨⟨xs, q, Nat.le_refl _⟩, hd σ H p⟩
end L2.Px

set_option Elab.async false
set_option linter.all false
set_option maxRecDepth 100000
set_option maxHeartbeats 1000000
/-! readings, step by step -/
namespace L2.Px
open PySem PySem.Spec PyProof.Rows StX

/-! ### operators of several kinds -/
section
variable {X : Cx}
def rAddS : R2 := fun x y H Q => ∃ i j, x = .str i ∧ y = .str j ∧ i.length + j.length ≤ sizeLine ∧ Q (.str (i ++ j)) H
def rAddA (K : PySem.W.Frag) : R2 := fun x y H Q => rI0 (fun i j => .int (i + j)) x y H Q ∨ rAddS x y H Q ∨ rCat x y H Q
theorem oAdd : OpR X (binaryOp .Add) (rAddA X.K) := op_add.or (op_add_str.or op_cat)
def rMulA : R2 := fun x y H Q => rI CMul (fun i j => .int (i * j)) x y H Q ∨ rRep x y H Q
theorem oMul : OpR X (binaryOp .Mult) rMulA := op_mul.or op_rep
def rEqA (K : PySem.W.Frag) : R2 := fun x y H Q => rEq x y H Q ∨ rEqD K x y H Q
def rNeA (K : PySem.W.Frag) : R2 := fun x y H Q => rNe x y H Q ∨ rNeD K x y H Q
theorem oEq (hu : X.A.units + 64 < cLine) : OpR X (compareOp .Eq) (rEqA X.K) := op_eq.or (op_eqD hu)
theorem oNe (hu : X.A.units + 64 < cLine) : OpR X (compareOp .NotEq) (rNeA X.K) := op_ne.or (op_neD hu)
end
section
variable {K : PySem.W.Frag} {σ : St} {H : Hp} {Q : VK} {i j : Int} {x y : Str} {a b : Addr} {xs ys : List V} {p q : Prop} {A B : Prop} {c : Bool} {v : V}
theorem rd_add_int (h : Q (.int (i + j)) H) : rAddA K (.int i) (.int j) H Q := .inl ⟨i, j, rfl, rfl, h⟩
theorem rd_add_str (hz : x.length + y.length ≤ sizeLine) (h : Q (.str (x ++ y)) H) : rAddA K (.str x) (.str y) H Q := .inr (.inl ⟨x, y, rfl, rfl, hz, h⟩)
theorem rd_add_lst (ha : H a = some (.lst xs)) (hb : H b = some (.lst ys)) (hz : xs.length + ys.length ≤ sizeLine) (h : ∀ p, H p = none → Q (.ref p) (upd H p (.lst (xs ++ ys)))) : rAddA K (.ref a) (.ref b) H Q := .inr (.inr ⟨a, b, xs, ys, rfl, rfl, ha, hb, hz, h⟩)
theorem rd_mul_int (hc : CMul i j) (h : Q (.int (i * j)) H) : rMulA (.int i) (.int j) H Q := .inl ⟨i, j, rfl, rfl, hc, h⟩
theorem rd_eq_scal {v w : V} (hs : scal v w = true) (h : Q (.bl (decide (v = w))) H) : rEqA K v w H Q := .inl ⟨hs, h⟩
theorem rd_ne_scal {v w : V} (hs : scal v w = true) (h : Q (.bl (!decide (v = w))) H) : rNeA K v w H Q := .inl ⟨hs, h⟩
theorem dec_int (i j : Int) : decide (V.int i = V.int j) = decide (i = j) := by rw [L2.dec_int, Bool.beq_eq_decide_eq]
theorem dec_str (x y : Str) : decide (V.str x = V.str y) = decide (x = y) := by rw [L2.dec_str, Bool.beq_eq_decide_eq]
theorem dec_bl (x y : Bool) : decide (V.bl x = V.bl y) = decide (x = y) := by rw [L2.dec_bl, Bool.beq_eq_decide_eq]
theorem rd_eq_int (h : Q (.bl (decide (i = j))) H) : rEqA K (.int i) (.int j) H Q := rd_eq_scal rfl (by rw [dec_int]; exact h)
theorem rd_eq_str (h : Q (.bl (decide (x = y))) H) : rEqA K (.str x) (.str y) H Q := rd_eq_scal rfl (by rw [dec_str]; exact h)
theorem rd_eq_bl {c d : Bool} (h : Q (.bl (decide (c = d))) H) : rEqA K (.bl c) (.bl d) H Q := rd_eq_scal rfl (by rw [dec_bl]; exact h)
theorem rd_ne_int (h : Q (.bl (!decide (i = j))) H) : rNeA K (.int i) (.int j) H Q := rd_ne_scal rfl (by rw [dec_int]; exact h)
theorem rd_ne_str (h : Q (.bl (!decide (x = y))) H) : rNeA K (.str x) (.str y) H Q := rd_ne_scal rfl (by rw [dec_str]; exact h)
theorem rd_ne_bl {c d : Bool} (h : Q (.bl (!decide (c = d))) H) : rNeA K (.bl c) (.bl d) H Q := rd_ne_scal rfl (by rw [dec_bl]; exact h)
theorem rd_eq_dat {d e : PyData} {v w : V} (hd : Dp K H v d) (he : Dp K H w e) (sd : SeqAt.shaped d = true) (se : SeqAt.shaped e = true) (h : Q (.bl (PyData.eqv d e)) H) : rEqA K v w H Q := .inr ⟨d, e, hd, he, sd, se, h⟩
theorem rd_ne_dat {d e : PyData} {v w : V} (hd : Dp K H v d) (he : Dp K H w e) (sd : SeqAt.shaped d = true) (se : SeqAt.shaped e = true) (h : Q (.bl (!PyData.eqv d e)) H) : rNeA K v w H Q := .inr ⟨d, e, hd, he, sd, se, h⟩
theorem rd_sub (h : Q (.int (i - j)) H) : rI0 (fun i j => .int (i - j)) (.int i) (.int j) H Q := ⟨i, j, rfl, rfl, h⟩
theorem rd_I0 {g : Int → Int → V} (h : Q (g i j) H) : rI0 g (.int i) (.int j) H Q := ⟨i, j, rfl, rfl, h⟩
theorem rd_I {C : Int → Int → Prop} {g : Int → Int → V} (hc : C i j) (h : Q (g i j) H) : rI C g (.int i) (.int j) H Q := ⟨i, j, rfl, rfl, hc, h⟩

/-! ### tests whose answer is a bool -/
theorem rd_bl {R : Bool → Prop} (h : R c) : ∃ k, V.bl c = .bl k ∧ R k := ⟨c, rfl, h⟩
theorem rd_dT [Decidable p] (h : p) (a : A) : if decide p = true then A else B := by rw [if_pos (decide_eq_true h)]; exact a
theorem rd_dF [Decidable p] (h : ¬ p) (b : B) : if decide p = true then A else B := by rw [if_neg (by simp [h])]; exact b
theorem rd_nT [Decidable p] (h : ¬ p) (a : A) : if (!decide p) = true then A else B := by rw [if_pos (by simp [h])]; exact a
theorem rd_nF [Decidable p] (h : p) (b : B) : if (!decide p) = true then A else B := by rw [if_neg (by simp [h])]; exact b
theorem rd_cT (h : c = true) (a : A) : if c = true then A else B := by rw [if_pos h]; exact a
theorem rd_cF (h : c = false) (b : B) : if c = true then A else B := by rw [h, if_neg Bool.false_ne_true]; exact b
theorem rd_ite [Decidable p] (a : p → A) (b : ¬ p → B) : if decide p = true then A else B := by
  by_cases h : p
  · exact rd_dT h (a h)
  · exact rd_dF h (b h)
theorem rd_iteN [Decidable p] (a : ¬ p → A) (b : p → B) : if (!decide p) = true then A else B := by
  by_cases h : p
  · exact rd_nF h (b h)
  · exact rd_nT h (a h)
theorem rd_iteC (a : c = true → A) (b : c = false → B) : if c = true then A else B := by
  cases c with
  | true => exact rd_cT rfl (a rfl)
  | false => exact rd_cF rfl (b rfl)
/-! ### expressions -/
variable {te ta tb tc' : TE} {t : TA} {tt uu : TT} {sp : Sp} {E : XK} {r r' : R2} {n : Nat} {f m : Str} {C dx : Addr} {fs : List (Str × V)}
theorem rd_var (h : σ[n]? = some (some v)) (q : Q v H) : tVar n σ H Q := ⟨v, h, q⟩
theorem rd_C (q : Q v H) : tC v σ H Q := q
theorem rd_op (h : ta σ H fun x H1 => tb σ H1 fun y H2 => r x y H2 Q) : tOp r ta tb σ H Q := h
theorem rd_test {R : Bool → Hp → Prop} (h : te σ H fun x H' => ∃ k, x = .bl k ∧ R k H') : tTest te σ H R := h
theorem rd_tB {R : Bool → Hp → Prop} (h : te σ H fun x H' => ∃ k, x = .bl k ∧ R k H') : tB te σ H R := h
theorem rd_chain (h : ta σ H fun x H1 => tb σ H1 fun y H2 => r x y H2 fun z H3 => ∃ k, z = .bl k ∧ (if k = true then tc' σ H3 fun w' H4 => r' y w' H4 Q else Q (.bl false) H3)) : tChain r r' ta tb tc' σ H Q := h
theorem rd_and {R : Bool → Hp → Prop} (h : tt σ H fun c H1 => if c = true then uu σ H1 R else R false H1) : tAnd tt uu σ H R := h
theorem rd_or {R : Bool → Hp → Prop} (h : tt σ H fun c H1 => if c = true then R true H1 else uu σ H1 R) : tOr tt uu σ H R := h
theorem rd_not {R : Bool → Hp → Prop} (h : tt σ H fun c H1 => R (!c) H1) : tNot tt σ H R := h
theorem rd_andV (h : ta σ H fun x H1 => ∃ k, x = .bl k ∧ (if k = true then tb σ H1 Q else Q (.bl false) H1)) : tAndV ta tb σ H Q := h
theorem rd_orV (h : ta σ H fun x H1 => ∃ k, x = .bl k ∧ (if k = true then Q (.bl true) H1 else tb σ H1 Q)) : tOrV ta tb σ H Q := h
theorem rd_notV (h : ta σ H fun x H1 => ∃ k, x = .bl k ∧ Q (.bl (!k)) H1) : tNotV ta σ H Q := h
theorem rd_if (h : tt σ H fun c H1 => if c = true then ta σ H1 Q else tb σ H1 Q) : tIf tt ta tb σ H Q := h
theorem rd_g (h : t σ H fun vs H1 => sp vs H1 Q E) : tG sp E t σ H Q := h
theorem rd_m (h : ta σ H fun x H1 => ∃ a, x = .ref a ∧ InsM H1 a C m ∧ t σ H1 fun vs H2 => sp (x :: vs) H2 Q E) : tM C m sp E ta t σ H Q := h
theorem rd_m_at (i : InsM H a C m) (h : t σ H fun vs H2 => sp (.ref a :: vs) H2 Q E) : ∃ a', V.ref a = .ref a' ∧ InsM H a' C m ∧ t σ H fun vs H2 => sp (V.ref a :: vs) H2 Q E := ⟨a, rfl, i, h⟩
theorem rd_nil {R : List V → Hp → Prop} (h : R [] H) : tNil σ H R := h
theorem rd_cons {R : List V → Hp → Prop} (h : te σ H fun x H1 => t σ H1 fun xs H2 => R (x :: xs) H2) : tCons te t σ H R := h
theorem rd_star {R : List V → Hp → Prop} (h : te σ H fun x H1 => ∃ p xs, x = V.ref p ∧ (SqT K H1 p xs ∨ SqL K H1 p xs) ∧ t σ H1 fun ys H2 => R (xs ++ ys) H2) : tStar K te t σ H R := h
theorem rd_tup (h : t σ H fun xs H1 => xs.length ≤ sizeLine ∧ ∀ p, H1 p = none → Q (.ref p) (upd H1 p (.tup xs))) : tTup t σ H Q := h
theorem rd_lst (h : t σ H fun xs H1 => xs.length ≤ sizeLine ∧ ∀ p, H1 p = none → Q (.ref p) (upd H1 p (.lst xs))) : tLst t σ H Q := h
theorem rd_alloc {o : HO} (hz : n ≤ sizeLine) (h : ∀ p, H p = none → Q (.ref p) (upd H p o)) : n ≤ sizeLine ∧ ∀ p, H p = none → Q (.ref p) (upd H p o) := ⟨hz, h⟩
def rFld (K : PySem.W.Frag) (f : Str) (x : V) (H1 : Hp) (Q : VK) : Prop := ∃ a C dx fs v, x = .ref a ∧ H1 a = some (.ins C dx fs) ∧ Cls K C ∧ NoAttr K C f ∧ fs.lookup f = some v ∧ Q v H1
theorem rd_fld (h : te σ H fun x H1 => rFld K f x H1 Q) : tFld K te f σ H Q := h
theorem rd_fld_at (e : H a = some (.ins C dx fs)) (c : Cls K C) (nn : NoAttr K C f) (l : fs.lookup f = some v) (q : Q v H) : rFld K f (.ref a) H Q := ⟨a, C, dx, fs, v, rfl, e, c, nn, l, q⟩
theorem rd_cb {rr : List V → Hp → VK → Prop} (h : t σ H fun vs H1 => rr vs H1 Q) : tCB rr t σ H Q := h
theorem rd_un {ru : V → Hp → VK → Prop} (h : ta σ H fun x H1 => ru x H1 Q) : tUn ru ta σ H Q := h
def rMk (C : Addr) (sp : Sp) (E : XK) (vs : List V) (H1 : Hp) (Q : VK) : Prop := ∀ x dx, H1 x = Option.none → H1 dx = Option.none → dx ≠ x → sp (V.ref x :: vs) (upd (upd H1 dx (.own x)) x (.ins C dx [])) (fun v H2 => v = .non ∧ Q (.ref x) H2) E
theorem rd_makeR (h : t σ H fun vs H1 => rMk C sp E vs H1 Q) : tMakeR C sp E t σ H Q := h
def rMkS (K : PySem.W.Frag) (C : Addr) (sp : Sp) (E : XK) (y : V) (H1 : Hp) (Q : VK) : Prop := ∃ a xs, y = V.ref a ∧ (SqT K H1 a xs ∨ SqL K H1 a xs) ∧ rMk C sp E xs H1 Q
theorem rd_makeS (h : ta σ H fun c H0 => c = V.ref C ∧ te σ H0 fun y H1 => rMkS K C sp E y H1 Q) : tMakeS K C sp E ta te σ H Q := h
theorem rd_mkS (hq : SqT K H a xs ∨ SqL K H a xs) (h : rMk C sp E xs H Q) : rMkS K C sp E (.ref a) H Q := ⟨a, xs, rfl, hq, h⟩
theorem rd_bm {T : String} {rm : V → List V → Hp → VK → Prop} (h : te σ H fun x H1 => tyV K T x H1 ∧ t σ H1 fun xs H2 => rm x xs H2 Q) : tBM K T rm te t σ H Q := h
theorem rd_bm0 {T : String} {rm : V → List V → Hp → VK → Prop} (h : te σ H fun x H1 => tyV K T x H1 ∧ rm x [] H1 Q) : tBM0 K T rm te σ H Q := h
theorem rd_ixI (h : Q v H) (hx : SqL K H a xs) (e : atI xs i = some v) : rIx K (.ref a) (.int i) H Q := .inl ⟨a, xs, i, v, rfl, rfl, hx, e, h⟩
theorem rd_ixT (h : Q v H) (hx : SqT K H a xs) (e : atI xs i = some v) : rIx K (.ref a) (.int i) H Q := .inr (.inl ⟨a, xs, i, v, rfl, rfl, hx, e, h⟩)
/-! ### statements -/
variable {nx ct bk : St → Hp → Prop} {rt : VK} {st su : TS} {D : Ends} {vs : List V} {g : TG} {gs : TGs} {R : St → Hp → Prop}
theorem rd_seq (h : st ⟨su ⟨nx, rt, bk, ct⟩, rt, bk, ct⟩ σ H) : tSeq st su ⟨nx, rt, bk, ct⟩ σ H := h
theorem rd_next (h : nx σ H) : tNext ⟨nx, rt, bk, ct⟩ σ H := h
theorem rd_break (h : bk σ H) : tBreak ⟨nx, rt, bk, ct⟩ σ H := h
theorem rd_cont (h : ct σ H) : tCont ⟨nx, rt, bk, ct⟩ σ H := h
theorem rd_ret (h : te σ H rt) : tRet te ⟨nx, rt, bk, ct⟩ σ H := h
theorem rd_retN (h : rt .non H) : tRetN ⟨nx, rt, bk, ct⟩ σ H := h
theorem rd_drop (h : te σ H fun _ H1 => nx σ H1) : tDrop te ⟨nx, rt, bk, ct⟩ σ H := h
theorem rd_ifS (h : tt σ H fun b H1 => if b = true then st D σ H1 else su D σ H1) : tIfS tt st su D σ H := h
theorem rd_asg (h : te σ H fun x H1 => g x σ H1 nx) : tAsg te g ⟨nx, rt, bk, ct⟩ σ H := h
theorem rd_name (h : R (σ.set n (some v)) H) : gName n v σ H R := h
theorem rd_gtup (hq : SqT K H a xs) (hl : xs.length = n) (h : gs xs σ H R) : gTup K n gs (.ref a) σ H R := ⟨a, xs, rfl, hq, hl, h⟩
theorem rd_gnil (h : R σ H) : gNil [] σ H R := ⟨rfl, h⟩
theorem rd_gcons (h : g v σ H fun σ' H' => gs vs σ' H' R) : gCons g gs (v :: vs) σ H R := ⟨v, vs, rfl, h⟩
theorem rd_gsub {s : TSet} (h : ta σ H fun o H1 => tb σ H1 fun i H2 => s o i v H2 fun H3 => R σ H3) : gSub ta tb s v σ H R := h
theorem rd_setL {P : Hp → Prop} {j : Nat} (ha : H a = some (.lst xs)) (hj : ixN xs.length i = some j) (h : P (upd H a (.lst (xs.set j v)))) : rSetL (.ref a) (.int i) v H P := ⟨a, xs, i, j, rfl, rfl, ha, hj, h⟩
theorem rd_aug {ti : TIp} (h : σ[n]? = some (some v)) (q : te σ H fun y H1 => ti v y H1 fun z H2 => nx (σ.set n (some z)) H2) : tAug n te ti ⟨nx, rt, bk, ct⟩ σ H := ⟨v, h, q⟩
theorem rd_ipI {fn : Int → Int → Int} (h : Q (.int (fn i j)) H) : ipI fn (.int i) (.int j) H Q := ⟨i, j, rfl, rfl, h⟩
def rSFld (K : PySem.W.Frag) (f : Str) (y x : V) (H2 : Hp) (k : Hp → Prop) : Prop := ∃ a C dx fs, x = .ref a ∧ H2 a = some (.ins C dx fs) ∧ Cls K C ∧ NoAttr K C f ∧ fs.length < 1000 ∧ k (upd H2 a (.ins C dx (putF f y fs)))
theorem rd_sfld (h : tb σ H fun y H1 => ta σ H1 fun x H2 => rSFld K f y x H2 (nx σ)) : sFld K ta tb f ⟨nx, rt, bk, ct⟩ σ H := h
theorem rd_sfld_at {y : V} {k : Hp → Prop} (e : H a = some (.ins C dx fs)) (c : Cls K C) (nn : NoAttr K C f) (l : fs.length < 1000) (h : k (upd H a (.ins C dx (putF f y fs)))) : rSFld K f y (.ref a) H k := ⟨a, C, dx, fs, rfl, e, c, nn, l, h⟩
theorem rd_for {wi : TI} (h : wi σ H fun J H1 => ∃ W : Nat → Nat → St → Hp → Prop, (∃ m, W 0 m σ H1) ∧ ∀ i m σ H, W i m σ H →
  (J.stop i H ∧ D.nx σ H) ∨ (J.go i H ∧ ∃ N : St → Hp → Prop, (∀ σ' H', N σ' H' → ∃ m', m' < m ∧ W (i + 1) m' σ' H') ∧ ∀ x H', J.yld i H x H' → g x σ H' fun σ2 H2 => st { D with nx := N, ct := N, bk := D.nx } σ2 H2)) : tFor wi g st D σ H := h
theorem rd_iList {Rr : It → Hp → Prop} (h : te σ H fun x H1 => ∃ a, x = .ref a ∧ (∃ xs, SqL K H1 a xs) ∧ Rr (Itl K a) H1) : iList K te σ H Rr := h
theorem rd_iTup {Rr : It → Hp → Prop} (h : te σ H fun x H1 => ∃ a, x = .ref a ∧ (∃ xs, SqT K H1 a xs) ∧ Rr (Itt K a) H1) : iTup K te σ H Rr := h
theorem rd_iRng1 {Rr : It → Hp → Prop} (h : t σ H fun vs H1 => ∃ j : Int, vs = [.int j] ∧ -(2 ^ 62) ≤ j ∧ j < 2 ^ 62 ∧ Rr (Itr 0 j.toNat) H1) : iRng1 t σ H Rr := h
theorem rd_iRng2 {Rr : It → Hp → Prop} (h : t σ H fun vs H1 => ∃ i j : Int, vs = [.int i, .int j] ∧ (-(2 ^ 62) ≤ i ∧ i < 2 ^ 62 ∧ -(2 ^ 62) ≤ j ∧ j < 2 ^ 62) ∧ Rr (Itr i (j - i).toNat) H1) : iRng2 t σ H Rr := h
theorem rd_iEnumT {Rr : It → Hp → Prop} (h : t σ H fun vs H1 => ∃ a xs, vs = [.ref a] ∧ SqT K H1 a xs ∧ Rr (IteT K a) H1) : iEnumT K t σ H Rr := h
theorem rd_match {tc : TC} (h : te σ H fun x H1 => tc x D σ H1) : tMatch te tc D σ H := h
theorem rd_par {l k : Nat} (h : t σ H fun vs H1 => ∃ v w, vs = [v, w] ∧ nx ((σ.set l (some v)).set k (some w)) H1) : tPar l k t ⟨nx, rt, bk, ct⟩ σ H := h
theorem rd_two {v w : V} {RR : V → V → Prop} (h : RR v w) : ∃ v' w', [v, w] = [v', w'] ∧ RR v' w' := ⟨v, w, rfl, h⟩
theorem rd_lc {wi : TI} {ws : List Nat} (h : wi σ H fun J H1 => ∀ D, H1 D = none → ∃ W : Nat → Nat → Hp → Prop, (∃ m, W 0 m (upd H1 D (.lst []))) ∧ ∀ i m H, W i m H →
  (J.stop i H ∧ Q (.ref D) H) ∨ (J.go i H ∧ ∃ Nx : Hp → Prop, (∀ H', Nx H' → ∃ m', m' < m ∧ W (i + 1) m' H') ∧ ∀ x H', J.yld i H x H' → g x (wipe σ ws) H' fun σ2 H2 => wipe σ2 ws = wipe σ ws ∧ tt σ2 H2 fun b H3 =>
    if b = true then te σ2 H3 fun y H4 => ∃ acc, H4 D = some (.lst acc) ∧ acc.length < sizeLine ∧ Nx (upd H4 D (.lst (acc ++ [y]))) else Nx H3)) : tLc wi g tt te ws σ H Q := h
theorem rd_yes {Rb : Bool → Hp → Prop} (h : Rb true H) : tYes σ H Rb := h
/-! ### heaps -/
theorem Same.new {H H' : Hp} {p : Addr} {o : HO} (s : Same H H') (h : H' p = none) : Same H (upd H' p o) := fun b u e => by rw [upd_ne (ne_of_none (s b u e) h)]; exact s b u e
theorem Same.mut {H H' : Hp} {p : Addr} {o : HO} (s : Same H H') (h : H p = none) : Same H (upd H' p o) := fun b u e => by rw [upd_ne (ne_of_none e h)]; exact s b u e
theorem lk_new {o u : HO} {p : Addr} (h : H p = none) (e : H a = some u) : upd H p o a = some u := by rw [upd_ne (ne_of_none e h)]; exact e
theorem lk_ne {o u : HO} {p : Addr} (h : a ≠ p) (e : H a = some u) : upd H p o a = some u := by rw [upd_ne h]; exact e
theorem Same.tup {H H' : Hp} {K : PySem.W.Frag} {a : Addr} {xs : List V} (e : Same H H') (h : SqT K H a xs) : SqT K H' a xs := by
  rcases h with (h | ⟨o, h⟩) | h
  · exact .inl (.inl (e _ _ h))
  · exact .inl (.inr ⟨o, e _ _ h⟩)
  · exact .inr h
end
end L2.Px

set_option Elab.async false
set_option linter.all false
set_option maxRecDepth 100000
set_option maxHeartbeats 1000000
/-! properties, classmethods, by promise -/
namespace L2.Px
open PySem PySem.Spec PyProof.Rows StX ClX
/-- the property f of the class at C -/
def DefP (K : PySem.W.Frag) (C : Addr) (f qual : Str) (st : Stmt) : Prop := ∃ p g fd, Fun K f qual st g fd ∧ PropOf K C f p g ∧ Binds K fd ["self"] []
def POk (P : Program) (w : World) (K : PySem.W.Frag) (mg : Str → Option Value) (base : Heap) (CX : CXT) (k : Nat) (C : Addr) (f : Str) (sp : Sp) : Prop :=
  ∃ p g fd, FnOk P w K mg base CX k g fd ["self"] sp ∧ PropOf K C f p g ∧ Binds K fd ["self"] []
/-- the classmethod m of the class at C -/
def DefC (K : PySem.W.Frag) (C : Addr) (m qual : Str) (st : Stmt) (ps : List Str) : Prop := ∃ mc p g fd, Fun K m qual st g fd ∧ CRead K C mc ∧ CMet K C mc m p g ∧ Binds K fd ps []
def COk (P : Program) (w : World) (K : PySem.W.Frag) (mg : Str → Option Value) (base : Heap) (CX : CXT) (k : Nat) (C : Addr) (m : Str) (sp : Sp) : Prop :=
  ∃ mc p g, FnR P w K mg base CX k g sp ∧ CRead K C mc ∧ CMet K C mc m p g
/-- __init__ of the class at C, all its parameters plain -/
def DefK (K : PySem.W.Frag) (C : Addr) (qual : Str) (st : Stmt) (ps : List Str) : Prop := ∃ f fd, Fun K "__init__" qual st f fd ∧ Mk K C f ∧ Binds K fd ps []
/-- __init__(self, *v) of the class at C -/
def DefKS (K : PySem.W.Frag) (C : Addr) (qual : Str) (st : Stmt) (ps : List Str) (pv : Str) : Prop := ∃ f fd, Fun K "__init__" qual st f fd ∧ Mk K C f ∧
  ∀ us rest : List Value, us.length = ps.length → bindArgs fd ⟨us ++ rest, []⟩ = (newTuple rest >>= fun t => pure (ps.zip us ++ [(pv, t)]))
/-- a def f(.., *v) -/
def DefGS (K : PySem.W.Frag) (mg : Str → Option Value) (x : Str) (st : Stmt) (ps : List Str) (pv : Str) : Prop := ∃ f fd, Fun K x x st f fd ∧ mg x = some (.ref f) ∧
  ∀ us rest : List Value, us.length = ps.length → bindArgs fd ⟨us ++ rest, []⟩ = (newTuple rest >>= fun t => pure (ps.zip us ++ [(pv, t)]))
/-- a def whose last parameters have defaults -/
def DefGD (K : PySem.W.Frag) (mg : Str → Option Value) (x : Str) (st : Stmt) (ps : List Str) (dvs : List V) : Prop := ∃ f fd ds, Fun K x x st f fd ∧ mg x = some (.ref f) ∧ Binds K fd ps ds ∧ Vals dvs ds
section
variable {P : Program} {w : World} {K : PySem.W.Frag} {mg : Str → Option Value} {base : Heap} {CX : CXT} {k : Nat} {f C : Addr} {fd : FuncData} {ps : List Str} {sp : Sp} {x m qual : Str} {st : Stmt}
theorem DefP.ok {N : List Str} (D : DefP K C m qual st) (S : FnScope N ["self"] (defScope st)) (len : ∀ vs H Q E, sp vs H Q E → vs.length = 1)
    (hbody : ∀ (f : Addr) (cdv : Value) (A : Around) (outer : List Env) (s : Shared) (H : Hp) (vs : List V) (Q : VK) (E : XK), Room k (A.deeper (envOfC qual (defScope st) s.heap.objs.size f cdv)) → sp vs H Q E →
      ∃ t, PSs (cxOf CX0 P w K mg base N qual (defScope st) f cdv A outer s H E).nox (defBody st) t ∧ t { nx := fun _ H' => Q .non H', rt := Q } (start N vs) H) : POk P w K mg base CX0 (k + 1) C m sp := by
  obtain ⟨p, g, fd, F, hp, b⟩ := D
  exact ⟨p, g, fd, F.ok S len fun cdv A outer s H vs Q E hr h => hbody g cdv A outer s H vs Q E hr h, hp, b⟩
theorem DefC.ok {N : List Str} (D : DefC K C m qual st ps) (S : FnScope N ps (defScope st)) (len : ∀ vs H Q E, sp vs H Q E → vs.length = ps.length)
    (hbody : ∀ (f : Addr) (cdv : Value) (A : Around) (outer : List Env) (s : Shared) (H : Hp) (vs : List V) (Q : VK) (E : XK), Room k (A.deeper (envOfC qual (defScope st) s.heap.objs.size f cdv)) → sp vs H Q E →
      ∃ t, PSs (cxOf CX0 P w K mg base N qual (defScope st) f cdv A outer s H E).nox (defBody st) t ∧ t { nx := fun _ H' => Q .non H', rt := Q } (start N vs) H) : COk P w K mg base CX0 (k + 1) C m sp := by
  obtain ⟨mc, p, g, fd, F, r, c, b⟩ := D
  exact ⟨mc, p, g, FnOk.toR (F.ok S len fun cdv A outer s H vs Q E hr h => hbody g cdv A outer s H vs Q E hr h) b, r, c⟩
theorem DefK.ok {N : List Str} (D : DefK K C qual st ps) (S : FnScope N ps (defScope st)) (len : ∀ vs H Q E, sp vs H Q E → vs.length = ps.length)
    (hbody : ∀ (f : Addr) (cdv : Value) (A : Around) (outer : List Env) (s : Shared) (H : Hp) (vs : List V) (Q : VK) (E : XK), Room k (A.deeper (envOfC qual (defScope st) s.heap.objs.size f cdv)) → sp vs H Q E →
      ∃ t, PSs (cxOf CX0 P w K mg base N qual (defScope st) f cdv A outer s H E).nox (defBody st) t ∧ t { nx := fun _ H' => Q .non H', rt := Q } (start N vs) H) : KOk P w K mg base CX0 (k + 1) C sp := by
  obtain ⟨f, fd, F, M, b⟩ := D
  exact ⟨f, FnOk.toR (F.ok S len fun cdv A outer s H vs Q E hr h => hbody f cdv A outer s H vs Q E hr h) b, M⟩
/-- the star promise around the body's own -/
def spStar (n : Nat) (sp : Sp) : Sp := fun vs H Q E => ∃ ws rest, vs = ws ++ rest ∧ ws.length = n ∧ rest.length ≤ sizeLine ∧ ∀ p, H p = Option.none → sp (ws ++ [V.ref p]) (upd H p (.tup rest)) Q E
theorem DefKS.ok {N : List Str} {pv : Str} (D : DefKS K C qual st ps pv) (S : FnScope N (ps ++ [pv]) (defScope st))
    (hbody : ∀ (f : Addr) (cdv : Value) (A : Around) (outer : List Env) (s : Shared) (H : Hp) (vs : List V) (Q : VK) (E : XK), Room k (A.deeper (envOfC qual (defScope st) s.heap.objs.size f cdv)) → sp vs H Q E →
      ∃ t, PSs (cxOf CX0 P w K mg base N qual (defScope st) f cdv A outer s H E).nox (defBody st) t ∧ t { nx := fun _ H' => Q .non H', rt := Q } (start N vs) H) : KOk P w K mg base CX0 (k + 1) C (spStar ps.length sp) := by
  obtain ⟨f, fd, F, M, hb⟩ := D
  obtain ⟨oc, od, kV, doc, pm, an, cdv, ct, osl, rfl, lk, hcd⟩ := F.ex
  refine ⟨f, fn_star (sp := sp) lk hcd S cxUp_none hb fun A outer s H vs Q E hr h => ?_, M⟩
  obtain ⟨t, ht, q⟩ := hbody f cdv A outer s H vs Q E hr h
  exact ⟨t, ht.nox, q⟩
theorem DefGS.ok {N : List Str} {pv : Str} (D : DefGS K mg x st ps pv) (S : FnScope N (ps ++ [pv]) (defScope st))
    (hbody : ∀ (f : Addr) (cdv : Value) (A : Around) (outer : List Env) (s : Shared) (H : Hp) (vs : List V) (Q : VK) (E : XK), Room k (A.deeper (envOfC x (defScope st) s.heap.objs.size f cdv)) → sp vs H Q E →
      ∃ t, PSs (cxOf CX0 P w K mg base N x (defScope st) f cdv A outer s H E).nox (defBody st) t ∧ t { nx := fun _ H' => Q .non H', rt := Q } (start N vs) H) : GOk P w K mg base CX0 (k + 1) x (spStar ps.length sp) := by
  obtain ⟨f, fd, F, a, hb⟩ := D
  obtain ⟨oc, od, kV, doc, pm, an, cdv, ct, osl, rfl, lk, hcd⟩ := F.ex
  refine ⟨f, fn_star (sp := sp) lk hcd S cxUp_none hb fun A outer s H vs Q E hr h => ?_, a, F.kp⟩
  obtain ⟨t, ht, q⟩ := hbody f cdv A outer s H vs Q E hr h
  exact ⟨t, ht.nox, q⟩
theorem DefGD.ok {N : List Str} {dvs : List V} (D : DefGD K mg x st ps dvs) (S : FnScope N ps (defScope st)) (len : ∀ vs H Q E, sp vs H Q E → vs.length = ps.length)
    (hbody : ∀ (f : Addr) (cdv : Value) (A : Around) (outer : List Env) (s : Shared) (H : Hp) (vs : List V) (Q : VK) (E : XK), Room k (A.deeper (envOfC x (defScope st) s.heap.objs.size f cdv)) → sp vs H Q E →
      ∃ t, PSs (cxOf CX0 P w K mg base N x (defScope st) f cdv A outer s H E).nox (defBody st) t ∧ t { nx := fun _ H' => Q .non H', rt := Q } (start N vs) H) : GOk P w K mg base CX0 (k + 1) x (fun vs => sp (vs ++ dvs)) := by
  obtain ⟨f, fd, ds, F, a, b, hd⟩ := D
  exact ⟨f, FnOk.toR1 (F.ok S len fun cdv A outer s H vs Q E hr h => hbody f cdv A outer s H vs Q E hr h) b hd, a, F.kp⟩
end
section
variable {X : Cx} {CX : CXT} {k : Nat} {C : Addr} {sp : Sp} {E : XK} {f m : Str} {e o : Expr} {es : List Expr} {te ta : TE} {t : TA} {p pos apos : Pos}
theorem pe_p (he : PE X e ta) (c : Cls X.K C) (G : POk X.prog X.w X.K X.mg X.base CX k C f sp) (hr : Room (k + 1) X.A) (hx : Passes CX X.nox E) (hab : attributeBase e f X.env (eval e X.env) = eval e X.env := by rfl) : PE X (.Attribute e f pos) (tProp C sp [] E ta) :=
  let ⟨_, _, _, F, hp, b⟩ := G
  pe_prop he c hp F hr b .nil hx hab
theorem pe_c {pl : Sem Bool} (he : PE X o ta) (G : COk X.prog X.w X.K X.mg X.base CX k C m sp) (hr : Room k X.A) (hx : Passes CX X E) (ha : PA X (e :: es) t)
    (hst : starEach (e :: es) X.env = (false, eval e X.env) :: starEach es X.env := by rfl) (hpl : (backTo pos (starEach es X.env)).any (·.1) = false := by rfl)
    (ht : eval (.Call (.Attribute o m apos) (e :: es) [] pos) X.env = (do
      let ov ← eval o X.env
      standAt apos.atName
      let (f, first) ← holding [ov] (getMethod ov m pl)
      callWith pos f first (backTo pos (starEach (e :: es) X.env)) (backToKw pos (keywordEach [] X.env))) := by rfl) :
    PE X (.Call (.Attribute o m apos) (e :: es) [] pos) (tCMeth C sp E ta t) :=
  let ⟨_, _, _, F, r, c⟩ := G
  pe_cmeth (pl := pl) he r c F hr hx ha hst hpl ht
theorem rd_prop {σ : St} {H : Hp} {Q : VK} (h : ta σ H fun x H1 => ∃ a dx fs, x = .ref a ∧ H1 a = some (.ins C dx fs) ∧ sp [.ref a] H1 Q E) : tProp C sp [] E ta σ H Q := h
theorem rd_prop_at {a : Addr} {H : Hp} {Q : VK} (i : InsA H a C) (h : sp [.ref a] H Q E) : ∃ a' dx fs, V.ref a = .ref a' ∧ H a' = some (.ins C dx fs) ∧ sp [.ref a'] H Q E := let ⟨dx, fs, e⟩ := i; ⟨a, dx, fs, rfl, e, h⟩
theorem rd_cmeth {σ : St} {H : Hp} {Q : VK} (h : ta σ H fun x H1 => x = .ref C ∧ t σ H1 fun vs H2 => sp (.ref C :: vs) H2 Q E) : tCMeth C sp E ta t σ H Q := h
/-- calling an instance -/
def OOk (P : Program) (w : World) (K : PySem.W.Frag) (mg : Str → Option Value) (base : Heap) (CX : CXT) (k : Nat) (C : Addr) (sp : Sp) : Prop := ∃ g, FnR P w K mg base CX k g sp ∧ CallO K C g
def tO (C : Addr) (sp : Sp) (E : XK) (tf : TE) (t : TA) : TE := fun σ H Q => tf σ H fun y H1 => ∃ a, y = V.ref a ∧ t σ H1 fun vs H2 => InsA H2 a C ∧ sp (V.ref a :: vs) H2 Q E
theorem pe_o {fe : Expr} (hf : PE X fe ta) (G : OOk X.prog X.w X.K X.mg X.base CX k C sp) (hr : Room k X.A) (hx : Passes CX X E) (ha : PA X (e :: es) t)
    (ht : eval (.Call fe (e :: es) [] pos) X.env = (do callWith pos (← eval fe X.env) [] (backTo pos (starEach (e :: es) X.env)) (backToKw pos (keywordEach [] X.env))) := by rfl)
    (he : starEach (e :: es) X.env = (false, eval e X.env) :: starEach es X.env := by rfl) (hpl : (backTo pos (starEach es X.env)).any (·.1) = false := by rfl) : PE X (.Call fe (e :: es) [] pos) (tO C sp E ta t) := by
  obtain ⟨g, F, c⟩ := G
  refine ⟨fun pins s σ H Q I h => ?_⟩
  refine Call_ (thn (hf.run pins s σ H _ I h) fun u s1 ⟨y, H1, I1, ry, a, ey, q⟩ => ?_) ht
  subst ey
  obtain rfl : u = Value.ref a := ry
  refine callO_with (thn (ha.run pos pins s1 σ H1 _ I1 q) fun us s2 ⟨vs, H2, I2, r, hi, q2⟩ => ?_) he hpl
  have hi' : StX.InsC X H2 a C := .inr hi
  obtain ⟨ox, od, J, hd⟩ := insC_at I2 hi'
  exact ⟨⟨C, ox, od, J, hd⟩, run_callO c F hr hx I2 hi' r q2⟩
theorem rd_o {σ : St} {H : Hp} {Q : VK} (h : ta σ H fun y H1 => ∃ a, y = V.ref a ∧ t σ H1 fun vs H2 => InsA H2 a C ∧ sp (V.ref a :: vs) H2 Q E) : tO C sp E ta t σ H Q := h
end
end L2.Px
namespace L2.Px
open PySem PySem.Spec PyProof.Rows StX ClX
/-! ### a method known by any fact R of its def -/
def DefX (K : PySem.W.Frag) (R : Addr → Prop) (m qual : Str) (st : Stmt) (ps : List Str) : Prop := ∃ f fd, Fun K m qual st f fd ∧ R f ∧ Binds K fd ps []
def XOk (P : Program) (w : World) (K : PySem.W.Frag) (mg : Str → Option Value) (base : Heap) (CX : CXT) (k : Nat) (R : Addr → Prop) (sp : Sp) : Prop := ∃ f, FnR P w K mg base CX k f sp ∧ R f
section
variable {P : Program} {w : World} {K : PySem.W.Frag} {mg : Str → Option Value} {base : Heap} {CX : CXT} {k : Nat} {f C : Addr} {fd : FuncData} {ps : List Str} {sp : Sp} {x m qual : Str} {st : Stmt} {R : Addr → Prop}
theorem DefX.ok {N : List Str} (D : DefX K R m qual st ps) (S : FnScope N ps (defScope st)) (len : ∀ vs H Q E, sp vs H Q E → vs.length = ps.length)
    (hbody : ∀ (f : Addr) (cdv : Value) (A : Around) (outer : List Env) (s : Shared) (H : Hp) (vs : List V) (Q : VK) (E : XK), Room k (A.deeper (envOfC qual (defScope st) s.heap.objs.size f cdv)) → sp vs H Q E →
      ∃ t, PSs (cxOf CX0 P w K mg base N qual (defScope st) f cdv A outer s H E).nox (defBody st) t ∧ t { nx := fun _ H' => Q .non H', rt := Q } (start N vs) H) : XOk P w K mg base CX0 (k + 1) R sp := by
  obtain ⟨f, fd, F, r, b⟩ := D
  exact ⟨f, FnOk.toR (F.ok S len fun cdv A outer s H vs Q E hr h => hbody f cdv A outer s H vs Q E hr h) b, r⟩
end
section
variable {X : Cx} {CX : CXT} {k : Nat} {C : Addr} {sp : Sp} {E : XK} {a b : Expr} {ta tb : TE} {pos : Pos}
theorem oOwn {op : Operator} (G : XOk X.prog X.w X.K X.mg X.base CX k (BOwn X.K C (PySem.dunder op.info.2)) sp) (hr : Room k X.A) (hx : Passes CX X E) : OpR X (binaryOp op) (rOwn C sp E) :=
  let ⟨_, F, r⟩ := G
  op_own r F hr hx
theorem oOwnI {op : Operator} (G : XOk X.prog X.w X.K X.mg X.base CX k (BOwnI X.K C op) sp) (hr : Room k X.A) (hx : Passes CX X E) : OpR X (binaryOp op) (rOwnI C sp E) :=
  let ⟨_, F, r⟩ := G
  op_ownI r F hr hx
theorem oInOwn (G : XOk X.prog X.w X.K X.mg X.base CX k (COwn X.K C) sp) (hr : Room k X.A) (hx : Passes CX X E) : OpR X (compareOp .In) (rInOwn C sp E) :=
  let ⟨_, F, r⟩ := G
  op_inOwn r F hr hx
theorem pe_ixO (G : XOk X.prog X.w X.K X.mg X.base CX k (IOwn X.K C) sp) (hr : Room (k + 1) X.A) (hx : Passes CX X E) (ha : PE X a ta) (hb : PE X b tb)
    (hsl : ∀ x i, subscripted b true (.ref x) i = runValue (.builtin "lifetime.subscript" ⟨[.ref x, i], []⟩) := by intros; rfl) : PE X (.Subscript a b pos) (tIxOwn C sp E ta tb) :=
  let ⟨_, F, r⟩ := G
  pe_ixOwn r F hr hx ha hb hsl
theorem rd_own {p q : Addr} {H : Hp} {Q : VK} (i : InsA H p C) (j : InsA H q C) (h : sp [.ref p, .ref q] H Q E) : rOwn C sp E (.ref p) (.ref q) H Q := ⟨p, q, rfl, rfl, i, j, h⟩
theorem rd_ownI {p : Addr} {z : Int} {H : Hp} {Q : VK} (i : InsA H p C) (h : sp [.ref p, .int z] H Q E) : rOwnI C sp E (.ref p) (.int z) H Q := ⟨p, z, rfl, rfl, i, h⟩
end
end L2.Px

set_option Elab.async false
set_option linter.all false
/-! the mathematics of texts: steps, keys of places -/
namespace L2.Px
open PySem L2 TL

inductive Stp where
  | wr (w : Str)
  | pa (f l t : Nat)
deriving DecidableEq

def len1 : Stp → Nat
  | .wr w => w.length
  | .pa f l t => (l - f + 1) * t
def sz : List Stp → Nat
  | [] => 0
  | s :: r => len1 s + sz r
def ty1 : Stp → List Nat
  | .wr w => tl w
  | .pa _ _ _ => []
def tyL : List Stp → List Nat
  | [] => []
  | s :: r => ty1 s ++ tyL r
def okStep (n : Nat) : Stp → Prop
  | .wr w => 1 ≤ w.length ∧ w.length ≤ 20 ∧ ∀ c ∈ tl w, 97 ≤ c ∧ c ≤ 122
  | .pa f l t => f ≤ l ∧ l < n ∧ 1 ≤ t ∧ t ≤ 1000000000
def okFrom : Nat → List Stp → Prop
  | _, [] => True
  | n, s :: r => okStep n s ∧ n + len1 s ≤ 1000000000000000000 ∧ okFrom (n + len1 s) r
def stepK (q : List Nat × Nat) : Stp → List Nat × Nat
  | .wr w => (q.1 ++ List.range' q.2 w.length, q.2 + w.length)
  | .pa f l t => (q.1 ++ (List.replicate t ((q.1.drop f).take (l - f + 1))).flatten, q.2)
def run (ss : List Stp) : List Nat × Nat := ss.foldl stepK ([], 0)
/-- the keys of all places -/
def ks (ss : List Stp) : List Nat := (run ss).1

theorem sz_append : ∀ (a b : List Stp), sz (a ++ b) = sz a + sz b
  | [], b => by simp [sz]
  | s :: a, b => by simp only [List.cons_append, sz]; rw [sz_append a b]; omega
theorem tyL_append : ∀ (a b : List Stp), tyL (a ++ b) = tyL a ++ tyL b
  | [], b => by simp [tyL]
  | s :: a, b => by simp only [List.cons_append, tyL]; rw [tyL_append a b, List.append_assoc]
theorem okFrom_append : ∀ (n : Nat) (a b : List Stp), okFrom n (a ++ b) ↔ okFrom n a ∧ okFrom (n + sz a) b
  | n, [], b => by simp [okFrom, sz]
  | n, s :: a, b => by
    simp only [List.cons_append, okFrom, sz]
    rw [okFrom_append (n + len1 s) a b, show n + (len1 s + sz a) = n + len1 s + sz a by omega]
    constructor
    · rintro ⟨h1, h2, h3, h4⟩; exact ⟨⟨h1, h2, h3⟩, h4⟩
    · rintro ⟨⟨h1, h2, h3⟩, h4⟩; exact ⟨h1, h2, h3, h4⟩
theorem run_append (a b : List Stp) : run (a ++ b) = b.foldl stepK (run a) := List.foldl_append
theorem take_snoc {α : Type} {l : List α} {j : Nat} {s : α} (h : l[j]? = some s) : l.take (j + 1) = l.take j ++ [s] := by
  rw [List.take_add_one, h]; rfl
theorem sz_take {ss : List Stp} {j : Nat} {s : Stp} (h : ss[j]? = some s) : sz (ss.take (j + 1)) = sz (ss.take j) + len1 s := by
  rw [take_snoc h, sz_append]; simp [sz]
theorem run_take {ss : List Stp} {j : Nat} {s : Stp} (h : ss[j]? = some s) : run (ss.take (j + 1)) = stepK (run (ss.take j)) s := by
  rw [take_snoc h, run_append]; rfl
theorem tyL_take {ss : List Stp} {j : Nat} {s : Stp} (h : ss[j]? = some s) : tyL (ss.take (j + 1)) = tyL (ss.take j) ++ ty1 s := by
  rw [take_snoc h, tyL_append]; simp [tyL]
theorem ok_at {ss : List Stp} {j : Nat} {s : Stp} (ok : okFrom 0 ss) (h : ss[j]? = some s) : okStep (sz (ss.take j)) s ∧ sz (ss.take j) + len1 s ≤ 1000000000000000000 := by
  have e : ss = ss.take j ++ (s :: ss.drop (j + 1)) := by
    have hj : j < ss.length := (List.getElem?_eq_some_iff.mp h).1
    have hs : ss[j] = s := (List.getElem?_eq_some_iff.mp h).2
    rw [← hs, ← List.drop_eq_getElem_cons hj, List.take_append_drop]
  rw [e, okFrom_append] at ok
  obtain ⟨_, h1, h2, _⟩ := ok
  simp only [Nat.zero_add] at h1 h2
  exact ⟨h1, h2⟩
theorem ok_take {ss : List Stp} (ok : okFrom 0 ss) (j : Nat) : okFrom 0 (ss.take j) := by
  rw [← List.take_append_drop j ss, okFrom_append] at ok
  exact ok.1
theorem sz_le {ss : List Stp} (ok : okFrom 0 ss) : sz ss ≤ 1000000000000000000 := by
  rcases Nat.eq_zero_or_pos ss.length with h | h
  · rw [List.length_eq_zero_iff.mp h]; simp [sz]
  · have hj : ss[ss.length - 1]? = some (ss[ss.length - 1]'(by omega)) := by rw [List.getElem?_eq_getElem]
    have := (ok_at ok hj).2
    rw [← sz_take hj, show ss.length - 1 + 1 = ss.length by omega, List.take_length] at this
    exact this
theorem run_snd_from : ∀ (ss : List Stp) (q : List Nat × Nat), (ss.foldl stepK q).2 = q.2 + (tyL ss).length
  | [], q => by simp [tyL]
  | .wr w :: r, q => by
    simp only [List.foldl_cons, tyL, List.length_append, ty1]
    rw [run_snd_from r]; simp only [stepK]; rw [len_tl w]; omega
  | .pa f l t :: r, q => by
    simp only [List.foldl_cons, tyL, List.length_append, ty1]
    rw [run_snd_from r]; simp [stepK]
theorem run_snd (ss : List Stp) : (run ss).2 = (tyL ss).length := by
  unfold run; rw [run_snd_from]; simp
theorem length_flat_rep {α : Type} (t : Nat) (l : List α) : (List.replicate t l).flatten.length = t * l.length := by
  induction t with
  | zero => simp
  | succ t ih => rw [List.replicate_succ, List.flatten_cons, List.length_append, ih, Nat.succ_mul]; omega
theorem stepK_len {q : List Nat × Nat} {s : Stp} (h : okStep q.1.length s) : (stepK q s).1.length = q.1.length + len1 s := by
  cases s with
  | wr w => simp [stepK, len1]
  | pa f l t =>
    obtain ⟨h1, h2, _, _⟩ := h
    simp only [stepK, len1, List.length_append, length_flat_rep, List.length_take, List.length_drop]
    rw [Nat.min_eq_left (by omega), Nat.mul_comm]
theorem ks_len_from : ∀ (ss : List Stp) (q : List Nat × Nat), okFrom q.1.length ss → (ss.foldl stepK q).1.length = q.1.length + sz ss
  | [], q, _ => by simp [sz]
  | s :: r, q, ok => by
    obtain ⟨h1, h2, h3⟩ := ok
    have e := stepK_len h1
    rw [List.foldl_cons, ks_len_from r _ (by rw [e]; exact h3), e]
    simp only [sz]; omega
theorem ks_len {ss : List Stp} (ok : okFrom 0 ss) : (ks ss).length = sz ss := by
  have := ks_len_from ss ([], 0) ok
  simpa [ks, run] using this
/-- the keys of the first steps' places stand ahead -/
theorem stepK_pre (q : List Nat × Nat) (s : Stp) : ∃ m, (stepK q s).1 = q.1 ++ m := by
  cases s <;> exact ⟨_, rfl⟩
theorem run_pre : ∀ (ss : List Stp) (q : List Nat × Nat), ∃ m, (ss.foldl stepK q).1 = q.1 ++ m
  | [], q => ⟨[], by simp⟩
  | s :: r, q => by
    obtain ⟨m, e⟩ := stepK_pre q s
    obtain ⟨m', e'⟩ := run_pre r (stepK q s)
    exact ⟨m ++ m', by rw [List.foldl_cons, e', e, List.append_assoc]⟩
theorem ks_pre (a b : List Stp) : ∃ m, ks (a ++ b) = ks a ++ m := by
  unfold ks
  rw [run_append]
  exact run_pre b (run a)
theorem ks_take {ss : List Stp} (ok : okFrom 0 ss) (j : Nat) {p : Nat} (h : p < sz (ss.take j)) : (ks ss)[p]? = (ks (ss.take j))[p]? := by
  obtain ⟨m, e⟩ := ks_pre (ss.take j) (ss.drop j)
  rw [List.take_append_drop] at e
  rw [e, List.getElem?_append_left (by rw [ks_len (ok_take ok j)]; exact h)]
theorem flat_rep_get {α : Type} {l : List α} (hl : 0 < l.length) : ∀ (t i : Nat), i < t * l.length → (List.replicate t l).flatten[i]? = l[i % l.length]?
  | 0, i, h => by simp at h
  | t + 1, i, h => by
    rw [List.replicate_succ, List.flatten_cons]
    by_cases hi : i < l.length
    · rw [List.getElem?_append_left hi, Nat.mod_eq_of_lt hi]
    · rw [List.getElem?_append_right (by omega), flat_rep_get hl t (i - l.length) (by rw [Nat.succ_mul] at h; omega)]
      rw [← Nat.mod_eq_sub_mod (by omega)]
/-- a typed place -/
theorem ks_wr {ss : List Stp} {j : Nat} {w : Str} (ok : okFrom 0 ss) (h : ss[j]? = some (.wr w)) {p : Nat} (h1 : sz (ss.take j) ≤ p) (h2 : p < sz (ss.take (j + 1))) : (ks ss)[p]? = some ((tyL (ss.take j)).length + (p - sz (ss.take j))) := by
  rw [ks_take ok (j + 1) h2]
  have hs := sz_take h
  simp only [len1] at hs
  unfold ks
  rw [run_take h]
  simp only [stepK]
  have e : (run (ss.take j)).1.length = sz (ss.take j) := ks_len (ok_take ok j)
  rw [List.getElem?_append_right (by rw [e]; exact h1), e, run_snd, List.getElem?_range' (by omega)]
  simp
/-- a pasted place -/
theorem ks_pa {ss : List Stp} {j f l t : Nat} (ok : okFrom 0 ss) (h : ss[j]? = some (.pa f l t)) {p : Nat} (h1 : sz (ss.take j) ≤ p) (h2 : p < sz (ss.take (j + 1))) :
    f + (p - sz (ss.take j)) % (l - f + 1) < sz (ss.take j) ∧ (ks ss)[p]? = (ks ss)[f + (p - sz (ss.take j)) % (l - f + 1)]? := by
  obtain ⟨⟨a1, a2, a3, a4⟩, _⟩ := ok_at ok h
  have hm : (p - sz (ss.take j)) % (l - f + 1) < l - f + 1 := Nat.mod_lt _ (by omega)
  refine ⟨by omega, ?_⟩
  rw [ks_take ok (j + 1) h2, ks_take ok j (p := f + (p - sz (ss.take j)) % (l - f + 1)) (by omega)]
  have hs := sz_take h
  simp only [len1] at hs
  have e : (run (ss.take j)).1.length = sz (ss.take j) := ks_len (ok_take ok j)
  unfold ks
  rw [run_take h]
  simp only [stepK]
  have el : (((run (ss.take j)).1.drop f).take (l - f + 1)).length = l - f + 1 := by
    rw [List.length_take, List.length_drop, e]; omega
  rw [List.getElem?_append_right (by rw [e]; exact h1), e, flat_rep_get (by rw [el]; omega) _ _ (by rw [el, Nat.mul_comm]; omega), el, List.getElem?_take]
  rw [if_pos hm, List.getElem?_drop]
/-- all keys are keys -/
theorem stepK_lt {q : List Nat × Nat} {s : Stp} (h : ∀ k ∈ q.1, k < q.2) : ∀ k ∈ (stepK q s).1, k < (stepK q s).2 := by
  cases s with
  | wr w =>
    intro k hk
    simp only [stepK, List.mem_append, List.mem_range'_1] at hk ⊢
    rcases hk with hk | hk
    · have := h k hk; omega
    · omega
  | pa f l t =>
    intro k hk
    simp only [stepK, List.mem_append, List.mem_flatten, List.mem_replicate] at hk ⊢
    rcases hk with hk | ⟨l', ⟨_, rfl⟩, hk⟩
    · exact h k hk
    · exact h k (List.mem_of_mem_drop (List.mem_of_mem_take hk))
theorem run_lt : ∀ (ss : List Stp) (q : List Nat × Nat), (∀ k ∈ q.1, k < q.2) → ∀ k ∈ (ss.foldl stepK q).1, k < (ss.foldl stepK q).2
  | [], q, h => h
  | s :: r, q, h => run_lt r _ (stepK_lt h)
theorem ks_lt {ss : List Stp} {k : Nat} (h : k ∈ ks ss) : k < (tyL ss).length := by
  have := run_lt ss ([], 0) (by simp) k h
  rw [← run_snd]; exact this
end L2.Px

set_option Elab.async false
set_option linter.all false
set_option maxRecDepth 100000
set_option maxHeartbeats 1000000
/-! texts in the heap, and what the package's defs promise -/
namespace L2.Px
open PySem PySem.Spec PyProof.Rows StX TL

/-! ### plain answers -/
def isInt (lo hi : Int) : V → Bool
  | .int i => decide (lo ≤ i ∧ i ≤ hi)
  | _ => false
def isLet : V → Bool
  | .str x => match tl x with
    | [c] => decide (97 ≤ c ∧ c ≤ 122)
    | _ => false
  | _ => false
def isWd : V → Bool
  | .str x => decide (1 ≤ (tl x).length ∧ (tl x).length ≤ 20 ∧ ∀ c ∈ tl x, 97 ≤ c ∧ c ≤ 122)
  | _ => false
def intOf : V → Int
  | .int i => i
  | _ => 0
def isSt (n : Int) : List V → Bool
  | [.str z, v] => decide (z = "write") && isWd v
  | [.str z, f, l, t] => decide (z = "paste") && (isInt 0 (n - 1) l && isInt 0 (intOf l) f && isInt 1 1000000000 t)
  | _ => false
def sp_is_integer : Sp := fun vs H Q _ => ∃ v lo hi, vs = [v, .int lo, .int hi] ∧ NoSeq v ∧ Q (.bl (isInt lo hi v)) H
def sp_is_letter : Sp := fun vs H Q _ => ∃ v, vs = [v] ∧ NoSeq v ∧ (∀ x, v = .str x → x.length ≤ sizeLine) ∧ Q (.bl (isLet v)) H
def sp_is_word : Sp := fun vs H Q _ => ∃ v, vs = [v] ∧ NoSeq v ∧ (∀ x, v = .str x → x.length ≤ sizeLine) ∧ ∀ H', Same H H' → Q (.bl (isWd v)) H'

/-! ### parts and texts -/
def mkS (l : List Nat) : Str := ⟨l.toArray⟩
theorem tl_mkS (l : List Nat) : tl (mkS l) = l := rfl
theorem mkS_tl (x : Str) : mkS (tl x) = x := mk_tl x
theorem mkS_len (l : List Nat) : (mkS l).length = l.length := by rw [len_tl, tl_mkS]
theorem mkS_app (a b : List Nat) : mkS a ++ mkS b = mkS (a ++ b) := ext_tl (by rw [tl_append, tl_mkS, tl_mkS, tl_mkS])
def partF (s n : Int) (t : Bool) (f l : Int) : List (Str × V) := putF "last" (.int l) (putF "first" (.int f) (putF "is_typed" (.bl t) (putF "length" (.int n) (putF "start" (.int s) []))))
def textF (m : Addr) (y : Str) (p : Addr) (n : Int) : List (Str × V) := putF "total" (.int n) (putF "parts" (.ref p) (putF "typed" (.str y) (putF "made" (.ref m) [])))
section
variable {s n f l : Int} {t : Bool} {m p : Addr} {y x : Str}
theorem partF_start : (partF s n t f l).lookup ("start" : Str) = some (.int s) := by
  unfold partF; rw [lookup_putF, if_neg (by decide +kernel), lookup_putF, if_neg (by decide +kernel), lookup_putF, if_neg (by decide +kernel), lookup_putF, if_neg (by decide +kernel), lookup_putF, if_pos rfl]
theorem partF_length : (partF s n t f l).lookup ("length" : Str) = some (.int n) := by
  unfold partF; rw [lookup_putF, if_neg (by decide +kernel), lookup_putF, if_neg (by decide +kernel), lookup_putF, if_neg (by decide +kernel), lookup_putF, if_pos rfl]
theorem partF_typed : (partF s n t f l).lookup ("is_typed" : Str) = some (.bl t) := by
  unfold partF; rw [lookup_putF, if_neg (by decide +kernel), lookup_putF, if_neg (by decide +kernel), lookup_putF, if_pos rfl]
theorem partF_first : (partF s n t f l).lookup ("first" : Str) = some (.int f) := by
  unfold partF; rw [lookup_putF, if_neg (by decide +kernel), lookup_putF, if_pos rfl]
theorem partF_last : (partF s n t f l).lookup ("last" : Str) = some (.int l) := by
  unfold partF; rw [lookup_putF, if_pos rfl]
theorem partF_no (h : x ≠ "last" ∧ x ≠ "first" ∧ x ≠ "is_typed" ∧ x ≠ "length" ∧ x ≠ "start") : (partF s n t f l).lookup x = none := by
  unfold partF; rw [lookup_putF, if_neg h.1, lookup_putF, if_neg h.2.1, lookup_putF, if_neg h.2.2.1, lookup_putF, if_neg h.2.2.2.1, lookup_putF, if_neg h.2.2.2.2]; rfl
theorem textF_made : (textF m y p n).lookup ("made" : Str) = some (.ref m) := by
  unfold textF; rw [lookup_putF, if_neg (by decide +kernel), lookup_putF, if_neg (by decide +kernel), lookup_putF, if_neg (by decide +kernel), lookup_putF, if_pos rfl]
theorem textF_typed : (textF m y p n).lookup ("typed" : Str) = some (.str y) := by
  unfold textF; rw [lookup_putF, if_neg (by decide +kernel), lookup_putF, if_neg (by decide +kernel), lookup_putF, if_pos rfl]
theorem textF_parts : (textF m y p n).lookup ("parts" : Str) = some (.ref p) := by
  unfold textF; rw [lookup_putF, if_neg (by decide +kernel), lookup_putF, if_pos rfl]
theorem textF_total : (textF m y p n).lookup ("total" : Str) = some (.int n) := by
  unfold textF; rw [lookup_putF, if_pos rfl]
theorem textF_no (h : x ≠ "total" ∧ x ≠ "parts" ∧ x ≠ "typed" ∧ x ≠ "made") : (textF m y p n).lookup x = none := by
  unfold textF; rw [lookup_putF, if_neg h.1, lookup_putF, if_neg h.2.1, lookup_putF, if_neg h.2.2.1, lookup_putF, if_neg h.2.2.2]; rfl
theorem putF_len {fs : List (Str × V)} {k : Nat} {f : Str} {v : V} (h : fs.length ≤ k) : (putF f v fs).length ≤ k + 1 := Nat.le_trans (length_putF f v fs) (Nat.succ_le_succ h)
end
/-- a written step as a tuple's items -/
def stV : Stp → List V
  | .wr w => [.str "write", .str w]
  | .pa f l t => [.str "paste", .int f, .int l, .int t]
def StepAt (K : PySem.W.Frag) (H : Hp) (v : V) (s : Stp) : Prop := ∃ a, v = .ref a ∧ SqT K H a (stV s)
def StepsAt (K : PySem.W.Frag) (H : Hp) (ms : List V) (ss : List Stp) : Prop := ms.length = ss.length ∧ ∀ (j : Nat) s, ss[j]? = some s → ∃ v, ms[j]? = some v ∧ StepAt K H v s
/-- the part of step j -/
def PartAt (CP : Addr) (H : Hp) (v : V) (n y : Nat) : Stp → Prop
  | .wr w => ∃ p dx, v = .ref p ∧ H p = some (.ins CP dx (partF n w.length true y 0))
  | .pa f l t => ∃ p dx, v = .ref p ∧ H p = some (.ins CP dx (partF n (((l - f + 1) * t : Nat)) false f l))
def PartsAt (CP : Addr) (H : Hp) (ps : List V) (ss : List Stp) : Prop := ps.length = ss.length ∧ ∀ (j : Nat) s, ss[j]? = some s → ∃ v, ps[j]? = some v ∧ PartAt CP H v (sz (ss.take j)) (tyL (ss.take j)).length s
structure TxI where
  ss : List Stp
  dx : Addr
  m : Addr
  pl : Addr
  ms : List V
  ps : List V
structure TextAt (K : PySem.W.Frag) (CT CP : Addr) (H : Hp) (a : Addr) (t : TxI) : Prop where
  ins : H a = some (.ins CT t.dx (textF t.m (mkS (tyL t.ss)) t.pl (sz t.ss)))
  made : SqT K H t.m t.ms
  stp : StepsAt K H t.ms t.ss
  pls : H t.pl = some (.lst t.ps)
  prt : PartsAt CP H t.ps t.ss
  ok : okFrom 0 t.ss
  few : t.ss.length ≤ 30
section
variable {K : PySem.W.Frag} {CT CP : Addr} {H H' : Hp} {a : Addr} {t : TxI} {v : V} {s : Stp} {ms ps : List V} {ss : List Stp} {n y : Nat}
theorem StepAt.mono (e : Same H H') (h : StepAt K H v s) : StepAt K H' v s := let ⟨a, ev, q⟩ := h; ⟨a, ev, Same.tup e q⟩
theorem StepsAt.mono (e : Same H H') (h : StepsAt K H ms ss) : StepsAt K H' ms ss := ⟨h.1, fun j s q => let ⟨v, a, b⟩ := h.2 j s q; ⟨v, a, b.mono e⟩⟩
theorem PartAt.mono (e : Same H H') (h : PartAt CP H v n y s) : PartAt CP H' v n y s := by
  cases s with
  | wr w => obtain ⟨p, dx, ev, q⟩ := h; exact ⟨p, dx, ev, e _ _ q⟩
  | pa f l t => obtain ⟨p, dx, ev, q⟩ := h; exact ⟨p, dx, ev, e _ _ q⟩
theorem PartsAt.mono (e : Same H H') (h : PartsAt CP H ps ss) : PartsAt CP H' ps ss := ⟨h.1, fun j s q => let ⟨v, a, b⟩ := h.2 j s q; ⟨v, a, b.mono e⟩⟩
theorem TextAt.mono (h : TextAt K CT CP H a t) (e : Same H H') : TextAt K CT CP H' a t := ⟨e _ _ h.ins, Same.tup e h.made, h.stp.mono e, e _ _ h.pls, h.prt.mono e, h.ok, h.few⟩
theorem TextAt.insA (h : TextAt K CT CP H a t) : InsA H a CT := ⟨_, _, h.ins⟩
theorem TextAt.insM {m : Str} (h : TextAt K CT CP H a t) (hm : m ≠ "total" ∧ m ≠ "parts" ∧ m ≠ "typed" ∧ m ≠ "made" := by decide +kernel) : InsM H a CT m := ⟨_, _, h.ins, textF_no hm⟩
theorem stV_noseq (s : Stp) : ∀ v ∈ stV s, NoSeq v := by
  cases s <;> (intro v hv; simp only [stV, List.mem_cons, List.not_mem_nil, or_false] at hv; rcases hv with rfl | hv) <;> first | trivial | (rcases hv with rfl | hv <;> first | trivial | (rcases hv with rfl | rfl <;> trivial)) | (subst hv; trivial)
end
/-! ### the package's promises, where nothing is raised -/
section
variable (K : PySem.W.Frag) (CT CP : Addr)
def sp_Part_init : Sp := fun vs H Q _ => ∃ x dx s n t f l, vs = [.ref x, .int s, .int n, .bl t, .int f, .int l] ∧ H x = some (.ins CP dx []) ∧ Q .non (upd H x (.ins CP dx (partF s n t f l)))
def sp_Part_source : Sp := fun vs H Q _ => ∃ p dx s n t f l z, vs = [.ref p, .int z] ∧ H p = some (.ins CP dx (partF s n t f l)) ∧ (t = false → f ≤ l) ∧ Q (.int (if t then f + z - s else f + (z - s) % (l - f + 1))) H
/-- Text(*steps) of valid steps: all that stood stands, x is the text -/
def sp_Text_init : Sp := fun vs H Q _ => ∃ x dx m rs ss, vs = [.ref x, .ref m] ∧ H x = some (.ins CT dx []) ∧ SqT K H m rs ∧ StepsAt K H rs ss ∧ okFrom 0 ss ∧ ss.length ≤ 30 ∧
  ∀ H' t, (∀ b o, b ≠ x → H b = some o → H' b = some o) → TextAt K CT CP H' x t → t.ss = ss → t.dx = dx → Q .non H'
end
end L2.Px
namespace L2.Px
open PySem PySem.Spec PyProof.Rows StX TL
section
variable {K : PySem.W.Frag} {H : Hp} {Q : VK} {T : String}
theorem rd_isi {x c : V} {t u : Value} {b : Bool} (k : ClsV c u) (ty : TyX K H x t) (e : PySem.W.kitOne K t u = some b) (q : Q (.bl b) H) : rIsi K [x, c] H Q := ⟨x, c, t, u, b, rfl, k, ty, e, q⟩
def kb (a b : String) : Bool := (kitB a b).getD false
theorem rd_isi_ty {x : V} {a b : String} (ty : TyX K H x (.type a)) (e : (kitB a b).isSome = true) (q : Q (.bl (kb a b)) H) : rIsi K [x, .ty b] H Q := by
  obtain ⟨r, hr⟩ := Option.isSome_iff_exists.mp e
  have e2 : kb a b = r := by unfold kb; rw [hr]; rfl
  rw [e2] at q
  exact rd_isi (.ty b) ty (kit_ty hr) q
end
end L2.Px
namespace L2.Px
open PySem PySem.Spec PyProof.Rows StX TL
section
variable {K : PySem.W.Frag} {H : Hp} {Q : VK}
theorem rd_isi_int_int {i : Int} (q : Q (.bl true) H) : rIsi K [(.int i), .ty "int"] H Q := rd_isi (.ty _) (TyX.base (.int i)) (kit_ty (by decide +kernel)) q
theorem rd_isi_int_bool {i : Int} (q : Q (.bl false) H) : rIsi K [(.int i), .ty "bool"] H Q := rd_isi (.ty _) (TyX.base (.int i)) (kit_ty (by decide +kernel)) q
theorem rd_isi_int_str {i : Int} (q : Q (.bl false) H) : rIsi K [(.int i), .ty "str"] H Q := rd_isi (.ty _) (TyX.base (.int i)) (kit_ty (by decide +kernel)) q
theorem rd_isi_int_list {i : Int} (q : Q (.bl false) H) : rIsi K [(.int i), .ty "list"] H Q := rd_isi (.ty _) (TyX.base (.int i)) (kit_ty (by decide +kernel)) q
theorem rd_isi_int_tuple {i : Int} (q : Q (.bl false) H) : rIsi K [(.int i), .ty "tuple"] H Q := rd_isi (.ty _) (TyX.base (.int i)) (kit_ty (by decide +kernel)) q
theorem rd_isi_bl_int {c : Bool} (q : Q (.bl true) H) : rIsi K [(.bl c), .ty "int"] H Q := rd_isi (.ty _) (TyX.base (.bl c)) (kit_ty (by decide +kernel)) q
theorem rd_isi_bl_bool {c : Bool} (q : Q (.bl true) H) : rIsi K [(.bl c), .ty "bool"] H Q := rd_isi (.ty _) (TyX.base (.bl c)) (kit_ty (by decide +kernel)) q
theorem rd_isi_bl_str {c : Bool} (q : Q (.bl false) H) : rIsi K [(.bl c), .ty "str"] H Q := rd_isi (.ty _) (TyX.base (.bl c)) (kit_ty (by decide +kernel)) q
theorem rd_isi_bl_list {c : Bool} (q : Q (.bl false) H) : rIsi K [(.bl c), .ty "list"] H Q := rd_isi (.ty _) (TyX.base (.bl c)) (kit_ty (by decide +kernel)) q
theorem rd_isi_bl_tuple {c : Bool} (q : Q (.bl false) H) : rIsi K [(.bl c), .ty "tuple"] H Q := rd_isi (.ty _) (TyX.base (.bl c)) (kit_ty (by decide +kernel)) q
theorem rd_isi_str_int {x : Str} (q : Q (.bl false) H) : rIsi K [(.str x), .ty "int"] H Q := rd_isi (.ty _) (TyX.base (.str x)) (kit_ty (by decide +kernel)) q
theorem rd_isi_str_bool {x : Str} (q : Q (.bl false) H) : rIsi K [(.str x), .ty "bool"] H Q := rd_isi (.ty _) (TyX.base (.str x)) (kit_ty (by decide +kernel)) q
theorem rd_isi_str_str {x : Str} (q : Q (.bl true) H) : rIsi K [(.str x), .ty "str"] H Q := rd_isi (.ty _) (TyX.base (.str x)) (kit_ty (by decide +kernel)) q
theorem rd_isi_str_list {x : Str} (q : Q (.bl false) H) : rIsi K [(.str x), .ty "list"] H Q := rd_isi (.ty _) (TyX.base (.str x)) (kit_ty (by decide +kernel)) q
theorem rd_isi_str_tuple {x : Str} (q : Q (.bl false) H) : rIsi K [(.str x), .ty "tuple"] H Q := rd_isi (.ty _) (TyX.base (.str x)) (kit_ty (by decide +kernel)) q
theorem rd_isi_non_int  (q : Q (.bl false) H) : rIsi K [V.non, .ty "int"] H Q := rd_isi (.ty _) (TyX.base .non) (kit_ty (by decide +kernel)) q
theorem rd_isi_non_bool  (q : Q (.bl false) H) : rIsi K [V.non, .ty "bool"] H Q := rd_isi (.ty _) (TyX.base .non) (kit_ty (by decide +kernel)) q
theorem rd_isi_non_str  (q : Q (.bl false) H) : rIsi K [V.non, .ty "str"] H Q := rd_isi (.ty _) (TyX.base .non) (kit_ty (by decide +kernel)) q
theorem rd_isi_non_list  (q : Q (.bl false) H) : rIsi K [V.non, .ty "list"] H Q := rd_isi (.ty _) (TyX.base .non) (kit_ty (by decide +kernel)) q
theorem rd_isi_non_tuple  (q : Q (.bl false) H) : rIsi K [V.non, .ty "tuple"] H Q := rd_isi (.ty _) (TyX.base .non) (kit_ty (by decide +kernel)) q
theorem ty_lst {a : Addr} {xs : List V} (e : SqL K H a xs) : TyX K H (.ref a) (.type "list") := by
  rcases e with (q | ⟨o, q⟩) | ⟨o, _, _, q, c, _⟩
  · exact TyX.base (.lst q)
  · exact TyX.base (.frz q)
  · exact TyX.kList q c
theorem rd_isi_lst_int {a : Addr} {xs : List V} (e : SqL K H a xs) (q : Q (.bl false) H) : rIsi K [.ref a, .ty "int"] H Q := rd_isi (.ty _) (ty_lst e) (kit_ty (by decide +kernel)) q
theorem rd_isi_lst_bool {a : Addr} {xs : List V} (e : SqL K H a xs) (q : Q (.bl false) H) : rIsi K [.ref a, .ty "bool"] H Q := rd_isi (.ty _) (ty_lst e) (kit_ty (by decide +kernel)) q
theorem rd_isi_lst_str {a : Addr} {xs : List V} (e : SqL K H a xs) (q : Q (.bl false) H) : rIsi K [.ref a, .ty "str"] H Q := rd_isi (.ty _) (ty_lst e) (kit_ty (by decide +kernel)) q
theorem rd_isi_lst_list {a : Addr} {xs : List V} (e : SqL K H a xs) (q : Q (.bl true) H) : rIsi K [.ref a, .ty "list"] H Q := rd_isi (.ty _) (ty_lst e) (kit_ty (by decide +kernel)) q
theorem rd_isi_lst_tuple {a : Addr} {xs : List V} (e : SqL K H a xs) (q : Q (.bl false) H) : rIsi K [.ref a, .ty "tuple"] H Q := rd_isi (.ty _) (ty_lst e) (kit_ty (by decide +kernel)) q
theorem ty_tup {a : Addr} {xs : List V} (e : SqT K H a xs) : TyX K H (.ref a) (.type "tuple") := by
  rcases e with (q | ⟨o, q⟩) | ⟨o, _, _, q, c, _⟩
  · exact TyX.base (.tup q)
  · exact TyX.fTuple q
  · exact TyX.kTuple q c
theorem rd_isi_tup_int {a : Addr} {xs : List V} (e : SqT K H a xs) (q : Q (.bl false) H) : rIsi K [.ref a, .ty "int"] H Q := rd_isi (.ty _) (ty_tup e) (kit_ty (by decide +kernel)) q
theorem rd_isi_tup_bool {a : Addr} {xs : List V} (e : SqT K H a xs) (q : Q (.bl false) H) : rIsi K [.ref a, .ty "bool"] H Q := rd_isi (.ty _) (ty_tup e) (kit_ty (by decide +kernel)) q
theorem rd_isi_tup_str {a : Addr} {xs : List V} (e : SqT K H a xs) (q : Q (.bl false) H) : rIsi K [.ref a, .ty "str"] H Q := rd_isi (.ty _) (ty_tup e) (kit_ty (by decide +kernel)) q
theorem rd_isi_tup_list {a : Addr} {xs : List V} (e : SqT K H a xs) (q : Q (.bl false) H) : rIsi K [.ref a, .ty "list"] H Q := rd_isi (.ty _) (ty_tup e) (kit_ty (by decide +kernel)) q
theorem rd_isi_tup_tuple {a : Addr} {xs : List V} (e : SqT K H a xs) (q : Q (.bl true) H) : rIsi K [.ref a, .ty "tuple"] H Q := rd_isi (.ty _) (ty_tup e) (kit_ty (by decide +kernel)) q
end
end L2.Px

set_option Elab.async false
set_option linter.all false
set_option maxRecDepth 100000
set_option maxHeartbeats 1000000
/-! more of texts: heaps but for one object, the promises of Text's methods -/
namespace L2.Px
open PySem PySem.Spec PyProof.Rows StX TL
/-- all but what stands at x is as it was -/
def But (x : Addr) (H H' : Hp) : Prop := ∀ b o, b ≠ x → H b = some o → H' b = some o
section
variable {K : PySem.W.Frag} {CT CP : Addr} {H H' H1 : Hp} {a x : Addr} {t : TxI} {v : V} {s : Stp} {ms ps xs : List V} {ss : List Stp} {n y i : Nat} {o : HO}
theorem But.refl : But x H H := fun _ _ _ h => h
theorem But.trans (a : But x H H1) (b : But x H1 H') : But x H H' := fun c o hc h => b c o hc (a c o hc h)
theorem But.at (e : But x H H') : But x H (upd H' x o) := fun b u hb h => by rw [upd_ne hb]; exact e b u hb h
theorem But.new {p : Addr} (e : But x H H') (hp : H' p = none) : But x H (upd H' p o) := fun b u hb h => by rw [upd_ne (ne_of_none (e b u hb h) hp)]; exact e b u hb h
theorem But.same (e : Same H H') : But x H H' := fun b u _ h => e b u h
/-- an object that is no tuple and not locked -/
def Free1 (H : Hp) (x : Addr) : Prop := (∀ xs, H x ≠ some (.tup xs)) ∧ ∀ o u, H x ≠ some (.frz o u)
theorem free1_ins {C dx : Addr} {fs : List (Str × V)} (h : H x = some (.ins C dx fs)) : Free1 H x := ⟨fun xs e => (by rw [h] at e; cases e), fun o u e => (by rw [h] at e; cases e)⟩
theorem free1_lst (h : H x = some (.lst xs)) : Free1 H x := ⟨fun xs e => (by rw [h] at e; cases e), fun o u e => (by rw [h] at e; cases e)⟩
theorem But.tup (e : But x H H') (f : Free1 H x) (h : SqT K H a xs) : SqT K H' a xs := by
  rcases h with (h | ⟨o, h⟩) | h
  · exact .inl (.inl (e _ _ (fun z => f.1 xs (z ▸ h)) h))
  · exact .inl (.inr ⟨o, e _ _ (fun z => f.2 o _ (z ▸ h)) h⟩)
  · exact .inr h
theorem But.step (e : But x H H') (f : Free1 H x) (h : StepAt K H v s) : StepAt K H' v s := let ⟨a, ev, q⟩ := h; ⟨a, ev, e.tup f q⟩
theorem But.steps (e : But x H H') (f : Free1 H x) (h : StepsAt K H ms ss) : StepsAt K H' ms ss := ⟨h.1, fun j s q => let ⟨v, a, b⟩ := h.2 j s q; ⟨v, a, e.step f b⟩⟩
theorem But.part (e : But x H H') (f : ∀ dx fs, H x ≠ some (.ins CP dx fs)) (h : PartAt CP H v n y s) : PartAt CP H' v n y s := by
  cases s with
  | wr w => obtain ⟨p, dx, ev, q⟩ := h; exact ⟨p, dx, ev, e _ _ (fun z => f _ _ (z ▸ q)) q⟩
  | pa f' l t => obtain ⟨p, dx, ev, q⟩ := h; exact ⟨p, dx, ev, e _ _ (fun z => f _ _ (z ▸ q)) q⟩
theorem PartsAt.but (e : But x H H') (f : ∀ dx fs, H x ≠ some (.ins CP dx fs)) (h : PartsAt CP H ps ss) : PartsAt CP H' ps ss := ⟨h.1, fun j s q => let ⟨v, a, b⟩ := h.2 j s q; ⟨v, a, But.part e f b⟩⟩
theorem take_take_le {α : Type} {l : List α} {i j : Nat} (h : j ≤ i) : (l.take i).take j = l.take j := by rw [List.take_take, Nat.min_eq_left h]
theorem PartsAt.snoc (h : PartsAt CP H ps (ss.take i)) (hs : ss[i]? = some s) (e : But x H H') (f : ∀ dx fs, H x ≠ some (.ins CP dx fs)) (hp : PartAt CP H' v (sz (ss.take i)) (tyL (ss.take i)).length s) : PartsAt CP H' (ps ++ [v]) (ss.take (i + 1)) := by
  have hi : i < ss.length := (List.getElem?_eq_some_iff.mp hs).1
  have hl : ps.length = i := by rw [h.1, List.length_take]; omega
  refine ⟨by rw [List.length_append, hl, List.length_take]; simp; omega, fun j s' hj => ?_⟩
  have hj' : j < i + 1 := by
    have := (List.getElem?_eq_some_iff.mp hj).1
    rw [List.length_take] at this; omega
  rw [take_take_le (by omega)]
  rw [List.getElem?_take, if_pos hj'] at hj
  by_cases hji : j < i
  · obtain ⟨v', e1, e2⟩ := h.2 j s' (by rw [List.getElem?_take, if_pos hji]; exact hj)
    rw [take_take_le (by omega)] at e2
    exact ⟨v', by rw [List.getElem?_append_left (by omega)]; exact e1, But.part e f e2⟩
  · have ej : j = i := by omega
    subst ej
    rw [hs] at hj; cases hj
    exact ⟨v, by rw [List.getElem?_append_right (by omega), hl]; simp, hp⟩
theorem StepsAt.at (h : StepsAt K H ms ss) {j : Nat} (hv : ms[j]? = some v) : ∃ s, ss[j]? = some s ∧ StepAt K H v s := by
  have hj : j < ss.length := by rw [← h.1]; exact (List.getElem?_eq_some_iff.mp hv).1
  obtain ⟨v', e1, e2⟩ := h.2 j _ (List.getElem?_eq_getElem hj)
  rw [hv] at e1; cases e1
  exact ⟨_, List.getElem?_eq_getElem hj, e2⟩
theorem made_same {C dx : Addr} (nx : H x = none) (nd : H dx = none) (k : But x (upd (upd H dx (.own x)) x (.ins C dx [])) H') : Same H H' := Same.made nx nd fun b o e hb => k b o hb e
/-! ### valid steps are steps -/
theorem str_small {w : Str} (h : w.length ≤ 20) : w.length ≤ sizeLine := Nat.le_trans h (by rw [sizeLine_eq]; decide)
theorem isSt_ok (h : okStep n s) : isSt n (stV s) = true := by
  cases s with
  | wr w =>
    obtain ⟨a, b, c⟩ := h
    simp only [stV, isSt, isWd, Bool.and_eq_true, decide_eq_true_eq, true_and]
    rw [← len_tl w]
    exact ⟨a, b, c⟩
  | pa f l t =>
    obtain ⟨a, b, c, d⟩ := h
    simp [stV, isSt, isInt, intOf]
    omega
theorem stV_small (h : okStep n s) : ∀ v ∈ stV s, NoSeq v ∧ ∀ z, v = .str z → z.length ≤ sizeLine := by
  intro v hv
  refine ⟨stV_noseq s v hv, ?_⟩
  rintro z rfl
  cases s with
  | wr w =>
    simp only [stV, List.mem_cons, V.str.injEq, List.not_mem_nil, or_false] at hv
    rcases hv with rfl | rfl
    · exact str_small (by decide +kernel)
    · exact str_small h.2.1
  | pa f l t =>
    simp only [stV, List.mem_cons, V.str.injEq, List.not_mem_nil, or_false, reduceCtorEq] at hv
    subst hv
    exact str_small (by decide +kernel)
/-! ### sums, multiples, retyped keys -/
def mv (n : Nat) : Stp → Stp
  | .wr w => .wr w
  | .pa f l t => .pa (f + n) (l + n) t
def joinS (a b : List Stp) : List Stp := a ++ b.map (mv (sz a))
def rt (k c : Nat) : Nat → List Stp → List Stp
  | _, [] => []
  | n, .wr w :: r => (if n ≤ k ∧ k < n + w.length then .wr (mkS ((tl w).set (k - n) c)) else .wr w) :: rt k c (n + w.length) r
  | n, .pa f l t :: r => .pa f l t :: rt k c n r
end
section
variable (K : PySem.W.Frag) (CT CP : Addr)
def sp_is_step : Sp := fun vs H Q _ => ∃ v, ∃ (n : Nat), ∃ s, vs = [v, .int n] ∧ StepAt K H v s ∧ okStep n s ∧ ∀ H', Same H H' → Q (.bl true) H'
def sp_Text_of_steps : Sp := fun vs H Q _ => ∃ a ms ss, vs = [.ref CT, .ref a] ∧ (SqT K H a ms ∨ SqL K H a ms) ∧ StepsAt K H ms ss ∧ okFrom 0 ss ∧ ss.length ≤ 30 ∧ ∀ H' x t, Same H H' → TextAt K CT CP H' x t → t.ss = ss → Q (.ref x) H'
def sp_Text_steps : Sp := fun vs H Q _ => ∃ a t, vs = [.ref a] ∧ TextAt K CT CP H a t ∧ Q (.ref t.m) H
def sp_Text_typed_keys : Sp := fun vs H Q _ => ∃ a t, vs = [.ref a] ∧ TextAt K CT CP H a t ∧ Q (.str (mkS (tyL t.ss))) H
def sp_Text_size : Sp := fun vs H Q _ => ∃ a t, vs = [.ref a] ∧ TextAt K CT CP H a t ∧ Q (.int (sz t.ss)) H
def sp_Text_check_place : Sp := fun vs H Q _ => ∃ a t v, vs = [.ref a, v] ∧ TextAt K CT CP H a t ∧ NoSeq v ∧ isInt 0 ((sz t.ss : Int) - 1) v = true ∧ Q .non H
def sp_Text_check_key : Sp := fun vs H Q _ => ∃ a t v, vs = [.ref a, v] ∧ TextAt K CT CP H a t ∧ NoSeq v ∧ isInt 0 (((tyL t.ss).length : Int) - 1) v = true ∧ Q .non H
def sp_Text_key_of : Sp := fun vs H Q _ => ∃ a t, ∃ (p k : Nat), vs = [.ref a, .int p] ∧ TextAt K CT CP H a t ∧ (ks t.ss)[p]? = some k ∧ Q (.int k) H
def sp_Text_call : Sp := sp_Text_key_of K CT CP
def sp_Text_getitem : Sp := fun vs H Q _ => ∃ a t, ∃ (p k c : Nat), vs = [.ref a, .int p] ∧ TextAt K CT CP H a t ∧ (ks t.ss)[p]? = some k ∧ (tyL t.ss)[k]? = some c ∧ Q (.str ⟨#[c]⟩) H
def sp_Text_contains : Sp := fun vs H Q _ => ∃ a t v, vs = [.ref a, v] ∧ TextAt K CT CP H a t ∧ NoSeq v ∧ (∀ x, v = .str x → x.length ≤ sizeLine) ∧ Q (.bl (isLet v && (match v with | .str x => (tl x).all fun c => (tyL t.ss).contains c | _ => false))) H
def sp_Text_add : Sp := fun vs H Q _ => ∃ a b t u, vs = [.ref a, .ref b] ∧ TextAt K CT CP H a t ∧ TextAt K CT CP H b u ∧ okFrom 0 (joinS t.ss u.ss) ∧ (joinS t.ss u.ss).length ≤ 30 ∧ ∀ H' x z, Same H H' → TextAt K CT CP H' x z → z.ss = joinS t.ss u.ss → Q (.ref x) H'
def mulS (ss : List Stp) (n : Nat) : List Stp := if n = 1 ∨ sz ss = 0 then ss else ss ++ [.pa 0 (sz ss - 1) (n - 1)]
def sp_Text_mul : Sp := fun vs H Q _ => ∃ a t, ∃ (n : Nat), vs = [.ref a, .int n] ∧ TextAt K CT CP H a t ∧ 1 ≤ n ∧ n ≤ 1000000000 ∧ okFrom 0 (mulS t.ss n) ∧ (mulS t.ss n).length ≤ 30 ∧ ∀ H' x z, Same H H' → TextAt K CT CP H' x z → z.ss = mulS t.ss n → Q (.ref x) H'
def sp_Text_retyped : Sp := fun vs H Q _ => ∃ a t, ∃ (k c : Nat), vs = [.ref a, .int k, .str ⟨#[c]⟩] ∧ TextAt K CT CP H a t ∧ k < (tyL t.ss).length ∧ 97 ≤ c ∧ c ≤ 122 ∧ ∀ H' x z, Same H H' → TextAt K CT CP H' x z → z.ss = rt k c 0 t.ss → Q (.ref x) H'
def sp_moved_step : Sp := fun vs H Q _ => ∃ v, ∃ (n : Nat), ∃ s, vs = [v, .int n] ∧ StepAt K H v s ∧ ∀ H' u, Same H H' → StepAt K H' u (mv n s) → Q u H'
def sp_joined : Sp := sp_Text_add K CT CP
def sp_repeated : Sp := sp_Text_mul K CT CP
end
end L2.Px
namespace L2.Px
open PySem PySem.Spec PyProof.Rows StX TL
section
variable {K : PySem.W.Frag} {H : Hp} {Q : VK} {x : Str} {a : Addr} {xs : List V}
def rLenA (K : PySem.W.Frag) : List V → Hp → VK → Prop := fun xs H Q => ∃ x n, xs = [x] ∧ LenV K x H n ∧ Q (.int n) H
theorem cLen {X : Cx} : CallR X (.builtin "len") (rLenA X.K) := call_len
theorem rd_len_str (hz : x.length ≤ sizeLine) (q : Q (.int (x.length : Nat)) H) : rLenA K [.str x] H Q := ⟨_, _, rfl, ⟨hz, rfl⟩, q⟩
theorem rd_len_lst (h : SqL K H a xs) (q : Q (.int (xs.length : Nat)) H) : rLenA K [.ref a] H Q := ⟨_, _, rfl, .inl ⟨_, h, rfl⟩, q⟩
theorem rd_len_tup (h : SqT K H a xs) (q : Q (.int (xs.length : Nat)) H) : rLenA K [.ref a] H Q := ⟨_, _, rfl, .inr ⟨_, h, rfl⟩, q⟩
def rIntA : List V → Hp → VK → Prop := fun xs H Q => (∃ i, xs = [.int i] ∧ Q (.int i) H) ∨ ∃ k, xs = [.bl k] ∧ Q (.int (if k then 1 else 0)) H
theorem cInt {X : Cx} : CallR X (.type "int") rIntA := call_int1
theorem rd_int_int {i : Int} (q : Q (.int i) H) : rIntA [.int i] H Q := .inl ⟨i, rfl, q⟩
theorem rd_int_bl {c : Bool} (q : Q (.int (if c then 1 else 0)) H) : rIntA [.bl c] H Q := .inr ⟨c, rfl, q⟩
def rListA (K : PySem.W.Frag) : List V → Hp → VK → Prop := fun xs H Q => ∃ p ys, xs = [.ref p] ∧ (SqL K H p ys ∨ SqT K H p ys) ∧ ∀ l, H l = none → Q (.ref l) (upd H l (.lst ys))
theorem cList {X : Cx} : CallR X (.type "list") (rListA X.K) := call_list_of
theorem rd_list_lst (h : SqL K H a xs) (q : ∀ l, H l = none → Q (.ref l) (upd H l (.lst xs))) : rListA K [.ref a] H Q := ⟨a, xs, rfl, .inl h, q⟩
theorem rd_list_tup (h : SqT K H a xs) (q : ∀ l, H l = none → Q (.ref l) (upd H l (.lst xs))) : rListA K [.ref a] H Q := ⟨a, xs, rfl, .inr h, q⟩
def rTupA (K : PySem.W.Frag) : List V → Hp → VK → Prop := fun xs H Q => ∃ p ys, xs = [.ref p] ∧ ((SqL K H p ys ∧ ∀ l, H l = none → Q (.ref l) (upd H l (.tup ys))) ∨ (SqT K H p ys ∧ Q (.ref p) H))
theorem cTup {X : Cx} : CallR X (.type "tuple") (rTupA X.K) := call_tuple_of
theorem rd_tuple_lst (h : SqL K H a xs) (q : ∀ l, H l = none → Q (.ref l) (upd H l (.tup xs))) : rTupA K [.ref a] H Q := ⟨a, xs, rfl, .inl ⟨h, q⟩⟩
theorem rd_tuple_tup (h : SqT K H a xs) (q : Q (.ref a) H) : rTupA K [.ref a] H Q := ⟨a, xs, rfl, .inr ⟨h, q⟩⟩
def rMin2 : List V → Hp → VK → Prop := fun xs H Q => ∃ i j, xs = [.int i, .int j] ∧ Q (.int (if j < i then j else i)) H
theorem cMin2 {X : Cx} (hc : X.calm = true) : CallR X (.builtin "min") rMin2 := call_min2 hc
theorem rd_min2 {i j : Int} (q : Q (.int (if j < i then j else i)) H) : rMin2 [.int i, .int j] H Q := ⟨i, j, rfl, q⟩
def rMax2 : List V → Hp → VK → Prop := fun xs H Q => ∃ i j, xs = [.int i, .int j] ∧ Q (.int (if j > i then j else i)) H
theorem cMax2 {X : Cx} (hc : X.calm = true) : CallR X (.builtin "max") rMax2 := call_max2 hc
theorem rd_max2 {i j : Int} (q : Q (.int (if j > i then j else i)) H) : rMax2 [.int i, .int j] H Q := ⟨i, j, rfl, q⟩
def rInSign : R2 := fun x y H Q => ∃ (c : Nat) (z : Str), x = .str ⟨#[c]⟩ ∧ y = .str z ∧ Q (.bl (decide (c ∈ z.cps.toList))) H
theorem oInSign {X : Cx} : OpR X (compareOp .In) rInSign := op_in_sign
theorem rd_in_sign {c : Nat} {z : Str} (q : Q (.bl (decide (c ∈ z.cps.toList))) H) : rInSign (.str ⟨#[c]⟩) (.str z) H Q := ⟨c, z, rfl, rfl, q⟩
def rIsN : R2 := fun x y H Q => y = .non ∧ Q (.bl (decide (x = .non))) H
def rNotN : R2 := fun x y H Q => y = .non ∧ Q (.bl (!decide (x = .non))) H
theorem oIsN {X : Cx} : OpR X (compareOp .Is) rIsN := op_isN
theorem oNotN {X : Cx} : OpR X (compareOp .IsNot) rNotN := op_notN
theorem rd_isN {v : V} (q : Q (.bl (decide (v = .non))) H) : rIsN v .non H Q := ⟨rfl, q⟩
theorem rd_notN {v : V} (q : Q (.bl (!decide (v = .non))) H) : rNotN v .non H Q := ⟨rfl, q⟩
theorem one_sign (h : x.length = 1) : ∃ c, x = ⟨#[c]⟩ := by
  have e : (tl x).length = 1 := by rw [← len_tl]; exact h
  obtain ⟨c, hc⟩ := List.length_eq_one_iff.mp e
  exact ⟨c, ext_tl (by rw [hc, tl_mk])⟩
theorem isLet_len (h : ¬ x.length = 1) : isLet (.str x) = false := by
  unfold isLet
  simp only
  split
  · rename_i c e
    exact absurd (by rw [len_tl, e]; rfl) h
  · rfl
theorem low_list : (("abcdefghijklmnopqrstuvwxyz" : Str)).cps.toList = [97, 98, 99, 100, 101, 102, 103, 104, 105, 106, 107, 108, 109, 110, 111, 112, 113, 114, 115, 116, 117, 118, 119, 120, 121, 122] := by decide +kernel
theorem low_mem (c : Nat) : decide (c ∈ (("abcdefghijklmnopqrstuvwxyz" : Str)).cps.toList) = decide (97 ≤ c ∧ c ≤ 122) := by
  rw [low_list]
  apply decide_eq_decide.mpr
  simp only [List.mem_cons, List.not_mem_nil, or_false]
  omega
theorem isLet_one (c : Nat) : isLet (.str ⟨#[c]⟩) = decide (c ∈ (("abcdefghijklmnopqrstuvwxyz" : Str)).cps.toList) := by rw [low_mem]; rfl
theorem isWd_len (h : ¬ (1 ≤ (tl x).length ∧ (tl x).length ≤ 20)) : isWd (.str x) = false := by
  unfold isWd
  exact decide_eq_false fun z => h ⟨z.1, z.2.1⟩
end
section
variable {a b c d e : Str} {va vb vc vd ve : V}
theorem fl1 : (putF a va []).length < 1000 := Nat.lt_of_le_of_lt (putF_len (k := 0) (Nat.le_refl 0)) (by decide)
theorem fl2 : (putF b vb (putF a va [])).length < 1000 := Nat.lt_of_le_of_lt (putF_len (k := 1) (putF_len (k := 0) (Nat.le_refl 0))) (by decide)
theorem fl3 : (putF c vc (putF b vb (putF a va []))).length < 1000 := Nat.lt_of_le_of_lt (putF_len (k := 2) (putF_len (k := 1) (putF_len (k := 0) (Nat.le_refl 0)))) (by decide)
theorem fl4 : (putF d vd (putF c vc (putF b vb (putF a va [])))).length < 1000 := Nat.lt_of_le_of_lt (putF_len (k := 3) (putF_len (k := 2) (putF_len (k := 1) (putF_len (k := 0) (Nat.le_refl 0))))) (by decide)
theorem fl5 : (putF e ve (putF d vd (putF c vc (putF b vb (putF a va []))))).length < 1000 := Nat.lt_of_le_of_lt (putF_len (k := 4) (putF_len (k := 3) (putF_len (k := 2) (putF_len (k := 1) (putF_len (k := 0) (Nat.le_refl 0)))))) (by decide)
end
end L2.Px

set_option Elab.async false
set_option linter.all false
set_option maxRecDepth 100000
set_option maxHeartbeats 1000000
/-! comprehensions and loops, the whole way -/
namespace L2.Px
open PySem PySem.Spec PyProof.Rows StX TL
/-- what tLc asks behind the walked thing J -/
def LcW (J : It) (g : TG) (tt : TT) (te : TE) (vs : List Nat) (σ : St) (H1 : Hp) (D : Addr) (Qd : Hp → Prop) : Prop := ∃ W : Nat → Nat → Hp → Prop, (∃ m, W 0 m (upd H1 D (.lst []))) ∧ ∀ i m H, W i m H →
  (J.stop i H ∧ Qd H) ∨ (J.go i H ∧ ∃ Nx : Hp → Prop, (∀ H', Nx H' → ∃ m', m' < m ∧ W (i + 1) m' H') ∧ ∀ x H', J.yld i H x H' → g x (wipe σ vs) H' fun σ2 H2 => wipe σ2 vs = wipe σ vs ∧ tt σ2 H2 fun b H3 =>
    if b = true then te σ2 H3 fun y H4 => ∃ acc, H4 D = some (.lst acc) ∧ acc.length < sizeLine ∧ Nx (upd H4 D (.lst (acc ++ [y]))) else Nx H3)
/-- a walk of n turns whose i-th item is it i, the heap as it is -/
structure Plain (J : It) (n : Nat) (it : Nat → V) (H1 : Hp) : Prop where
  stop : ∀ H, Same H1 H → J.stop n H
  go : ∀ i H, Same H1 H → i < n → J.go i H
  yld : ∀ i H x H', Same H1 H → i < n → J.yld i H x H' → H' = H ∧ x = it i
section
variable {K : PySem.W.Frag} {a : Addr} {xs : List V} {H1 : Hp} {n : Nat} {lo : Int} {x : Str}
theorem plain_list (h : SqL K H1 a xs) : Plain (Itl K a) xs.length (fun i => (xs[i]?).getD .non) H1 where
  stop := fun H s => ⟨xs, s.seq h, Nat.le_refl _⟩
  go := fun i H s hi => ⟨xs, xs[i], s.seq h, by simp [hi]⟩
  yld := fun i H x H' s hi y => ⟨y.1, by rw [y.2 xs (s.seq h)]; rfl⟩
theorem plain_tup (h : SqT K H1 a xs) : Plain (Itt K a) xs.length (fun i => (xs[i]?).getD .non) H1 where
  stop := fun H s => ⟨xs, Same.tup s h, Nat.le_refl _⟩
  go := fun i H s hi => ⟨xs, xs[i], Same.tup s h, by simp [hi]⟩
  yld := fun i H x H' s hi y => ⟨y.1, by rw [y.2 xs (Same.tup s h)]; rfl⟩
theorem plain_str : Plain (Its x) (tl x).length (fun i => .str ⟨#[(tl x)[i]?.getD 0]⟩) H1 where
  stop := fun H s => by show x.cps.size ≤ _; rw [← len_tl]; exact Nat.le_refl _
  go := fun i H s hi => by show i < x.cps.size; rw [← len_tl] at hi; exact hi
  yld := fun i H y H' s hi h => by
    obtain ⟨e, c, hc, ev⟩ := h
    have e2 : (tl x)[i]? = some c := by show x.cps.toList[i]? = some c; rw [Array.getElem?_toList]; exact hc
    exact ⟨e, by rw [ev, e2]; rfl⟩
theorem plain_rng : Plain (Itr lo n) n (fun i => .int (lo + i)) H1 where
  stop := fun H s => Nat.le_refl _
  go := fun i H s hi => hi
  yld := fun i H x H' s hi y => ⟨y.1, y.2⟩
end
section
variable {J : It} {n : Nat} {it : Nat → V} {H1 : Hp} {tt : TT} {te : TE} {vs : List Nat} {σ : St} {D : Addr} {Qd : Hp → Prop} {j : Nat}
/-- [f x for x in .. if p x], related answers -/
theorem lc_rel (P : Plain J n it H1) (hD : H1 D = none) (hn : n ≤ sizeLine) (hj : ∀ v, wipe ((wipe σ vs).set j (some v)) vs = wipe σ vs) (Rl : Nat → V → Hp → Prop) (mono : ∀ i y H H' l, i < n → H D = some (.lst l) → But D H H' → Rl i y H → Rl i y H')
    (hs : ∀ i H (Q : VK), i < n → Same H1 H → (∀ y H', Same H H' → Rl i y H' → Q y H') → te ((wipe σ vs).set j (some (it i))) H Q)
    (hd : ∀ H ys, Same H1 H → H D = some (.lst ys) → ys.length = n → (∀ i, i < n → ∃ y, ys[i]? = some y ∧ Rl i y H) → Qd H) : LcW J (gName j) tYes te vs σ H1 D Qd := by
  refine ⟨fun i m H => m = n - i ∧ i ≤ n ∧ Same H1 H ∧ ∃ ys, H D = some (.lst ys) ∧ ys.length = i ∧ ∀ k, k < i → ∃ y, ys[k]? = some y ∧ Rl k y H, ⟨_, rfl, Nat.zero_le _, Same.new (Same.refl _) hD, [], upd_same, rfl, fun k hk => absurd hk (Nat.not_lt_zero _)⟩, ?_⟩
  rintro i m H ⟨rfl, hi, S, ys, eD, hl, hr⟩
  by_cases hlt : i < n
  · refine .inr ⟨P.go i H S hlt, fun H' => i + 1 ≤ n ∧ Same H1 H' ∧ ∃ ys, H' D = some (.lst ys) ∧ ys.length = i + 1 ∧ ∀ k, k < i + 1 → ∃ y, ys[k]? = some y ∧ Rl k y H', fun H' z => ⟨n - (i + 1), by omega, rfl, z⟩, fun x H' y => ?_⟩
    obtain ⟨e1, e2⟩ := P.yld i H x H' S hlt y
    subst e1 e2
    refine ⟨hj _, ?_⟩
    refine rd_yes (iteT ?_)
    refine hs i H' _ hlt S fun y2 H2 S2 r => ⟨ys, S2 _ _ eD, by omega, hlt, Same.mut (S.trans S2) hD, ys ++ [y2], upd_same, by simp [hl], fun k hk => ?_⟩
    by_cases hki : k < i
    · obtain ⟨y', h1, h2⟩ := hr k hki
      exact ⟨y', by rw [List.getElem?_append_left (by omega)]; exact h1, mono _ _ _ _ _ (by omega) eD (But.at (But.same S2)) h2⟩
    · have ek : k = i := by omega
      subst ek
      exact ⟨y2, by rw [List.getElem?_append_right (by omega), hl]; simp, mono _ _ _ _ _ (by omega) (S2 _ _ eD) (But.at But.refl) r⟩
  · have e : i = n := by omega
    subst e
    exact .inl ⟨P.stop H S, hd H ys S eD hl hr⟩
/-- the same with plain answers -/
theorem lc_fun (P : Plain J n it H1) (hD : H1 D = none) (hn : n ≤ sizeLine) (hj : ∀ v, wipe ((wipe σ vs).set j (some v)) vs = wipe σ vs) (f : Nat → V)
    (hs : ∀ i H (Q : VK), i < n → Same H1 H → (∀ H', Same H H' → Q (f i) H') → te ((wipe σ vs).set j (some (it i))) H Q)
    (hd : ∀ H, Same H1 H → H D = some (.lst ((List.range n).map f)) → Qd H) : LcW J (gName j) tYes te vs σ H1 D Qd := by
  refine ⟨fun i m H => m = n - i ∧ i ≤ n ∧ Same H1 H ∧ H D = some (.lst ((List.range i).map f)), ⟨_, rfl, Nat.zero_le _, Same.new (Same.refl _) hD, upd_same⟩, ?_⟩
  rintro i m H ⟨rfl, hi, S, eD⟩
  by_cases hlt : i < n
  · refine .inr ⟨P.go i H S hlt, fun H' => i + 1 ≤ n ∧ Same H1 H' ∧ H' D = some (.lst ((List.range (i + 1)).map f)), fun H' z => ⟨n - (i + 1), by omega, rfl, z⟩, fun x H' y => ?_⟩
    obtain ⟨e1, e2⟩ := P.yld i H x H' S hlt y
    subst e1 e2
    refine ⟨hj _, ?_⟩
    refine rd_yes (iteT ?_)
    refine hs i H' _ hlt S fun H2 S2 => ⟨_, S2 _ _ eD, by rw [List.length_map, List.length_range]; omega, hlt, Same.mut (S.trans S2) hD, ?_⟩
    rw [upd_same, List.range_succ, List.map_append]
    rfl
  · have e : i = n := by omega
    subst e
    exact .inl ⟨P.stop H S, hd H S eD⟩
/-- with a test -/
theorem lc_filt (P : Plain J n it H1) (hD : H1 D = none) (hn : n ≤ sizeLine) (hj : ∀ v, wipe ((wipe σ vs).set j (some v)) vs = wipe σ vs) (f : Nat → V) (p : Nat → Bool)
    (ht : ∀ i H (R : Bool → Hp → Prop), i < n → Same H1 H → (∀ H', Same H H' → R (p i) H') → tt ((wipe σ vs).set j (some (it i))) H R)
    (hs : ∀ i H (Q : VK), i < n → p i = true → Same H1 H → (∀ H', Same H H' → Q (f i) H') → te ((wipe σ vs).set j (some (it i))) H Q)
    (hd : ∀ H, Same H1 H → H D = some (.lst (((List.range n).filter p).map f)) → Qd H) : LcW J (gName j) tt te vs σ H1 D Qd := by
  refine ⟨fun i m H => m = n - i ∧ i ≤ n ∧ Same H1 H ∧ H D = some (.lst (((List.range i).filter p).map f)), ⟨_, rfl, Nat.zero_le _, Same.new (Same.refl _) hD, upd_same⟩, ?_⟩
  rintro i m H ⟨rfl, hi, S, eD⟩
  by_cases hlt : i < n
  · refine .inr ⟨P.go i H S hlt, fun H' => i + 1 ≤ n ∧ Same H1 H' ∧ H' D = some (.lst (((List.range (i + 1)).filter p).map f)), fun H' z => ⟨n - (i + 1), by omega, rfl, z⟩, fun x H' y => ?_⟩
    obtain ⟨e1, e2⟩ := P.yld i H x H' S hlt y
    subst e1 e2
    refine ⟨hj _, ht i H' _ hlt S fun H2 S2 => ?_⟩
    cases hp : p i with
    | true =>
      rw [if_pos rfl]
      refine hs i H2 _ hlt hp (S.trans S2) fun H3 S3 => ⟨_, S3 _ _ (S2 _ _ eD), ?_, hlt, Same.mut ((S.trans S2).trans S3) hD, ?_⟩
      · rw [List.length_map]
        have := List.length_filter_le p (List.range i)
        rw [List.length_range] at this
        omega
      · rw [upd_same, List.range_succ, List.filter_append, List.map_append]
        simp [hp]
    | false =>
      rw [if_neg Bool.false_ne_true]
      refine ⟨hlt, S.trans S2, ?_⟩
      rw [S2 _ _ eD, List.range_succ, List.filter_append, List.map_append]
      simp [hp]
  · have e : i = n := by omega
    subst e
    exact .inl ⟨P.stop H S, hd H S eD⟩
end
/-! loops over such walks -/
def ForW (J : It) (g : TG) (tb : TS) (D : Ends) (σ : St) (H1 : Hp) : Prop := ∃ W : Nat → Nat → St → Hp → Prop, (∃ m, W 0 m σ H1) ∧ ∀ i m σ H, W i m σ H →
  (J.stop i H ∧ D.nx σ H) ∨ (J.go i H ∧ ∃ N : St → Hp → Prop, (∀ σ' H', N σ' H' → ∃ m', m' < m ∧ W (i + 1) m' σ' H') ∧ ∀ x H', J.yld i H x H' → g x σ H' fun σ2 H2 => tb { D with nx := N, ct := N, bk := D.nx } σ2 H2)
section
variable {K : PySem.W.Frag} {H : Hp} {Q : VK} {x : Str} {a : Addr} {xs : List V}
theorem rd_all {bs : List Bool} (h : SqL K H a (bs.map V.bl)) (q : Q (.bl (bs.all id)) H) : rAll K [.ref a] H Q := ⟨a, bs, rfl, h, q⟩
theorem isWd_all (h1 : 1 ≤ (tl x).length) (h2 : (tl x).length ≤ 20) : ((List.range (tl x).length).map fun i => isLet (.str ⟨#[(tl x)[i]?.getD 0]⟩)).all id = isWd (.str x) := by
  unfold isWd
  rw [List.all_map]
  have key : (List.range (tl x).length).all (id ∘ fun i => isLet (.str ⟨#[(tl x)[i]?.getD 0]⟩)) = decide (∀ c ∈ tl x, 97 ≤ c ∧ c ≤ 122) := by
    rw [Bool.eq_iff_iff, List.all_eq_true, decide_eq_true_iff]
    constructor
    · intro h c hc
      obtain ⟨i, hi, rfl⟩ := List.getElem_of_mem hc
      have := h i (List.mem_range.mpr hi)
      simp only [Function.comp, id, isLet, tl] at this
      rw [List.getElem?_eq_getElem hi] at this
      simpa [tl] using this
    · intro h i hi
      have hi := List.mem_range.mp hi
      have := h _ (List.getElem_mem hi)
      simp only [Function.comp, id, isLet]
      rw [List.getElem?_eq_getElem hi]
      simpa [tl] using this
  rw [key]
  apply decide_eq_decide.mpr
  constructor
  · intro h; exact ⟨h1, h2, h⟩
  · intro h; exact h.2.2
theorem sign_small (c : Nat) : (⟨#[c]⟩ : Str).length ≤ sizeLine := Nat.le_trans (show 1 ≤ 20 by decide) (by rw [sizeLine_eq]; decide)
theorem rd_iStr {te : TE} {σ : St} {Rr : It → Hp → Prop} (h : te σ H fun v H1 => ∃ x, v = .str x ∧ Rr (Its x) H1) : iStr te σ H Rr := h
end
end L2.Px
namespace L2.Px
open PySem PySem.Spec PyProof.Rows StX TL
section
variable {K : PySem.W.Frag} {H : Hp} {Q : VK} {x y : Str} {a l : Addr} {xs : List V} {v : V} {i : Int} {CP CT : Addr} {ss : List Stp} {s : Stp} {n j : Nat}
theorem two_line : 2 ≤ sizeLine := by rw [sizeLine_eq]; decide
theorem emp_mk : ("" : Str) = mkS [] := by decide +kernel
theorem rd_append (h : H l = some (.lst xs)) (hz : xs.length < sizeLine) (q : Q .non (upd H l (.lst (xs ++ [v])))) : rAppend (.ref l) [v] H Q := ⟨l, xs, v, rfl, rfl, h, hz, q⟩
theorem rd_U {g : Int → V} (q : Q (g i) H) : rU g (.int i) H Q := ⟨i, rfl, q⟩
theorem rd_tyL (h : SqL K H a xs) (q : Prop) (hq : q) : tyV K "list" (.ref a) H ∧ q := ⟨.inl ⟨rfl, _, h⟩, hq⟩
theorem line30 : (30 : Nat) < sizeLine := by rw [sizeLine_eq]; decide
theorem tyL_small {ss : List Stp} (ok : okFrom n ss) : (tyL ss).length ≤ 20 * ss.length := by
  induction ss generalizing n with
  | nil => simp [tyL]
  | cons s r ih =>
    obtain ⟨h1, _, h3⟩ := ok
    have := ih h3
    simp only [tyL, List.length_append, List.length_cons]
    cases s with
    | wr w => have := h1.2.1; rw [len_tl] at this; simp only [ty1]; omega
    | pa f l t => simp only [ty1, List.length_nil]; omega
theorem tyL_line (ok : okFrom n ss) (few : ss.length ≤ 30) : (tyL ss).length ≤ sizeLine := Nat.le_trans (tyL_small ok) (Nat.le_trans (show 20 * ss.length ≤ 600 by omega) (by rw [sizeLine_eq]; decide))
theorem tyL_take_le (j : Nat) : (tyL (ss.take j)).length ≤ (tyL ss).length := by
  conv => rhs; rw [← List.take_append_drop j ss, tyL_append, List.length_append]
  omega
theorem rd_iteq {p q : Prop} [Decidable p] (h : p = q) : p = q := h
end
end L2.Px
namespace L2.Px
open PySem PySem.Spec PyProof.Rows StX TL
section
variable {K : PySem.W.Frag} {H : Hp} {Q : VK} {E : XK} {CP CT : Addr} {a b : Addr} {xs : List V} {s n f l : Int} {t : Bool} {rs : List V} {ss : List Stp}
/-- a part is made -/
theorem rd_mkPart (q : ∀ x dx Hc, H x = none → Same H Hc → Hc x = some (.ins CP dx (partF s n t f l)) → Q (.ref x) Hc) :
    rMk CP (sp_Part_init CP) E [.int s, .int n, .bl t, .int f, .int l] H Q := by
  intro x dx nx nd ne
  exact ⟨x, dx, s, n, t, f, l, rfl, upd_same, rfl, q x dx _ nx (Same.mut (Same.mut (Same.mut (Same.refl _) nd) nx) nx) upd_same⟩
/-- a text is made -/
theorem rd_mkText (hst : StepsAt K H rs ss) (ok : okFrom 0 ss) (few : ss.length ≤ 30)
    (q : ∀ x Hc t, H x = none → Same H Hc → TextAt K CT CP Hc x t → t.ss = ss → Q (.ref x) Hc) :
    rMk CT (spStar 1 (sp_Text_init K CT CP)) E rs H Q := by
  intro x dx nx nd ne
  have S1 : Same H (upd (upd H dx (.own x)) x (.ins CT dx [])) := Same.mut (Same.mut (Same.refl _) nd) nx
  refine ⟨[.ref x], rs, rfl, rfl, by rw [hst.1]; exact Nat.le_trans few (Nat.le_of_lt line30), fun p np => ?_⟩
  have S2 := Same.new (o := .tup rs) S1 np
  exact ⟨x, dx, p, rs, ss, rfl, lk_new np upd_same, SqT.of upd_same, hst.mono S2, ok, few, fun H' t k T e1 e2 => ⟨rfl, q x H' t nx (fun b o e => k b o (ne_of_none e nx) (S2 _ _ e)) T e1⟩⟩
end
end L2.Px

set_option Elab.async false
set_option linter.all false
set_option maxRecDepth 100000
set_option maxHeartbeats 1000000
/-! slices, while, letters of texts -/
namespace L2.Px
open PySem PySem.Spec PyProof.Rows StX TL
section
variable {K : PySem.W.Frag} {σ : St} {H : Hp} {Q : VK} {i j : Int} {x y : Str} {a b : Addr} {xs ys : List V} {te ta tb : TE} {tt : TT} {st : TS} {D : Ends} {t1 t2 : TO} {c : Nat} {v : V}
theorem rd_while (W : Nat → St → Hp → Prop) (h0 : ∃ m, W m σ H) (hs : ∀ m σ H, W m σ H → tt σ H fun b H1 => if b = true then ∃ N : St → Hp → Prop, (∀ σ' H', N σ' H' → ∃ m', m' < m ∧ W m' σ' H') ∧ st { D with nx := N, ct := N, bk := D.nx } σ H1 else D.nx σ H1) : tWhile tt st D σ H := ⟨W, h0, hs⟩
theorem rd_ixS (hz : x.length ≤ sizeLine) (e : atI x.cps.toList i = some c) (h : Q (.str ⟨#[c]⟩) H) : rIx K (.str x) (.int i) H Q := .inr (.inr ⟨x, i, c, rfl, rfl, hz, e, h⟩)
theorem rd_ixSn {j : Nat} (hz : x.length ≤ sizeLine) (e : (tl x)[j]? = some c) (h : Q (.str ⟨#[c]⟩) H) : rIx K (.str x) (.int j) H Q := rd_ixS hz (by rw [atI_nat]; exact e) h
theorem rd_ixLn {j : Nat} (hx : SqL K H a xs) (e : xs[j]? = some v) (h : Q v H) : rIx K (.ref a) (.int j) H Q := rd_ixI h hx (by rw [atI_nat]; exact e)
theorem rd_ixTn {j : Nat} (hx : SqT K H a xs) (e : xs[j]? = some v) (h : Q v H) : rIx K (.ref a) (.int j) H Q := rd_ixT h hx (by rw [atI_nat]; exact e)
theorem rd_sl {r : V → Option Int → Option Int → Hp → VK → Prop} (h : te σ H fun x H1 => t1 σ H1 fun l H2 => t2 σ H2 fun u H3 => r x l u H3 Q) : tSl r te t1 t2 σ H Q := h
theorem rd_noPart {R : Option Int → Hp → Prop} (h : R none H) : tNoPart σ H R := h
theorem rd_part {R : Option Int → Hp → Prop} (h : te σ H fun x H1 => ∃ i, x = .int i ∧ R (some i) H1) : tPart te σ H R := h
theorem str_len_app (x y : Str) : (x ++ y).length = x.length + y.length := by rw [len_tl, tl_append, List.length_append, ← len_tl, ← len_tl]
theorem rd_pint {R : Int → Prop} (h : R i) : ∃ i', V.int i = .int i' ∧ R i' := ⟨i, rfl, h⟩
theorem rd_slS {lo hi : Option Int} (hz : x.length ≤ sizeLine) (h : Q (.str (cutS x lo hi)) H) : rSlS (.str x) lo hi H Q := ⟨x, rfl, hz, h⟩
theorem rd_slL {lo hi : Option Int} (hx : SqL K H a xs) (h : ∀ p, H p = none → Q (.ref p) (upd H p (.lst (cutV xs lo hi)))) : rSlL K (.ref a) lo hi H Q := ⟨a, xs, rfl, hx, h⟩
theorem TextAt.typed_small {CT CP : Addr} {t : TxI} (h : TextAt K CT CP H a t) : (mkS (tyL t.ss)).length ≤ sizeLine := by rw [mkS_len]; exact tyL_line h.ok h.few
theorem StepAt.mono' {D : Addr} {H' : Hp} {s : Stp} (h : StepAt K H v s) (b : But D H H') (f : Free1 H D) : StepAt K H' v s := b.step f h
end
end L2.Px

set_option Elab.async false
set_option linter.all false
set_option maxRecDepth 100000
set_option maxHeartbeats 1000000
/-! the mathematics of sums, multiples and retyped keys -/
namespace L2.Px
open PySem PySem.Spec PyProof.Rows StX TL
theorem twenty_line : 64 ≤ sizeLine := by rw [sizeLine_eq]; decide
theorem four_line : 4 ≤ sizeLine := by rw [sizeLine_eq]; decide
theorem len_ty1 (s : Stp) : (ty1 s).length = match s with | .wr w => w.length | .pa _ _ _ => 0 := by
  cases s with
  | wr w => exact (len_tl w).symm
  | pa f l t => rfl
theorem StepsAt.append {K : PySem.W.Frag} {H : Hp} {ms ns : List V} {ss tt : List Stp} (h : StepsAt K H ms ss) (g : StepsAt K H ns tt) : StepsAt K H (ms ++ ns) (ss ++ tt) := by
  refine ⟨by rw [List.length_append, List.length_append, h.1, g.1], fun j s hj => ?_⟩
  by_cases hl : j < ss.length
  · rw [List.getElem?_append_left hl] at hj
    obtain ⟨v, e1, e2⟩ := h.2 j s hj
    exact ⟨v, by rw [List.getElem?_append_left (by rw [h.1]; exact hl)]; exact e1, e2⟩
  · rw [List.getElem?_append_right (by omega)] at hj
    obtain ⟨v, e1, e2⟩ := g.2 _ s hj
    exact ⟨v, by rw [List.getElem?_append_right (by rw [h.1]; omega), h.1]; exact e1, e2⟩
theorem StepsAt.one {K : PySem.W.Frag} {H : Hp} {v : V} {s : Stp} (h : StepAt K H v s) : StepsAt K H [v] [s] := by
  refine ⟨rfl, fun j s' hj => ?_⟩
  cases j with
  | zero => cases hj; exact ⟨v, rfl, h⟩
  | succ j => simp at hj
theorem StepAt.one' {K : PySem.W.Frag} {H : Hp} {v : V} {s : Stp} (h : StepAt K H v s) : StepsAt K H [v] [s] := .one h
/-! retyped -/
def rt1 (k c n : Nat) : Stp → Stp
  | .wr w => if n ≤ k ∧ k < n + w.length then .wr (mkS ((tl w).set (k - n) c)) else .wr w
  | .pa f l t => .pa f l t
theorem rt_cons (k c n : Nat) (s : Stp) (r : List Stp) : rt k c n (s :: r) = rt1 k c n s :: rt k c (n + (ty1 s).length) r := by
  cases s with
  | wr w => simp only [rt, rt1, ty1, ← len_tl]
  | pa f l t => simp only [rt, rt1, ty1, List.length_nil, Nat.add_zero]
theorem rt_append (k c : Nat) : ∀ (n : Nat) (a b : List Stp), rt k c n (a ++ b) = rt k c n a ++ rt k c (n + (tyL a).length) b
  | n, [], b => by simp [rt, tyL]
  | n, s :: a, b => by
    rw [List.cons_append, rt_cons, rt_cons, rt_append k c _ a b, List.cons_append]
    simp only [tyL, List.length_append]
    rw [Nat.add_assoc]
theorem rt_take {k c : Nat} {ss : List Stp} {i : Nat} {s : Stp} (h : ss[i]? = some s) : rt k c 0 (ss.take (i + 1)) = rt k c 0 (ss.take i) ++ [rt1 k c (tyL (ss.take i)).length s] := by
  rw [take_snoc h, rt_append, Nat.zero_add, rt_cons]; rfl
theorem len1_rt1 (k c n : Nat) (s : Stp) : len1 (rt1 k c n s) = len1 s := by
  cases s with
  | wr w =>
    simp only [rt1]
    split
    · simp only [len1, mkS_len, List.length_set, ← len_tl]
    · rfl
  | pa f l t => rfl
theorem ok_rt1 {k c n m : Nat} {s : Stp} (hc : 97 ≤ c ∧ c ≤ 122) (h : okStep m s) : okStep m (rt1 k c n s) := by
  cases s with
  | wr w =>
    simp only [rt1]
    split
    · obtain ⟨h1, h2, h3⟩ := h
      refine ⟨by rw [mkS_len, List.length_set, ← len_tl]; exact h1, by rw [mkS_len, List.length_set, ← len_tl]; exact h2, fun x hx => ?_⟩
      rw [tl_mkS] at hx
      rcases List.mem_or_eq_of_mem_set hx with hx | rfl
      · exact h3 x hx
      · exact hc
    · exact h
  | pa f l t => exact h
theorem ok_rt {k c : Nat} (hc : 97 ≤ c ∧ c ≤ 122) : ∀ (n m : Nat) (ss : List Stp), okFrom m ss → okFrom m (rt k c n ss)
  | n, m, [], h => h
  | n, m, s :: r, ⟨h1, h2, h3⟩ => by
    rw [rt_cons]
    refine ⟨ok_rt1 hc h1, by rw [len1_rt1]; exact h2, ?_⟩
    rw [len1_rt1]
    exact ok_rt hc _ _ r h3
theorem rt_length (k c : Nat) : ∀ (n : Nat) (ss : List Stp), (rt k c n ss).length = ss.length
  | n, [] => rfl
  | n, s :: r => by rw [rt_cons, List.length_cons, rt_length k c _ r, List.length_cons]
theorem sz_rt (k c : Nat) : ∀ (n : Nat) (ss : List Stp), sz (rt k c n ss) = sz ss
  | n, [] => rfl
  | n, s :: r => by rw [rt_cons]; simp only [sz]; rw [len1_rt1, sz_rt k c _ r]
theorem stepK_rt1 (k c n : Nat) (q : List Nat × Nat) (s : Stp) : stepK q (rt1 k c n s) = stepK q s := by
  cases s with
  | wr w =>
    simp only [rt1]
    split
    · simp only [stepK, mkS_len, List.length_set, ← len_tl]
    · rfl
  | pa f l t => rfl
theorem run_rt (k c : Nat) : ∀ (n : Nat) (ss : List Stp) (q : List Nat × Nat), (rt k c n ss).foldl stepK q = ss.foldl stepK q
  | n, [], q => rfl
  | n, s :: r, q => by rw [rt_cons, List.foldl_cons, List.foldl_cons, stepK_rt1, run_rt k c _ r]
theorem ks_rt (k c n : Nat) (ss : List Stp) : ks (rt k c n ss) = ks ss := by unfold ks run; rw [run_rt]
theorem ty1_rt1 (k c n : Nat) (s : Stp) : ty1 (rt1 k c n s) = if n ≤ k then (ty1 s).set (k - n) c else ty1 s := by
  cases s with
  | wr w =>
    simp only [rt1, ty1]
    by_cases h : n ≤ k
    · rw [if_pos h]
      by_cases h2 : k < n + w.length
      · rw [if_pos ⟨h, h2⟩]; rfl
      · rw [if_neg (fun z => h2 z.2)]
        rw [List.set_eq_of_length_le (by rw [← len_tl]; omega)]
    · rw [if_neg (fun z => h z.1), if_neg h]
  | pa f l t => simp [rt1, ty1]
theorem tyL_rt (k c : Nat) : ∀ (n : Nat) (ss : List Stp), tyL (rt k c n ss) = if n ≤ k then (tyL ss).set (k - n) c else tyL ss
  | n, [] => by simp [rt, tyL]
  | n, s :: r => by
    rw [rt_cons]
    simp only [tyL]
    rw [ty1_rt1, tyL_rt k c _ r]
    by_cases h : n ≤ k
    · rw [if_pos h, if_pos h]
      by_cases h2 : n + (ty1 s).length ≤ k
      · rw [if_pos h2, List.set_eq_of_length_le (by omega), List.set_append_right (h := by omega)]
        congr 2; omega
      · rw [if_neg h2, List.set_append_left (h := by omega)]
    · rw [if_neg h, if_neg h, if_neg (by omega)]
/-- a word with one letter set -/
theorem word_set {w : Str} {p c : Nat} (hp : p < w.length) : cutS w none (some (p : Nat)) ++ (⟨#[c]⟩ : Str) ++ cutS w (some ((p : Nat) + 1)) none = mkS ((tl w).set p c) := by
  apply ext_tl
  have e2 : ((p : Nat) : Int) + 1 = ((p + 1 : Nat) : Int) := by omega
  rw [tl_append, tl_append, tl_mkS, e2]
  have hl : (tl w).length = w.length := (len_tl w).symm
  unfold cutS
  rw [HT.sIx_none, HT.sIx_none, HT.sIx_nat, HT.sIx_nat, Nat.min_eq_left (by omega), Nat.min_eq_left (by omega)]
  simp only [tl, List.drop_zero, Nat.sub_zero]
  rw [List.set_eq_take_append_cons_drop, if_pos (by show p < (tl w).length; omega)]
  show List.take p (tl w) ++ [c] ++ List.take (w.length - (p + 1)) (List.drop (p + 1) (tl w)) = List.take p (tl w) ++ c :: List.drop (p + 1) (tl w)
  have e3 : List.take (w.length - (p + 1)) (List.drop (p + 1) (tl w)) = List.drop (p + 1) (tl w) := List.take_of_length_le (by rw [List.length_drop]; omega)
  rw [e3]
  simp
/-! sums -/
theorem len1_mv (n : Nat) (s : Stp) : len1 (mv n s) = len1 s := by
  cases s with
  | wr w => rfl
  | pa f l t => simp only [mv, len1]; rw [show l + n - (f + n) = l - f by omega]
theorem ty1_mv (n : Nat) (s : Stp) : ty1 (mv n s) = ty1 s := by cases s <;> rfl
theorem ok_mv {n m : Nat} {s : Stp} (h : okStep m s) : okStep (m + n) (mv n s) := by
  cases s with
  | wr w => exact h
  | pa f l t => obtain ⟨a, b, c, d⟩ := h; exact ⟨by omega, by omega, c, d⟩
theorem sz_mv (n : Nat) : ∀ ss : List Stp, sz (ss.map (mv n)) = sz ss
  | [] => rfl
  | s :: r => by rw [List.map_cons]; simp only [sz]; rw [len1_mv, sz_mv n r]
theorem tyL_mv (n : Nat) : ∀ ss : List Stp, tyL (ss.map (mv n)) = tyL ss
  | [] => rfl
  | s :: r => by rw [List.map_cons]; simp only [tyL]; rw [ty1_mv, tyL_mv n r]
theorem ok_mvs (n : Nat) : ∀ (m : Nat) (ss : List Stp), okFrom m ss → m + n + sz ss ≤ 1000000000000000000 → okFrom (m + n) (ss.map (mv n))
  | m, [], _, _ => trivial
  | m, s :: r, ⟨h1, h2, h3⟩, hz => by
    simp only [sz] at hz
    refine ⟨ok_mv h1, by rw [len1_mv]; omega, ?_⟩
    rw [len1_mv, show m + n + len1 s = m + len1 s + n by omega]
    exact ok_mvs n _ r h3 (by omega)
theorem sz_join (a b : List Stp) : sz (joinS a b) = sz a + sz b := by unfold joinS; rw [sz_append, sz_mv]
theorem tyL_join (a b : List Stp) : tyL (joinS a b) = tyL a ++ tyL b := by unfold joinS; rw [tyL_append, tyL_mv]
theorem ok_join {a b : List Stp} (ha : okFrom 0 a) (hb : okFrom 0 b) (hz : sz a + sz b ≤ 1000000000000000000) : okFrom 0 (joinS a b) := by
  unfold joinS
  rw [okFrom_append]
  refine ⟨ha, ?_⟩
  exact ok_mvs (sz a) 0 b hb (by omega)
theorem join_length (a b : List Stp) : (joinS a b).length = a.length + b.length := by unfold joinS; rw [List.length_append, List.length_map]
theorem stepK_mv (A : List Nat) (n m : Nat) (q : List Nat × Nat) (s : Stp) (hA : A.length = n) :
    stepK (A ++ q.1.map (· + m), q.2 + m) (mv n s) = (A ++ (stepK q s).1.map (· + m), (stepK q s).2 + m) := by
  cases s with
  | wr w =>
    simp only [mv, stepK, List.map_append, List.append_assoc]
    have e : List.map (· + m) (List.range' q.2 w.length) = List.range' (q.2 + m) w.length := by
      rw [show (fun x => x + m) = (fun x => m + x) from funext fun x => Nat.add_comm x m, List.map_add_range', Nat.add_comm]
    rw [e]
    congr 1; omega
  | pa f l t =>
    simp only [mv, stepK, List.map_append, List.append_assoc]
    congr 3
    rw [List.drop_append, List.drop_of_length_le (by omega), List.nil_append, hA, show f + n - n = f by omega, show l + n - (f + n) = l - f by omega]
    rw [List.map_flatten, List.map_replicate, List.map_take, List.map_drop]
theorem run_mv (A : List Nat) (n m : Nat) (hA : A.length = n) : ∀ (ss : List Stp) (q : List Nat × Nat), (ss.map (mv n)).foldl stepK (A ++ q.1.map (· + m), q.2 + m) = (A ++ (ss.foldl stepK q).1.map (· + m), (ss.foldl stepK q).2 + m)
  | [], q => rfl
  | s :: r, q => by rw [List.map_cons, List.foldl_cons, List.foldl_cons, stepK_mv A n m q s hA, run_mv A n m hA r]
theorem ks_join {a : List Stp} (b : List Stp) (ha : okFrom 0 a) : ks (joinS a b) = ks a ++ (ks b).map (· + (tyL a).length) := by
  unfold joinS
  have h := run_mv (ks a) (sz a) (tyL a).length (ks_len ha) b ([], 0)
  simp only [List.map_nil, List.append_nil, Nat.zero_add] at h
  unfold ks at h ⊢
  rw [run_append, show run a = ((run a).1, (tyL a).length) from Prod.ext rfl (run_snd a), h]
  rfl
/-! multiples -/
theorem sz_mul {ss : List Stp} {n : Nat} (hn : 1 ≤ n) : sz (mulS ss n) = sz ss * n := by
  unfold mulS
  split
  · rename_i h
    rcases h with h | h
    · rw [h, Nat.mul_one]
    · rw [h, Nat.zero_mul]
  · rename_i h
    have h1 : sz ss ≠ 0 := fun z => h (.inr z)
    rw [sz_append]
    simp only [sz, len1, Nat.add_zero]
    rw [show sz ss - 1 - 0 + 1 = sz ss by omega]
    obtain ⟨m, rfl⟩ : ∃ m, n = m + 1 := ⟨n - 1, by omega⟩
    rw [Nat.add_sub_cancel, Nat.mul_succ]; omega
theorem tyL_mul (ss : List Stp) (n : Nat) : tyL (mulS ss n) = tyL ss := by
  unfold mulS
  split
  · rfl
  · rw [tyL_append]; simp [tyL, ty1]
theorem mul_length (ss : List Stp) (n : Nat) : (mulS ss n).length ≤ ss.length + 1 := by
  unfold mulS
  split
  · omega
  · rw [List.length_append]; simp
theorem ok_mul {ss : List Stp} {n : Nat} (ok : okFrom 0 ss) (hn : 1 ≤ n) (hn2 : n ≤ 1000000000) (hz : sz ss * n ≤ 1000000000000000000) : okFrom 0 (mulS ss n) := by
  have e := sz_mul (ss := ss) hn
  unfold mulS at e ⊢
  split
  · exact ok
  · rename_i h
    rw [if_neg h, sz_append] at e
    have h1 : sz ss ≠ 0 := fun z => h (.inr z)
    have h2 : n ≠ 1 := fun z => h (.inl z)
    rw [okFrom_append]
    refine ⟨ok, ⟨by omega, by omega, by omega, by omega⟩, ?_, trivial⟩
    simp only [sz, Nat.add_zero] at e
    omega
theorem ks_mul {ss : List Stp} {n : Nat} (ok : okFrom 0 ss) (hn : 1 ≤ n) : ks (mulS ss n) = (List.replicate n (ks ss)).flatten := by
  unfold mulS
  split
  · rename_i h
    rcases h with h | h
    · rw [h]; simp
    · have : ks ss = [] := List.eq_nil_of_length_eq_zero (by rw [ks_len ok]; exact h)
      rw [this]
      symm
      apply List.eq_nil_of_length_eq_zero
      rw [length_flat_rep]; simp
  · rename_i h
    have h1 : sz ss ≠ 0 := fun z => h (.inr z)
    obtain ⟨m, rfl⟩ : ∃ m, n = m + 1 := ⟨n - 1, by omega⟩
    unfold ks
    rw [run_append]
    simp only [List.foldl_cons, List.foldl_nil, stepK, List.drop_zero]
    have e : (run ss).1.length = sz ss := ks_len ok
    rw [List.take_of_length_le (by rw [e]; omega), Nat.add_sub_cancel, List.replicate_succ, List.flatten_cons]
end L2.Px

set_option Elab.async false
set_option linter.all false
set_option maxRecDepth 100000
set_option maxHeartbeats 1000000
/-! the same rules with the frame's K named: within a comprehension the block's own K is X's -/
namespace L2.Px
open PySem PySem.Spec PyProof.Rows StX TL
section
variable {X : Cx} {K : PySem.W.Frag} {e o tg : Expr} {es : List Expr} {ta te to : TE} {t : TA} {f name : Str} {pos apos cpos p : Pos} {T id : String} {r : V → List V → Hp → VK → Prop}
theorem pe_fldK (hk : X.K = K) (he : PE X e ta) (hb : attributeBase e f X.env (eval e X.env) = eval e X.env) : PE X (.Attribute e f pos) (tFld K ta f) := hk ▸ pe_fld he hb
theorem ixK (hk : X.K = K) : IxR X (rIx K) := hk ▸ ix_seq
theorem slK (hk : X.K = K) : SlR X (rSlL K) := hk ▸ sl_list
theorem addK (hk : X.K = K) : OpR X (binaryOp .Add) (rAddA K) := hk ▸ oAdd
theorem eqK (hk : X.K = K) (hu : X.A.units + 64 < cLine) : OpR X (compareOp .Eq) (rEqA K) := hk ▸ oEq hu
theorem neK (hk : X.K = K) (hu : X.A.units + 64 < cLine) : OpR X (compareOp .NotEq) (rNeA K) := hk ▸ oNe hu
theorem inK (hk : X.K = K) : OpR X (compareOp .In) (rIn K false) := hk ▸ op_in_seq
theorem notInK (hk : X.K = K) : OpR X (compareOp .NotIn) (rIn K true) := hk ▸ op_notIn_seq
theorem lenK (hk : X.K = K) : CallR X (.builtin "len") (rLenA K) := hk ▸ cLen
theorem listK (hk : X.K = K) : CallR X (.type "list") (rListA K) := hk ▸ cList
theorem tupK (hk : X.K = K) : CallR X (.type "tuple") (rTupA K) := hk ▸ cTup
theorem isiK (hk : X.K = K) : CallR X (.builtin "isinstance") (rIsi K) := hk ▸ call_isi
theorem sumK (hk : X.K = K) (hc : X.calm = true) : CallR X (.builtin "sum") (rSum K) := hk ▸ cr_sum hc
theorem maxK (hk : X.K = K) (hc : X.calm = true) : CallR X (.builtin "max") (rMax K) := hk ▸ cr_max hc
theorem minK (hk : X.K = K) (hc : X.calm = true) : CallR X (.builtin "min") (rMin K) := hk ▸ cr_min hc
theorem anyK (hk : X.K = K) (hc : X.calm = true) : CallR X (.builtin "any") (rAny K) := hk ▸ cr_any hc
theorem allK (hk : X.K = K) (hc : X.calm = true) : CallR X (.builtin "all") (rAll K) := hk ▸ cr_all hc
theorem mt_indexK (hk : X.K = K) : MtR X "list.index" (rIndex K) := hk ▸ mt_index
theorem pi_listK {tl : TE} (hk : X.K = K) (hl : PE X o tl) : PI X tg o (iList K tl) := hk ▸ pi_list hl
theorem pi_tupK {tl : TE} (hk : X.K = K) (hl : PE X o tl) : PI X tg o (iTup K tl) := hk ▸ pi_tup hl
theorem pa_starK (hk : X.K = K) (he : PE X e te) (hr : PA X es t) (hs : starEach (.Starred e p :: es) X.env = (true, eval e X.env) :: starEach es X.env := by rfl) : PA X (.Starred e p :: es) (tStar K te t) := hk ▸ pa_star he hr hs
theorem pg_tupK {k : Nat} {t : TGs} {n : Nat} (hk : X.K = K) (hc : X.calm = true) (h : PGs X es t)
    (hn : (assignEach es X.env).length = n := by rfl) (hst : (assignEach es X.env).findIdx? (·.1) = none := by rfl) : PG X (.Tuple es k pos) (gTup K n t) := hk ▸ pg_tup hc h hn hst
theorem pe_bm0K (hk : X.K = K) (pa : PlainAttrs T) (slot : Slot T name id) (hty : typeOf (.builtin id) = pure (.type "method_descriptor")) (hm : MtR X id r) (ho : PE X o to)
    (hbase : attributeBase o name X.env (eval o X.env) = eval o X.env := by rfl) (hline : (apos.endLine == cpos.line) = true := by rfl) : PE X (.Call (.Attribute o name apos) [] [] cpos) (tBM0 K T r to) := hk ▸ pe_bm0 pa slot hty hm ho hbase hline
theorem pe_bmK (hk : X.K = K) (pa : PlainAttrs T) (slot : Slot T name id) (hty : typeOf (.builtin id) = pure (.type "method_descriptor")) (hm : MtR X id r) (ho : PE X o to) (ha : PA X (e :: es) t)
    (hbase : attributeBase o name X.env (eval o X.env) = eval o X.env := by rfl)
    (hfew : ((backTo cpos (starEach (e :: es) X.env)).all (fun x => !x.1) && (backToKw cpos (keywordEach [] X.env)).all (fun x => x.1.isSome)
      && decide ((e :: es).length + ([] : List Keyword).length + (if ([] : List Keyword).isEmpty then 0 else 1) < 30)) = true := by rfl)
    (hline : (apos.endLine == cpos.line) = true := by rfl) (hs : starEach (e :: es) X.env = (false, eval e X.env) :: starEach es X.env := by rfl) (hplain : (backTo cpos (starEach es X.env)).any (·.1) = false := by rfl) :
    PE X (.Call (.Attribute o name apos) (e :: es) [] cpos) (tBM K T r to t) := hk ▸ pe_bm pa slot hty hm ho ha hbase hfew hline hs hplain
end
/-- the loop of Text.retyped -/
def RtPv (K : PySem.W.Frag) (H : Hp) (a l : Addr) (k c : Nat) (ss : List Stp) (i : Nat) (σ : St) (H' : Hp) : Prop := ∃ ys v5 v6 v7, σ = [some (.ref a), some (.int k), some (.str ⟨#[c]⟩), some (.ref l), some (.int (tyL (ss.take i)).length), v5, v6, v7] ∧ Same H H' ∧ H l = none ∧ H' l = some (.lst ys) ∧ StepsAt K H' ys (rt k c 0 (ss.take i))
theorem RtPv.next {K : PySem.W.Frag} {H Hx : Hp} {a l p : Addr} {k c i : Nat} {ss : List Stp} {s : Stp} {ys : List V} {v6 v7 : Option V} (hs : ss[i]? = some s) (S : Same H Hx) (hl : H l = none) (e : Hx l = some (.lst ys)) (h : StepsAt K Hx ys (rt k c 0 (ss.take i))) (hp : SqT K Hx p (stV (rt1 k c (tyL (ss.take i)).length s))) (few : ss.length ≤ 30)
    {n : Nat} (hn : n = (tyL (ss.take i)).length + (ty1 s).length) {R : Hp → Prop} (q : ∀ H2, RtPv K H a l k c ss (i + 1) [some (.ref a), some (.int k), some (.str ⟨#[c]⟩), some (.ref l), some (.int n), some (.ref p), v6, v7] H2 → R H2) : rAppend (.ref l) [.ref p] Hx fun _ H2 => R H2 := by
  have hi : i < ss.length := (List.getElem?_eq_some_iff.mp hs).1
  refine rd_append e ?_ (q _ ?_)
  · rw [h.1, rt_length, List.length_take]; have := line30; omega
  · have B : But l Hx (upd Hx l (.lst (ys ++ [.ref p]))) := But.at But.refl
    have f := free1_lst e
    refine ⟨ys ++ [.ref p], some (.ref p), v6, v7, ?_, Same.mut S hl, hl, upd_same, ?_⟩
    · rw [tyL_take hs, List.length_append, hn]
    · rw [rt_take hs]
      exact (B.steps f h).append (StepAt.one' ⟨p, rfl, B.tup f hp⟩)
end L2.Px

set_option Elab.async false
set_option linter.all false
set_option maxRecDepth 100000
set_option maxHeartbeats 1000000
/-! the laws' row of drawn numbers: heaps but for it, promises of the laws' helpers -/
namespace L2.Px
open PySem PySem.Spec PyProof.Rows StX TL
/-- the shape of the row -/
def isRow : HO → Prop
  | .lst [.ref _, .int _, .int _, .int _] => True
  | _ => False
/-- all but rows is as it was, and rows keep what they draw from -/
structure Kp (H H' : Hp) : Prop where
  keep : ∀ b o, ¬ isRow o → H b = some o → H' b = some o
  rows : ∀ (b sa : Addr) (i s e : Int), H b = some (.lst [.ref sa, .int i, .int s, .int e]) → ∃ i' s' e' : Int, H' b = some (.lst [.ref sa, .int i', .int s', .int e'])
instance {H H' : Hp} : CoeFun (Kp H H') (fun _ => ∀ b o, ¬ isRow o → H b = some o → H' b = some o) := ⟨Kp.keep⟩
structure RowAt (K : PySem.W.Frag) (H : Hp) (r : Addr) : Prop where
  ex : ∃ (sa : Addr) (sc : List Int) (i : Nat) (s e : Int), H r = some (.lst [.ref sa, .int i, .int s, .int e]) ∧ SqL K H sa (sc.map V.int)
section
variable {K : PySem.W.Frag} {H H' H1 : Hp} {a r p : Addr} {xs ys : List V} {o : HO} {v : V} {s : Stp} {ms ps : List V} {ss : List Stp} {CT CP : Addr} {t : TxI}
theorem Kp.refl : Kp H H := ⟨fun _ _ _ h => h, fun _ _ _ _ _ h => ⟨_, _, _, h⟩⟩
theorem Kp.trans (a : Kp H H1) (b : Kp H1 H') : Kp H H' := ⟨fun c o hc h => b.keep c o hc (a.keep c o hc h), fun c sa i s e h => let ⟨i', s', e', h'⟩ := a.rows c sa i s e h; b.rows c sa i' s' e' h'⟩
theorem Kp.same (e : Same H H') : Kp H H' := ⟨fun b o _ h => e b o h, fun b _ _ _ _ h => ⟨_, _, _, e b _ h⟩⟩
theorem Kp.new (e : Kp H H') (hp : H' p = none) : Kp H (upd H' p o) := e.trans (Kp.same (Same.new (Same.refl _) hp))
/-- the row is written -/
theorem Kp.row (e : Kp H H') {sa : Addr} {i s n i' s' n' : Int} (h : H' r = some (.lst [.ref sa, .int i, .int s, .int n])) : Kp H (upd H' r (.lst [.ref sa, .int i', .int s', .int n'])) := by
  refine e.trans ⟨fun b w hw q => ?_, fun b sb i1 s1 n1 q => ?_⟩
  · rw [upd_ne fun z => by subst z; rw [h] at q; cases q; exact hw trivial]; exact q
  · by_cases hb : b = r
    · subst hb; rw [h] at q; cases q; exact ⟨_, _, _, upd_same⟩
    · exact ⟨_, _, _, by rw [upd_ne hb]; exact q⟩
theorem Kp.mut (e : Kp H H') (h : H p = none) : Kp H (upd H' p o) :=
  ⟨fun b w hw q => by rw [upd_ne (ne_of_none q h)]; exact e.keep b w hw q, fun b sa i s n q => let ⟨i', s', e', h'⟩ := e.rows b sa i s n q; ⟨i', s', e', by rw [upd_ne (ne_of_none q h)]; exact h'⟩⟩
theorem nr_tup : ¬ isRow (.tup xs) := id
theorem nr_ins {C dx : Addr} {fs : List (Str × V)} : ¬ isRow (.ins C dx fs) := id
theorem nr_frz {u : HO} {o' : Obj} : ¬ isRow (.frz o' u) := id
theorem nr_dK {kvs : List (Key × V)} : ¬ isRow (.dK kvs) := id
def isRef : V → Bool
  | .ref _ => true
  | _ => false
theorem nr_refs (h : ∀ v ∈ xs, isRef v = true) : ¬ isRow (.lst xs) := by
  intro z
  unfold isRow at z
  split at z
  · rename_i e
    simp only [HO.lst.injEq] at e
    subst e
    have := h _ (List.mem_cons_of_mem _ List.mem_cons_self)
    cases this
  · exact z
theorem nr_vals (h : ∀ v ∈ xs, isRef v = false) : ¬ isRow (.lst xs) := by
  intro z
  unfold isRow at z
  split at z
  · rename_i e
    simp only [HO.lst.injEq] at e
    subst e
    have := h _ List.mem_cons_self
    cases this
  · exact z
theorem nr_ints {l : List Int} : ¬ isRow (.lst (l.map V.int)) := nr_vals fun v hv => by obtain ⟨i, _, rfl⟩ := List.mem_map.mp hv; rfl
theorem nr_of {b : Bool} (h : ∀ v ∈ xs, isRef v = b) : ¬ isRow (.lst xs) := by
  cases b with
  | true => exact nr_refs h
  | false => exact nr_vals h
theorem Kp.tup (e : Kp H H') (h : SqT K H a xs) : SqT K H' a xs := by
  rcases h with (h | ⟨o, h⟩) | h
  · exact .inl (.inl (e _ _ nr_tup h))
  · exact .inl (.inr ⟨o, e _ _ nr_frz h⟩)
  · exact .inr h
theorem Kp.lst (e : Kp H H') (n : ¬ isRow (.lst xs)) (h : SqL K H a xs) : SqL K H' a xs := by
  rcases h with (h | ⟨o, h⟩) | h
  · exact .inl (.inl (e _ _ n h))
  · exact .inl (.inr ⟨o, e _ _ nr_frz h⟩)
  · exact .inr h
theorem RowAt.mono (h : RowAt K H r) (e : Same H H') : RowAt K H' r := let ⟨sa, sc, i, s, n, a, b⟩ := h.ex; ⟨sa, sc, i, s, n, e _ _ a, e.seq b⟩
theorem StepAt.kp (h : StepAt K H v s) (e : Kp H H') : StepAt K H' v s := let ⟨a, ev, q⟩ := h; ⟨a, ev, e.tup q⟩
theorem StepsAt.kp (h : StepsAt K H ms ss) (e : Kp H H') : StepsAt K H' ms ss := ⟨h.1, fun j s q => let ⟨v, a, b⟩ := h.2 j s q; ⟨v, a, b.kp e⟩⟩
theorem StepsAt.refs (h : StepsAt K H ms ss) : ∀ v ∈ ms, isRef v = true := by
  intro v hv
  obtain ⟨j, hj, rfl⟩ := List.getElem_of_mem hv
  obtain ⟨s, _, a, e, _⟩ := h.at (List.getElem?_eq_getElem hj)
  rw [e]; rfl
theorem PartAt.kp {n y : Nat} (h : PartAt CP H v n y s) (e : Kp H H') : PartAt CP H' v n y s := by
  cases s with
  | wr w => obtain ⟨p, dx, ev, q⟩ := h; exact ⟨p, dx, ev, e _ _ nr_ins q⟩
  | pa f l t => obtain ⟨p, dx, ev, q⟩ := h; exact ⟨p, dx, ev, e _ _ nr_ins q⟩
theorem PartsAt.refs (h : PartsAt CP H ps ss) : ∀ v ∈ ps, isRef v = true := by
  intro v hv
  obtain ⟨j, hj, rfl⟩ := List.getElem_of_mem hv
  have hj' : j < ss.length := by rw [← h.1]; exact hj
  obtain ⟨v, e1, e2⟩ := h.2 j _ (List.getElem?_eq_getElem hj')
  rw [List.getElem?_eq_getElem hj] at e1
  cases e1
  cases hs : ss[j] with
  | wr w => rw [hs] at e2; obtain ⟨p, dx, ev, q⟩ := e2; rw [ev]; rfl
  | pa f l t => rw [hs] at e2; obtain ⟨p, dx, ev, q⟩ := e2; rw [ev]; rfl
theorem PartsAt.kp (h : PartsAt CP H ps ss) (e : Kp H H') : PartsAt CP H' ps ss := ⟨h.1, fun j s q => let ⟨v, a, b⟩ := h.2 j s q; ⟨v, a, b.kp e⟩⟩
theorem TextAt.kp (h : TextAt K CT CP H a t) (e : Kp H H') : TextAt K CT CP H' a t := ⟨e _ _ nr_ins h.ins, e.tup h.made, h.stp.kp e, e _ _ (nr_refs h.prt.refs) h.pls, h.prt.kp e, h.ok, h.few⟩
end
theorem take_fin {many : Nat} (h : 1 ≤ many) (x : Int) {Q : VK} {H : Hp} (k : ∀ n : Nat, n < many → Q (.int n) H) : Q (.int (x % (many : Nat))) H := by
  have h1 : 0 ≤ x % (many : Int) := Int.emod_nonneg x (by omega)
  have h2 : x % (many : Int) < (many : Int) := Int.emod_lt_of_pos x (by omega)
  have := k (x % (many : Int)).toNat (by omega)
  rw [Int.toNat_of_nonneg h1] at this
  exact this
theorem row_put {K : PySem.W.Frag} {H H' : Hp} {r sa : Addr} {sc : List Int} {i j : Nat} {s e s' e' : Int} (S : Kp H H') (h : H' r = some (.lst [.ref sa, .int i, .int s, .int e])) (hs : SqL K H' sa (sc.map V.int)) :
    Kp H (upd H' r (.lst [.ref sa, .int j, .int s', .int e'])) ∧ upd H' r (.lst [.ref sa, .int j, .int s', .int e']) r = some (.lst [.ref sa, .int j, .int s', .int e']) ∧ SqL K (upd H' r (.lst [.ref sa, .int j, .int s', .int e'])) sa (sc.map V.int) :=
  ⟨S.row h, upd_same, (Kp.refl.row h).lst nr_ints hs⟩
section
variable (K : PySem.W.Frag)
def sp_x_law_taken : Sp := fun vs H Q _ => ∃ (r : Addr) (many : Nat), vs = [.ref r, .int many] ∧ RowAt K H r ∧ 1 ≤ many ∧ many < 1073741824 ∧ ∀ (n : Nat) H', n < many → Kp H H' → RowAt K H' r → Q (.int n) H'
def okWord (w : Str) (m : Nat) : Prop := 1 ≤ w.length ∧ w.length ≤ m ∧ ∀ c ∈ tl w, c = 97 ∨ c = 98 ∨ c = 99 ∨ c = 122
def sp_x_law_word : Sp := fun vs H Q _ => ∃ (r : Addr) (most : Nat), vs = [.ref r, .int most] ∧ RowAt K H r ∧ 1 ≤ most ∧ most ≤ 20 ∧ ∀ (w : Str) H', okWord w most → Kp H H' → RowAt K H' r → Q (.str w) H'
/-- typed as a, b, c, z -/
def okLs (ss : List Stp) : Prop := ∀ c ∈ tyL ss, c = 97 ∨ c = 98 ∨ c = 99 ∨ c = 122
def sp_x_law_steps : Sp := fun vs H Q _ => ∃ (r : Addr) (count most : Nat), vs = [.ref r, .int count, .int most] ∧ RowAt K H r ∧ count ≤ 30 ∧ 1 ≤ most ∧ most ≤ 1000 ∧
  ∀ a ms ss H', Kp H H' → RowAt K H' r → SqT K H' a ms → StepsAt K H' ms ss → okFrom 0 ss → ss.length ≤ count → sz ss ≤ most → (1 ≤ count → 20 ≤ most → 1 ≤ sz ss) → okLs ss → Q (.ref a) H'
end
end L2.Px
namespace L2.Px
open PySem PySem.Spec PyProof.Rows StX TL
theorem pickL {l : List Nat} {n : Nat} (hn : n < l.length) : ∃ m : Nat, (l.map fun m => V.int (m : Nat))[n]? = some (.int m) ∧ m ∈ l :=
  ⟨l[n], by rw [List.getElem?_map, List.getElem?_eq_getElem hn]; rfl, List.getElem_mem hn⟩
theorem three_line : 3 ≤ sizeLine := by rw [sizeLine_eq]; decide
theorem one_line : 1 ≤ sizeLine := by rw [sizeLine_eq]; decide
theorem nr_nats {l : List Nat} : ¬ isRow (.lst (l.map fun m => V.int (m : Nat))) := nr_vals fun v hv => by obtain ⟨i, _, rfl⟩ := List.mem_map.mp hv; rfl
theorem StepsAt.snoc {K : PySem.W.Frag} {H : Hp} {ms : List V} {ss : List Stp} {v : V} {s : Stp} (h : StepsAt K H ms ss) (g : StepAt K H v s) : StepsAt K H (ms ++ [v]) (ss ++ [s]) := h.append (.one g)
theorem StepsAt.nil {K : PySem.W.Frag} {H : Hp} : StepsAt K H [] [] := ⟨rfl, fun j s h => by simp at h⟩
theorem ok_snoc {ss : List Stp} {s : Stp} (ok : okFrom 0 ss) (h : okStep (sz ss) s) (hz : sz ss + len1 s ≤ 1000000000000000000) : okFrom 0 (ss ++ [s]) := by
  rw [okFrom_append, Nat.zero_add]
  exact ⟨ok, h, hz, trivial⟩
theorem sz_snoc (ss : List Stp) (s : Stp) : sz (ss ++ [s]) = sz ss + len1 s := by rw [sz_append]; simp [sz]
theorem okWord.step {w : Str} {m n : Nat} (h : okWord w m) (hm : m ≤ 20) : okStep n (.wr w) := ⟨h.1, Nat.le_trans h.2.1 hm, fun c hc => by rcases h.2.2 c hc with e | e | e | e <;> omega⟩
theorem rd_ifOr {t u : TT} {st su : TS} {D : Ends} {σ : St} {H : Hp} (P : Hp → Prop) (ha : ∀ Hc, P Hc → st D σ Hc) (h : (∀ Hc, P Hc → (if true = true then st D σ Hc else su D σ Hc)) → tOr t u σ H fun b H1 => if b = true then st D σ H1 else su D σ H1) : tIfS (tOr t u) st su D σ H := h (fun Hc p => by rw [if_pos rfl]; exact ha Hc p)
theorem okLs.wr {ss : List Stp} {x : Str} {m : Nat} (h : okLs ss) (hx : okWord x m) : okLs (ss ++ [.wr x]) := fun c hc => by
  rw [tyL_append] at hc
  rcases List.mem_append.mp hc with hc | hc
  · exact h c hc
  · exact hx.2.2 c (by simpa [tyL, ty1] using hc)
theorem okLs.pa {ss : List Stp} {f l t : Nat} (h : okLs ss) : okLs (ss ++ [.pa f l t]) := fun c hc => by
  rw [tyL_append] at hc
  rcases List.mem_append.mp hc with hc | hc
  · exact h c hc
  · simp [tyL, ty1] at hc
theorem okLs.app {a b : List Stp} (h : okLs a) (g : okLs b) : okLs (a ++ b) := fun c hc => by
  rw [tyL_append] at hc
  exact (List.mem_append.mp hc).elim (h c) (g c)
/-- _law_steps's loop -/
def LsPv (K : PySem.W.Frag) (H : Hp) (r : Addr) (count most i : Nat) (σ : St) (H' : Hp) : Prop := ∃ l ms ss v5 v6 v7 v8 v9, σ = [some (.ref r), some (.int (count : Nat)), some (.int (most : Nat)), some (.ref l), some (.int (sz ss : Nat)), v5, v6, v7, v8, v9] ∧ Kp H H' ∧ RowAt K H' r ∧ H' l = some (.lst ms) ∧ StepsAt K H' ms ss ∧ okFrom 0 ss ∧ ss.length ≤ i ∧ sz ss ≤ most ∧ (1 ≤ i → 20 ≤ most → 1 ≤ sz ss) ∧ okLs ss
end L2.Px

set_option Elab.async false
set_option linter.all false
set_option maxRecDepth 100000
set_option maxHeartbeats 1000000
/-! == and != of objects with an own __eq__ -/
namespace L2.Px
open PySem PySem.Spec PyProof.Rows StX
section
variable {M : Model} {prog : Program} {w : World} {A : Around} {E : Value → Shared → Prop} {s : Shared} {K : PySem.W.Frag} {x C f : Addr} {ox : Obj} {od : Option Obj} {b : Value}
open PySem in
theorem px_ifBoundNe {args : List Value} {Q : Option Value → Shared → Prop} (X : K.In s.heap) (I : PySem.W.InstAt s.heap x ox C od) (hs : PySem.W.findIn K (.ref C) "__ne__" = some (some (.builtin "object.__ne__")))
    (h : wpAny M A (call (.builtin "object.__ne__") (.ref x :: args)) (fun v => Q (some v)) E s) : wpAny M A (callSpecialIfBound? (.ref x) "__ne__" args) Q E s := by
  simp only [callSpecialIfBound?, bindSpecialIfBound?]
  refine wpAny_holding (wpAny_bind (wpAny_bind (wpAny_bind (I.type.here ((PySem.W.looks_findIn X hs).here ?_)))))
  refine wpAny_bind (wpAny_askSetting (wpAny_ite ?_))
  have fin : wpAny M A (call (.builtin "object.__ne__") ([.ref x] ++ args) >>= fun v => pure (some v)) Q E s := wpAny_bind (wpAny_mono h (fun v s' h' => wpAny_pure h') fun _ _ h' => h')
  split
  · exact wpAny_bind (wpAny_of_eq (F.cmp_object.ne.bind _) (wpAny_pure (by exact fin)))
  · exact wpAny_tryCatch (wpAny_bind (wpAny_of_eq (F.cmp_object.ne.bind _) (wpAny_pure (by exact fin))))
theorem px_neEntry (hu : A.units < cLine) (X : K.In s.heap) (I : PySem.W.InstAt s.heap x ox C od) (hs : PySem.W.findIn K (.ref C) "__eq__" = some (some (.ref f))) (hf : PySem.W.isFn K (.ref f) = true) {Q : Fin → Shared → Prop}
    (h : wpAny (model prog w) A (call (.ref f) [.ref x, b]) (fun v s' => ∃ k, v = .bool k ∧ Q (.done (.ret (.bool (!k)))) s') E s) : wpAny (model prog w) A (Builtin.«object.__ne__» ⟨[.ref x, b], []⟩) Q E s := by
  unfold Builtin.«object.__ne__»
  repeat (first
    | with_reducible refine wpAny_cRoomFor hu ?_
    | (refine wpAny_bind (m := callSpecialIfBound? (.ref x) (Str.ofString "__eq__") [b]) (PySem.W.ifBound_K X I hs hf (wpAny_mono h (fun r s' hr => by
          obtain ⟨k, rfl, hq⟩ := hr
          repeat (first | exact hq | exact wpAny_pure hq | exact wpAny_truthy_bool hq | (refine wpAny_bind (m := truthy (.bool _)) (wpAny_truthy_bool ?_)) | wp_step)) fun _ _ e => e)))
    | wp_step)
theorem px_callNe (hu : A.units + 1 < cLine) (X : K.In s.heap) (I : PySem.W.InstAt s.heap x ox C od) (hm : PySem.W.mroIn K C (.type "object") = some true) (hs : PySem.W.findIn K (.ref C) "__eq__" = some (some (.ref f))) (hf : PySem.W.isFn K (.ref f) = true) {Q : Value → Shared → Prop}
    (h : wpAny (model prog w) A.in1 (call (.ref f) [.ref x, b]) (fun v s' => ∃ k, v = .bool k ∧ Q (.bool (!k)) s') E s) : wpAny (model prog w) A (call (.builtin "object.__ne__") [.ref x, b]) Q E s :=
  wpAny_call (codeAny_call_builtin F.cmp_object.ne.plain F.cmpEntry_ne (PySem.W.check_slot F.cmpKind_ne F.cmpSplit_ne (I.type.andThen (PySem.W.looks_mroIn X hm)) (F.cmpArgs_ne _ _) (px_neEntry hu X I hs hf h)))
theorem px_ne {y : Addr} {oy : Obj} {od' : Option Obj} (hu : A.units + 1 < cLine) (X : K.In s.heap) (I : PySem.W.InstAt s.heap x ox C od) (J : PySem.W.InstAt s.heap y oy C od') (hm : PySem.W.mroIn K C (.type "object") = some true) (hs : PySem.W.findIn K (.ref C) "__eq__" = some (some (.ref f))) (hf : PySem.W.isFn K (.ref f) = true)
    (hn : PySem.W.findIn K (.ref C) "__ne__" = some (some (.builtin "object.__ne__"))) {Q : Value → Shared → Prop}
    (h : wpAny (model prog w) A.in1 (call (.ref f) [.ref x, .ref y]) (fun v s' => ∃ k, v = .bool k ∧ Q (.bool (!k)) s') E s) : wpAny (model prog w) A (richCompare .NotEq (.ref x) (.ref y)) Q E s := by
  have one : wpAny (model prog w) A (tryCompare (.ref x) "__ne__" (.ref y)) (fun r s' => ∃ v, r = some v ∧ Q v s') E s := by
    unfold tryCompare
    refine wpAny_bind (px_ifBoundNe X I hn (px_callNe hu X I hm hs hf (wpAny_mono h (fun v s' hv => ?_) fun _ _ e => e)))
    obtain ⟨k, rfl, hq⟩ := hv
    exact ⟨k, rfl, wpAny_pure ⟨_, rfl, hq⟩⟩
  simp only [richCompare, cmpInfo_NotEq, oneThing_ref]
  refine wpAny_holding (wpAny_bind (wpAny_cRoomFor (Nat.lt_of_succ_lt hu) ?_))
  refine wpAny_bind (I.type.here (wpAny_bind (J.type.here ?_)))
  rw [show (Value.ref C != Value.ref C) = false from by simp]
  simp only [Bool.false_eq_true, if_false]
  refine wpAny_bind (wpAny_pure ?_)
  simp only [Bool.false_eq_true, if_false]
  refine wpAny_bind (wpAny_mono one (fun r s' z => ?_) fun _ _ e => e)
  obtain ⟨v, rfl, hq⟩ := z
  exact wpAny_pure hq
end
/-- what a class must have for == and != by its own __eq__ -/
structure EOwn (K : PySem.W.Frag) (C f : Addr) : Prop where
  at_ : PySem.W.findIn K (.ref C) "__eq__" = some (some (.ref f))
  fn : PySem.W.isFn K (.ref f) = true
  n1 : PySem.W.notFirst K C (.ref C) = true
  n2 : PySem.W.notFirst K C (.type "tuple") = true
  ne : PySem.W.findIn K (.ref C) "__ne__" = some (some (.builtin "object.__ne__"))
  obj : PySem.W.mroIn K C (.type "object") = some true
section
variable {X : Cx} {CX : CXT} {k : Nat} {C f : Addr} {sp : Sp} {E : XK}
def rEqO (K : PySem.W.Frag) (C : Addr) (sp : Sp) (E : XK) : R2 := fun x y H Q => ∃ a b, x = .ref a ∧ y = .ref b ∧ InsA H a C ∧ (InsA H b C ∨ ∃ xs, SqT K H b xs) ∧ sp [.ref a, .ref b] H Q E
def rNeO (C : Addr) (sp : Sp) (E : XK) : R2 := fun x y H Q => ∃ a b, x = .ref a ∧ y = .ref b ∧ InsA H a C ∧ InsA H b C ∧ sp [.ref a, .ref b] H (fun v H' => ∃ k, v = .bl k ∧ Q (.bl (!k)) H') E
theorem op_eqO (b : EOwn X.K C f) (F : FnR X.prog X.w X.K X.mg X.base CX k f sp) (hr : Room k X.A) (hx : Passes CX X E) : OpR X (compareOp .Eq) (rEqO X.K C sp E) := by
  intro pins s σ H x y v u Q I rx ry h
  obtain ⟨a, c, rfl, rfl, ia, ic, q⟩ := h
  obtain rfl : v = Value.ref a := rx
  obtain rfl : u = Value.ref c := ry
  obtain ⟨ox, od, J⟩ := ia.at I
  obtain ⟨m, Fr0⟩ := I.fr
  have hu : X.A.units < cLine := by have := hr.units; omega
  have main : wpAny (model X.prog X.w) X.A (call (.ref f) [.ref a, .ref c]) (PySem.W.CmpBack (EP X pins σ Q)) X.xe s :=
    wpAny_call (codeAny_mono (run_fnR (us := [.ref a, .ref c]) (vs := [.ref a, .ref c]) F hr hx I (.cons rfl (.cons rfl .nil)) q) fun r s' hq => by
      cases r with
      | error e => exact hq
      | ok fl =>
        cases fl with
        | ret w =>
          obtain ⟨v', H', I', rv, q'⟩ := hq
          exact ncb rv ⟨v', H', I', rv, q'⟩
        | next => exact hq
        | brk => exact hq
        | cont => exact hq)
  show wpAny (model X.prog X.w) X.A (richCompare .Eq (.ref a) (.ref c)) (EP X pins σ Q) X.xe s
  rcases ic with ic | ⟨xs, hq⟩
  · obtain ⟨oy, od', J'⟩ := ic.at I
    exact PySem.W.cmp_K (op := .Eq) hu Fr0 I.ok.mod.kin J J'.type b.n1 b.at_ b.fn main
  · obtain ⟨its, rv, p, hz⟩ := I.tuple hq
    obtain ⟨o, ho, hc⟩ : ∃ o, s.heap.get? c = some o ∧ o.cls = .type "tuple" := by
      obtain ⟨o, ho, hc, _⟩ := p
      exact ⟨o, ho, hc⟩
    have ty : PySem.W.Looks (model X.prog X.w) s.heap (typeOf (.ref c)) o.cls := (PySem.W.Looks.ld ho).andThen .now
    rw [hc] at ty
    exact PySem.W.cmp_K (op := .Eq) hu Fr0 I.ok.mod.kin J ty b.n2 b.at_ b.fn main
theorem op_neO (b : EOwn X.K C f) (F : FnR X.prog X.w X.K X.mg X.base CX k f sp) (hr : Room (k + 1) X.A) (hx : Passes CX X E) : OpR X (compareOp .NotEq) (rNeO C sp E) := by
  intro pins s σ H x y v u Q I rx ry h
  obtain ⟨a, c, rfl, rfl, ia, ic, q⟩ := h
  obtain rfl : v = Value.ref a := rx
  obtain rfl : u = Value.ref c := ry
  obtain ⟨ox, od, J⟩ := ia.at I
  obtain ⟨oy, od', J'⟩ := ic.at I
  have hu : X.A.units + 1 < cLine := by have := hr.units; omega
  refine px_ne hu I.kIn J J' b.obj b.at_ b.fn b.ne ?_
  refine wpAny_mono (run_in1 (us := [.ref a, .ref c]) (vs := [.ref a, .ref c]) F hr hx I (.cons rfl (.cons rfl .nil)) q) (fun w s' hq => ?_) fun _ _ e => e
  obtain ⟨v', H', I', rv, kk, ek, q'⟩ := hq
  subst ek
  obtain rfl : w = Value.bool kk := rv
  exact ⟨kk, rfl, .bl (!kk), H', I', rfl, q'⟩
theorem oEqO (G : XOk X.prog X.w X.K X.mg X.base CX k (EOwn X.K C) sp) (hr : Room k X.A) (hx : Passes CX X E) : OpR X (compareOp .Eq) (rEqO X.K C sp E) := let ⟨_, F, r⟩ := G; op_eqO r F hr hx
theorem oNeO (G : XOk X.prog X.w X.K X.mg X.base CX k (EOwn X.K C) sp) (hr : Room (k + 1) X.A) (hx : Passes CX X E) : OpR X (compareOp .NotEq) (rNeO C sp E) := let ⟨_, F, r⟩ := G; op_neO r F hr hx
theorem rd_eqO {K : PySem.W.Frag} {a b : Addr} {H : Hp} {Q : VK} (i : InsA H a C) (j : InsA H b C) (h : sp [.ref a, .ref b] H Q E) : rEqO K C sp E (.ref a) (.ref b) H Q := ⟨a, b, rfl, rfl, i, .inl j, h⟩
theorem rd_eqOT {K : PySem.W.Frag} {a b : Addr} {H : Hp} {Q : VK} {xs : List V} (i : InsA H a C) (j : SqT K H b xs) (h : sp [.ref a, .ref b] H Q E) : rEqO K C sp E (.ref a) (.ref b) H Q := ⟨a, b, rfl, rfl, i, .inr ⟨xs, j⟩, h⟩
theorem rd_neO {a b : Addr} {H : Hp} {Q : VK} (i : InsA H a C) (j : InsA H b C) (h : sp [.ref a, .ref b] H (fun v H' => ∃ k, v = .bl k ∧ Q (.bl (!k)) H') E) : rNeO C sp E (.ref a) (.ref b) H Q := ⟨a, b, rfl, rfl, i, j, h⟩
end
end L2.Px
namespace L2.Px
open PySem PySem.Spec PyProof.Rows StX TL
/-! ### data -/
mutual
theorem eqv_refl : ∀ d : PyData, d.canLay0 = true → PyData.eqv d d = true
  | .none, _ => by simp only [PyData.eqv]
  | .bool b, _ => by simp [PyData.eqv]
  | .int i, _ => by simp [PyData.eqv]
  | .str x, _ => by simp [PyData.eqv]
  | .list xs, h => by
    have h' : PyData.canLayAll0 xs = true := by simpa [PyData.canLay0] using h
    simp only [PyData.eqv]; exact eqvAll_refl xs h'
  | .tuple xs, h => by
    have h' : PyData.canLayAll0 xs = true := by simpa [PyData.canLay0] using h
    simp only [PyData.eqv]; exact eqvAll_refl xs h'
  | .dict _, h => by simp [PyData.canLay0] at h
theorem eqvAll_refl : ∀ ds : List PyData, PyData.canLayAll0 ds = true → PyData.eqvAll ds ds = true
  | [], _ => by simp only [PyData.eqvAll]
  | d :: ds, h => by
    have h' : PyData.canLay0 d = true ∧ PyData.canLayAll0 ds = true := by simpa [PyData.canLayAll0] using h
    simp only [PyData.eqvAll, Bool.and_eq_true]
    exact ⟨eqv_refl d h'.1, eqvAll_refl ds h'.2⟩
end
/-- data whose depth is at most n -/
def DOk (n : Nat) (d : PyData) : Prop := d.canLay0 = true ∧ d.depth ≤ n
def DOkAll (n : Nat) (ds : List PyData) : Prop := PyData.canLayAll0 ds = true ∧ PyData.depthAll ds ≤ n
theorem DOk.shaped {n : Nat} {d : PyData} (h : DOk n d) (hn : n ≤ 64 := by decide) : SeqAt.shaped d = true := by
  unfold SeqAt.shaped
  rw [h.1, Bool.true_and]
  exact decide_eq_true (Nat.le_trans h.2 hn)
theorem DOkAll.of {n : Nat} {ds : List PyData} (h : ∀ d ∈ ds, DOk n d) : DOkAll n ds := by
  induction ds with
  | nil => exact ⟨by simp [PyData.canLayAll0], by simp [PyData.depthAll]⟩
  | cons d ds ih =>
    have h1 := h d List.mem_cons_self
    have h2 := ih fun e he => h e (List.mem_cons_of_mem _ he)
    refine ⟨by simp only [PyData.canLayAll0, Bool.and_eq_true]; exact ⟨h1.1, h2.1⟩, ?_⟩
    have a := h1.2; have b := h2.2
    simp only [PyData.depthAll]
    omega
theorem DOk.lst {n : Nat} {ds : List PyData} (h : ∀ d ∈ ds, DOk n d) : DOk (n + 1) (.list ds) := by
  have := DOkAll.of h
  exact ⟨by simp only [PyData.canLay0]; exact this.1, by simp only [PyData.depth]; have := this.2; omega⟩
theorem DOk.tup {n : Nat} {ds : List PyData} (h : ∀ d ∈ ds, DOk n d) : DOk (n + 1) (.tuple ds) := by
  have := DOkAll.of h
  exact ⟨by simp only [PyData.canLay0]; exact this.1, by simp only [PyData.depth]; have := this.2; omega⟩
theorem DOk.int {i : Int} : DOk 0 (.int i) := ⟨by simp [PyData.canLay0], by simp [PyData.depth]⟩
theorem DOk.bool {i : Bool} : DOk 0 (.bool i) := ⟨by simp [PyData.canLay0], by simp [PyData.depth]⟩
theorem DOk.non : DOk 0 .none := ⟨by simp [PyData.canLay0], by simp [PyData.depth]⟩
theorem DOk.str {x : Str} (h : PySem.PyData.strOk x = true) : DOk 0 (.str x) := ⟨by simp [PyData.canLay0, h], by simp [PyData.depth]⟩
theorem DOk.mono {n m : Nat} {d : PyData} (h : DOk n d) (hn : n ≤ m) : DOk m d := ⟨h.1, Nat.le_trans h.2 hn⟩
end L2.Px
namespace L2.Px
open PySem PySem.Spec PyProof.Rows StX TL
theorem strOk_of {x : Str} (h : ∀ c ∈ tl x, c ≤ 122) : PySem.PyData.strOk x = true := by
  unfold PySem.PyData.strOk
  rw [Array.all_eq_true']
  intro c hc
  have := h c (show c ∈ x.cps.toList from Array.mem_toList_iff.mpr hc)
  exact decide_eq_true (by omega)
def stD : Stp → PyData
  | .wr w => .tuple [.str "write", .str w]
  | .pa f l t => .tuple [.str "paste", .int f, .int l, .int t]
theorem stD_eq (s t : Stp) : PyData.eqv (stD s) (stD t) = decide (s = t) := by
  cases s <;> cases t <;> simp [stD, PyData.eqv, PyData.eqvAll, Bool.beq_eq_decide_eq, Int.natCast_inj]
theorem stDs_eq : ∀ a b : List Stp, PyData.eqvAll (a.map stD) (b.map stD) = decide (a = b)
  | [], [] => by simp [PyData.eqvAll]
  | [], _ :: _ => by simp [PyData.eqvAll]
  | _ :: _, [] => by simp [PyData.eqvAll]
  | s :: a, t :: b => by
    simp only [List.map_cons, PyData.eqvAll, stD_eq, stDs_eq a b]
    by_cases h : s = t <;> by_cases h2 : a = b <;> simp [h, h2]
section
variable {K : PySem.W.Frag} {H : Hp} {v w : V} {s : Stp} {ms xs : List V} {ss : List Stp} {ds : List PyData} {Q : VK} {n : Nat} {d : PyData}
theorem StepAt.dp (h : StepAt K H v s) : Dp K H v (stD s) := by
  obtain ⟨a, rfl, q⟩ := h
  cases s with
  | wr w => exact .tup q (.cons (.str _) (.cons (.str _) .nil))
  | pa f l t => exact .tup q (.cons (.str _) (.cons (.int _) (.cons (.int _) (.cons (.int _) .nil))))
theorem dpAll_of (hl : xs.length = ds.length) (h : ∀ (i : Nat) (v : V) (d : PyData), xs[i]? = some v → ds[i]? = some d → Dp K H v d) : DpAll K H xs ds := by
  induction xs generalizing ds with
  | nil => cases ds with
    | nil => exact .nil
    | cons d ds => simp at hl
  | cons x xs ih =>
    cases ds with
    | nil => simp at hl
    | cons d ds => exact .cons (h 0 x d rfl rfl) (ih (by simpa using hl) fun i v d a b => h (i + 1) v d (by simpa using a) (by simpa using b))
theorem StepsAt.dp (h : StepsAt K H ms ss) : DpAll K H ms (ss.map stD) := by
  refine dpAll_of (by rw [List.length_map, h.1]) fun i v d a b => ?_
  rw [List.getElem?_map] at b
  obtain ⟨s, hs, rfl⟩ := Option.map_eq_some_iff.mp b
  obtain ⟨v', e1, e2⟩ := h.2 i s hs
  rw [a] at e1; cases e1
  exact e2.dp
theorem okStep.dok {m : Nat} (h : okStep m s) : DOk 1 (stD s) := by
  cases s with
  | wr w =>
    refine .tup (n := 0) fun d hd => ?_
    simp only [List.mem_cons, List.not_mem_nil, or_false] at hd
    rcases hd with rfl | rfl
    · exact .str (by decide +kernel)
    · exact .str (strOk_of fun c hc => (h.2.2 c hc).2)
  | pa f l t =>
    refine .tup (n := 0) fun d hd => ?_
    simp only [List.mem_cons, List.not_mem_nil, or_false] at hd
    rcases hd with rfl | rfl | rfl | rfl
    · exact .str (by decide +kernel)
    · exact .int
    · exact .int
    · exact .int
theorem steps_dok (ok : okFrom 0 ss) : DOk 2 (.tuple (ss.map stD)) := by
  refine .tup fun d hd => ?_
  obtain ⟨s, hs, rfl⟩ := List.mem_map.mp hd
  obtain ⟨i, hi, rfl⟩ := List.getElem_of_mem hs
  exact (ok_at ok (List.getElem?_eq_getElem hi)).1.dok
theorem dp_nats {l : List Nat} : DpAll K H (l.map fun m => V.int (m : Nat)) (l.map fun m => PyData.int (m : Nat)) := by
  induction l with
  | nil => exact .nil
  | cons x l ih => exact .cons (.int _) ih
theorem nats_dok {l : List Nat} : DOk 1 (.list (l.map fun m => PyData.int (m : Nat))) := .lst fun d hd => by obtain ⟨i, _, rfl⟩ := List.mem_map.mp hd; exact .int
theorem dp_strs {l : List Nat} : DpAll K H (l.map fun c => V.str ⟨#[c]⟩) (l.map fun c => PyData.str ⟨#[c]⟩) := by
  induction l with
  | nil => exact .nil
  | cons x l ih => exact .cons (.str _) ih
theorem strs_dok {l : List Nat} (h : ∀ c ∈ l, c ≤ 122) : DOk 1 (.list (l.map fun c => PyData.str ⟨#[c]⟩)) := .lst fun d hd => by
  obtain ⟨c, hc, rfl⟩ := List.mem_map.mp hd
  exact .str (strOk_of fun x hx => by cases List.mem_singleton.mp (show x ∈ [c] from hx); exact h c hc)
theorem rd_eq_same (hv : Dp K H v d) (hw : Dp K H w d) (ok : DOk n d) (hn : n ≤ 64) (q : Q (.bl true) H) : rEqA K v w H Q := rd_eq_dat hv hw (ok.shaped hn) (ok.shaped hn) (by rw [eqv_refl d ok.1]; exact q)
theorem rd_ne_same (hv : Dp K H v d) (hw : Dp K H w d) (ok : DOk n d) (hn : n ≤ 64) (q : Q (.bl false) H) : rNeA K v w H Q := rd_ne_dat hv hw (ok.shaped hn) (ok.shaped hn) (by rw [eqv_refl d ok.1]; exact q)
structure ClsG (K : PySem.W.Frag) (C : Addr) : Prop where
  ha : PySem.W.findIn K (.ref C) "__class__" = some (some (.builtin "object.__class__"))
  hn : PySem.W.specialIn K (.builtin "object.__class__") "__get__" = some (some (.builtin "getset_descriptor.__get__"))
  ht : PySem.W.takesIn K (.builtin "object.__class__") = some true
  hm : PySem.W.mroIn K C (.type "object") = some true
theorem rd_isi_own {a C : Addr} {dx : Addr} {fs : List (Str × V)} {b : Bool} {D : Addr} (h : H a = some (.ins C dx fs)) (c : Cls K C) (g : ClsG K C) (e : PySem.W.kitOne K (.ref C) (.ref D) = some b) (q : Q (.bl b) H) : rIsi K [.ref a, .ref D] H Q := rd_isi (.own D) (TyX.base (.ins h c g.ha g.hn g.ht g.hm)) e q
theorem rd_isi_tupO {a : Addr} {b : Bool} {D : Addr} (h : SqT K H a xs) (e : PySem.W.kitOne K (.type "tuple") (.ref D) = some b) (q : Q (.bl b) H) : rIsi K [.ref a, .ref D] H Q := rd_isi (.own D) (ty_tup h) e q
variable (K) (CT CP : Addr)
def sp_Text_eq : Sp := fun vs H Q _ => ∃ a b t, vs = [.ref a, .ref b] ∧ TextAt K CT CP H a t ∧ ((∃ u, TextAt K CT CP H b u ∧ Q (.bl (decide (t.ss = u.ss))) H) ∨ ∃ xs, SqT K H b xs ∧ Q (.bl false) H)
end
end L2.Px

set_option Elab.async false
set_option linter.all false
set_option maxRecDepth 100000
set_option maxHeartbeats 1000000
/-! values that are alike; promises of law k02's helpers -/
namespace L2.Px
open PySem PySem.Spec PyProof.Rows StX TL
/-- alike, to a depth: equal ints or texts, or tuples (lists) of alike items -/
def Al (K : PySem.W.Frag) (H : Hp) : Nat → V → V → Prop
  | 0, _, _ => False
  | n + 1, v, w => (∃ i, v = .int i ∧ w = .int i) ∨ (∃ x, v = .str x ∧ w = .str x ∧ x.length ≤ sizeLine) ∨ ∃ a b xs ys, v = .ref a ∧ w = .ref b ∧ (SqT K H a xs ∧ SqT K H b ys ∨ SqL K H a xs ∧ SqL K H b ys) ∧ xs.length = ys.length ∧ xs.length ≤ sizeLine ∧ ∀ (i : Nat) x y, xs[i]? = some x → ys[i]? = some y → Al K H n x y
section
variable {K : PySem.W.Frag} {H H' : Hp} {Q : VK} {v w : V} {n : Nat} {xs : List V} {a : Addr}
theorem Al.mono (e : Same H H') : ∀ {n : Nat} {v w : V}, Al K H n v w → Al K H' n v w
  | 0, _, _, h => h.elim
  | n + 1, _, _, h => by
    rcases h with h | h | ⟨a, b, xs, ys, h1, h2, h3, h4, h5, h6⟩
    · exact .inl h
    · exact .inr (.inl h)
    · refine .inr (.inr ⟨a, b, xs, ys, h1, h2, ?_, h4, h5, fun i x y p q => Al.mono e (h6 i x y p q)⟩)
      rcases h3 with ⟨p, q⟩ | ⟨p, q⟩
      · exact .inl ⟨Same.tup e p, Same.tup e q⟩
      · exact .inr ⟨e.seq p, e.seq q⟩
def sp_x_law_alike (K : PySem.W.Frag) (n : Nat) : Sp := fun vs H Q _ => ∃ v w, vs = [v, w] ∧ Al K H n v w ∧ ∀ H', Same H H' → Q (.bl true) H'
theorem isiTK {X : Cx} (hk : X.K = K) : CallR X (.builtin "isinstance") (rIsiT K) := hk ▸ call_isiT
theorem rd_isiT {v : V} {tp : Addr} {T U W : String} {b1 b2 b : Bool} (ht : H tp = some (.tup [.ty T, .ty U])) (ty : TyX K H v (.type W)) (h1 : kitB W T = some b1) (h2 : kitB W U = some b2) (hb : b = (b1 || b2)) (q : Q (.bl b) H) : rIsiT K [v, .ref tp] H Q := by
  refine ⟨v, tp, _, .type W, [.type T, .type U], b, rfl, ht, .cons (.ty _) (.cons (.ty _) .nil), ty, ?_, q⟩
  refine kitAny_cons (kit_ty h1) (fun e => kitAny_cons (kit_ty h2) (fun e2 => ?_) (fun e2 => ?_)) (fun e => ?_)
  · subst e e2 hb; rfl
  · subst e e2 hb; rfl
  · subst e hb; rfl
end
end L2.Px

namespace L2.Px
open PySem PySem.Spec PyProof.Rows StX TL
section
variable {K : PySem.W.Frag} {H H' : Hp} {Q : VK} {v w : V} {n : Nat} {xs : List V} {a : Addr} {σ : St} {te ta tb : TE} {i j : Int} {tr : St → Hp → (Int → Int → Hp → Prop) → Prop}
theorem rgV_nat (a b : Nat) : rgV (a : Nat) (b : Nat) = (List.range' a (b - a)).map fun m => V.int (m : Nat) := by
  unfold rgV
  rw [List.range'_eq_map_range, List.map_map, show (((b : Nat) : Int) - (a : Nat)).toNat = b - a by omega]
  apply List.map_congr_left
  intro i _
  simp
theorem rd_listRg (h : tr σ H fun a b H1 => RgOk a b ∧ ∀ q, H1 q = none → Q (.ref q) (upd H1 q (.lst (rgV a b)))) : tLstRg tr σ H Q := h
theorem rd_rg1 {R : Int → Int → Hp → Prop} (h : ta σ H fun x H1 => ∃ n, x = .int n ∧ R 0 n H1) : tRg1 ta σ H R := h
theorem rd_rg2 {R : Int → Int → Hp → Prop} (h : ta σ H fun x H1 => tb σ H1 fun y H2 => ∃ i j, x = .int i ∧ y = .int j ∧ R i j H2) : tRg2 ta tb σ H R := h
theorem rd_rgq (h0 : 0 ≤ i ∧ i ≤ 16777216) (h1 : 0 ≤ j ∧ j ≤ 16777216) (q : ∀ q, H q = none → Q (.ref q) (upd H q (.lst (rgV i j)))) : RgOk i j ∧ ∀ q, H q = none → Q (.ref q) (upd H q (.lst (rgV i j))) := ⟨RgOk.of_le h0.1 h1.2 h0.2 h1.1, q⟩
theorem rd_mul_lst {k : Nat} (h : H a = some (.lst xs)) (hk : k < 2 ^ 62) (hz : xs.length * k ≤ sizeLine) (q : ∀ p, H p = none → Q (.ref p) (upd H p (.lst (List.replicate k xs).flatten))) : rMulA (.ref a) (.int k) H Q :=
  .inr ⟨a, k, xs, rfl, rfl, h, by omega, by omega, by rw [Int.toNat_natCast]; exact hz, by rw [Int.toNat_natCast]; exact q⟩
theorem cutV_nat (xs : List V) (i j : Nat) (hj : j ≤ xs.length) : cutV xs (some (i : Nat)) (some (j : Nat)) = (xs.drop i).take (j - i) := by
  unfold cutV
  rw [HT.sIx_nat, HT.sIx_nat, Nat.min_eq_left hj]
  rcases Nat.le_total i xs.length with h | h
  · rw [Nat.min_eq_left h]
  · rw [Nat.min_eq_right h, List.drop_of_length_le (Nat.le_refl _), List.drop_of_length_le h]; simp
end
theorem ks_take_wr {ss : List Stp} {j : Nat} {w : Str} (h : ss[j]? = some (.wr w)) : ks (ss.take (j + 1)) = ks (ss.take j) ++ List.range' (tyL (ss.take j)).length w.length := by
  unfold ks; rw [run_take h]; simp only [stepK]; rw [run_snd]
theorem ks_take_pa {ss : List Stp} {j f l t : Nat} (h : ss[j]? = some (.pa f l t)) : ks (ss.take (j + 1)) = ks (ss.take j) ++ (List.replicate t (((ks (ss.take j)).drop f).take (l - f + 1))).flatten := by
  unfold ks; rw [run_take h]; simp only [stepK]
theorem sz_take_le {ss : List Stp} (j : Nat) : sz (ss.take j) ≤ sz ss := by
  conv => rhs; rw [← List.take_append_drop j ss, sz_append]
  omega
section
variable (K : PySem.W.Frag)
def ksV (ss : List Stp) : List V := (ks ss).map fun m => V.int (m : Nat)
def sp_x_law_keys : Sp := fun vs H Q _ => ∃ a ms ss, vs = [.ref a] ∧ SqT K H a ms ∧ StepsAt K H ms ss ∧ okFrom 0 ss ∧ ss.length ≤ 31 ∧ sz ss ≤ 16000 ∧ ∀ p l H', Same H H' → H' p = some (.tup [.ref l, .str (mkS (tyL ss))]) → H' l = some (.lst (ksV ss)) → Q (.ref p) H'
end
end L2.Px
namespace L2.Px
open PySem PySem.Spec PyProof.Rows StX TL
section
variable {K : PySem.W.Frag} {H H' : Hp} {Q : VK} {v w : V} {n : Nat} {xs : List V} {a C : Addr} {σ : St} {ta tb : TE} {sp : Sp} {E : XK} {t : TA} {ss : List Stp} {ms : List V}
theorem rd_ixO (h : ta σ H fun x H1 => tb σ H1 fun y H2 => ∃ a, x = .ref a ∧ InsA H2 a C ∧ sp [x, y] H2 Q E) : tIxOwn C sp E ta tb σ H Q := h
theorem rd_ref1 {A : Addr → Prop} (h : A a) : ∃ a', V.ref a = .ref a' ∧ A a' := ⟨a, rfl, h⟩
theorem rd_inOwn {x : V} (i : InsA H a C) (h : sp [.ref a, x] H (fun v H' => ∃ k, v = .bl k ∧ Q (.bl k) H') E) : rInOwn C sp E x (.ref a) H Q := ⟨a, rfl, i, h⟩
theorem letters_ok : ∀ {ss : List Stp} {n : Nat}, okFrom n ss → ∀ c ∈ tyL ss, 97 ≤ c ∧ c ≤ 122
  | [], _, _, c, hc => by simp [tyL] at hc
  | .wr w :: r, n, ⟨h1, _, h3⟩, c, hc => by
    simp only [tyL, ty1, List.mem_append] at hc
    rcases hc with hc | hc
    · exact h1.2.2 c hc
    · exact letters_ok h3 c hc
  | .pa f l t :: r, n, ⟨h1, _, h3⟩, c, hc => by
    simp only [tyL, ty1, List.nil_append] at hc
    exact letters_ok h3 c hc
theorem Al.int {i : Int} : Al K H (n + 1) (.int i) (.int i) := .inl ⟨i, rfl, rfl⟩
theorem Al.str {x : Str} (h : x.length ≤ sizeLine) : Al K H (n + 1) (.str x) (.str x) := .inr (.inl ⟨x, rfl, rfl, h⟩)
theorem Al.nats {l : List Nat} {a b : Addr} (ha : SqL K H a (l.map fun m => V.int (m : Nat))) (hb : SqL K H b (l.map fun m => V.int (m : Nat))) (hz : l.length ≤ sizeLine) : Al K H (n + 2) (.ref a) (.ref b) := by
  refine .inr (.inr ⟨a, b, _, _, rfl, rfl, .inr ⟨ha, hb⟩, rfl, by rw [List.length_map]; exact hz, fun i x y hx hy => ?_⟩)
  rw [hx] at hy; cases hy
  rw [List.getElem?_map] at hx
  obtain ⟨m, _, rfl⟩ := Option.map_eq_some_iff.mp hx
  exact Al.int
theorem Al.step {s : Stp} {m : Nat} (ok : okStep m s) (h : StepAt K H v s) (g : StepAt K H w s) : Al K H (n + 2) v w := by
  obtain ⟨a, rfl, qa⟩ := h
  obtain ⟨b, rfl, qb⟩ := g
  refine .inr (.inr ⟨a, b, _, _, rfl, rfl, .inl ⟨qa, qb⟩, rfl, ?_, fun i x y hx hy => ?_⟩)
  · have := four_line
    cases s <;> simp [stV] <;> omega
  · rw [hx] at hy; cases hy
    have hm := List.mem_of_getElem? hx
    cases s with
    | wr w =>
      simp only [stV, List.mem_cons, List.not_mem_nil, or_false] at hm
      rcases hm with rfl | rfl
      · exact Al.str (str_small (by decide +kernel))
      · exact Al.str (str_small ok.2.1)
    | pa f l t =>
      simp only [stV, List.mem_cons, List.not_mem_nil, or_false] at hm
      rcases hm with rfl | rfl | rfl | rfl
      · exact Al.str (str_small (by decide +kernel))
      · exact Al.int
      · exact Al.int
      · exact Al.int
theorem Al.steps {a b : Addr} {xs ys : List V} (ok : okFrom 0 ss) (ha : SqT K H a xs) (hb : SqT K H b ys) (h : StepsAt K H xs ss) (g : StepsAt K H ys ss) (few : ss.length ≤ 31) : Al K H (n + 3) (.ref a) (.ref b) := by
  refine .inr (.inr ⟨a, b, _, _, rfl, rfl, .inl ⟨ha, hb⟩, by rw [h.1, g.1], by rw [h.1]; have := twenty_line; omega, fun i x y hx hy => ?_⟩)
  obtain ⟨s, hs, h1⟩ := h.at hx
  obtain ⟨s2, hs2, h2⟩ := g.at hy
  rw [hs] at hs2; cases hs2
  exact Al.step (ok_at ok hs).1 h1 h2
variable (K) (CT CP : Addr)
def sp_x_law_is_text : Sp := fun vs H Q _ => ∃ a b t ms, vs = [.ref a, .ref b] ∧ TextAt K CT CP H a t ∧ SqT K H b ms ∧ StepsAt K H ms t.ss ∧ sz t.ss ≤ 16000 ∧ ∀ H', Same H H' → Q (.bl true) H'
end
end L2.Px
namespace L2.Px
open PySem PySem.Spec PyProof.Rows StX TL
def sp_x_law_sum (K : PySem.W.Frag) : Sp := fun vs H Q _ => ∃ a b ms ns ss tt, vs = [.ref a, .ref b] ∧ SqT K H a ms ∧ StepsAt K H ms ss ∧ okFrom 0 ss ∧ ss.length ≤ 31 ∧ sz ss ≤ 16000 ∧ SqT K H b ns ∧ StepsAt K H ns tt ∧ tt.length ≤ 31 ∧ ∀ p xs H', Same H H' → SqT K H' p xs → StepsAt K H' xs (joinS ss tt) → Q (.ref p) H'
end L2.Px
namespace L2.Px
open PySem PySem.Spec PyProof.Rows StX TL
theorem catTK {X : Cx} {K : PySem.W.Frag} (hk : X.K = K) : OpR X (binaryOp .Add) (rCatA K) := hk ▸ op_catA
/-- the law itself: script's list is given -/
def sp_law (K : PySem.W.Frag) : Sp := fun vs H Q _ => ∃ (a : Addr) (sc : List Int), vs = [.ref a] ∧ SqL K H a (sc.map V.int) ∧ ∀ H', Q (.bl true) H'
end L2.Px
namespace L2.Px
open PySem PySem.Spec PyProof.Rows StX TL
def rJoin (K : PySem.W.Frag) : V → List V → Hp → VK → Prop := fun x xs H Q => ∃ a p, ∃ ys : List Str, x = .str a ∧ xs = [.ref p] ∧ (SqL K H p (ys.map V.str) ∨ SqT K H p (ys.map V.str)) ∧ (ys.map (·.length)).sum + ys.length * a.length ≤ 16777216 ∧ Q (.str (Txt.join a ys)) H
theorem pe_joinK {X : Cx} {K : PySem.W.Frag} {o e : Expr} {to te : TE} {apos pos : Pos} (hk : X.K = K) (ho : PE X o to) (he : PE X e te) (hs : starEach [e] X.env = [(false, eval e X.env)] := by rfl) (hbase : attributeBase o "join" X.env (eval o X.env) = eval o X.env := by rfl) (hline : (apos.endLine == pos.line) = true := by rfl) :
    PE X (.Call (.Attribute o "join" apos) [e] [] pos) (tM1 (rJoin K) to te) := hk ▸ pe_join ho he hs hbase hline
theorem rd_m1 {r : V → List V → Hp → VK → Prop} {to te : TE} {σ : St} {H : Hp} {Q : VK} (h : to σ H fun x H1 => (∃ a, x = .str a) ∧ te σ H1 fun y H2 => r x [y] H2 Q) : tM1 r to te σ H Q := h
end L2.Px

set_option Elab.async false
set_option linter.all false
set_option maxRecDepth 100000
set_option maxHeartbeats 1000000
/-! the promises as reading steps: texts by their steps, heaps by what is new -/
namespace L2.Px
open PySem PySem.Spec PyProof.Rows StX TL
/-- the text of steps ss stands at a -/
def TX (K : PySem.W.Frag) (CT CP : Addr) (H : Hp) (a : Addr) (ss : List Stp) : Prop := ∃ t, TextAt K CT CP H a t ∧ t.ss = ss
/-- a list or a tuple of the steps ss -/
def SX (K : PySem.W.Frag) (H : Hp) (a : Addr) (ss : List Stp) : Prop := ∃ ms, (SqT K H a ms ∨ H a = some (.lst ms)) ∧ StepsAt K H ms ss
/-- a tuple of the steps ss -/
def TS' (K : PySem.W.Frag) (H : Hp) (a : Addr) (ss : List Stp) : Prop := ∃ ms, SqT K H a ms ∧ StepsAt K H ms ss
def natV (L : List Nat) : List V := L.map fun m => V.int (m : Nat)
def kat (ss : List Stp) (p : Nat) : Nat := (ks ss)[p]?.getD 0
def lat (ss : List Stp) (k : Nat) : Nat := (tyL ss)[k]?.getD 0
section
variable {K : PySem.W.Frag} {CT CP : Addr} {H H' : Hp} {Q : VK} {E : XK} {a b r : Addr} {ss tt : List Stp} {i j : Int} {v : V} {o : HO} {xs : List V} {L : List Nat}
theorem TX.kp (h : TX K CT CP H a ss) (e : Kp H H') : TX K CT CP H' a ss := let ⟨t, T, q⟩ := h; ⟨t, T.kp e, q⟩
theorem TX.ok (h : TX K CT CP H a ss) : okFrom 0 ss := let ⟨t, T, q⟩ := h; q ▸ T.ok
theorem TX.few (h : TX K CT CP H a ss) : ss.length ≤ 30 := let ⟨t, T, q⟩ := h; q ▸ T.few
theorem TX.insA (h : TX K CT CP H a ss) : InsA H a CT := let ⟨t, T, q⟩ := h; T.insA
theorem TX.insM {m : Str} (h : TX K CT CP H a ss) (hm : m ≠ "total" ∧ m ≠ "parts" ∧ m ≠ "typed" ∧ m ≠ "made" := by decide +kernel) : InsM H a CT m := let ⟨t, T, q⟩ := h; T.insM hm
theorem SX.kp (h : SX K H a ss) (e : Kp H H') : SX K H' a ss := let ⟨ms, q, s⟩ := h; ⟨ms, q.elim (fun q => .inl (e.tup q)) (fun q => .inr (e _ _ (nr_refs s.refs) q)), s.kp e⟩
theorem TS'.kp (h : TS' K H a ss) (e : Kp H H') : TS' K H' a ss := let ⟨ms, q, s⟩ := h; ⟨ms, e.tup q, s.kp e⟩
theorem TS'.sx (h : TS' K H a ss) : SX K H a ss := let ⟨ms, q, s⟩ := h; ⟨ms, .inl q, s⟩
theorem nr_natV {L : List Nat} : ¬ isRow (.lst (natV L)) := nr_nats
theorem natV_len (L : List Nat) : (natV L).length = L.length := List.length_map _
theorem tyL_600 (h : TX K CT CP H a ss) : (tyL ss).length ≤ 600 := by have := tyL_small h.ok; have := h.few; omega
theorem sl : sizeLine = 16777216 := sizeLine_eq
/-! places and letters -/
theorem kat_some (ok : okFrom 0 ss) {p : Nat} (h : p < sz ss) : (ks ss)[p]? = some (kat ss p) := by
  unfold kat; rw [List.getElem?_eq_getElem (by rw [ks_len ok]; exact h)]; rfl
theorem kat_lt (ok : okFrom 0 ss) {p : Nat} (h : p < sz ss) : kat ss p < (tyL ss).length := ks_lt (List.mem_of_getElem? (kat_some ok h))
theorem lat_some {k : Nat} (h : k < (tyL ss).length) : (tyL ss)[k]? = some (lat ss k) := by
  unfold lat; rw [List.getElem?_eq_getElem h]; rfl
theorem lat_let (ok : okFrom 0 ss) {k : Nat} (h : k < (tyL ss).length) : 97 ≤ lat ss k ∧ lat ss k ≤ 122 := letters_ok ok _ (List.mem_of_getElem? (lat_some h))
/-! new objects -/
theorem new_of {P : Addr → Hp → Prop} (q : ∀ p H', Same H H' → H' p = some o → P p H') : ∀ p, H p = none → P p (upd H p o) := fun p hp => q p _ (Same.new (Same.refl _) hp) upd_same
theorem rd_newL {n : Nat} (hz : n ≤ sizeLine) (q : ∀ p H', Same H H' → H' p = some o → Q (.ref p) H') : n ≤ sizeLine ∧ ∀ p, H p = none → Q (.ref p) (upd H p o) := ⟨hz, new_of q⟩
theorem Same.lk (h : H a = some o) (s : Same H H') : H' a = some o := s _ _ h
/-! the row -/
theorem rd_taken (row : RowAt K H r) (h1 : 1 ≤ i) (h2 : i < 1073741824) (q : ∀ (n : Nat) H', (n : Int) < i → Kp H H' → RowAt K H' r → Q (.int n) H') : sp_x_law_taken K [.ref r, .int i] H Q E :=
  ⟨r, i.toNat, by rw [Int.toNat_of_nonneg (by omega)], row, by omega, by omega, fun n H' hn k w => q n H' (by omega) k w⟩
theorem rd_word (row : RowAt K H r) (h1 : 1 ≤ i) (h2 : i ≤ 20) (q : ∀ (w : Str) H', okWord w i.toNat → Kp H H' → RowAt K H' r → Q (.str w) H') : sp_x_law_word K [.ref r, .int i] H Q E :=
  ⟨r, i.toNat, by rw [Int.toNat_of_nonneg (by omega)], row, by omega, by omega, q⟩
theorem rd_stepsL (row : RowAt K H r) (h1 : 0 ≤ i) (h2 : i ≤ 30) (h3 : 20 ≤ j) (h4 : j ≤ 1000)
    (q : ∀ p ss H', Kp H H' → RowAt K H' r → TS' K H' p ss → okFrom 0 ss → (ss.length : Int) ≤ i → (sz ss : Int) ≤ j → (1 ≤ i → 1 ≤ sz ss) → Q (.ref p) H') : sp_x_law_steps K [.ref r, .int i, .int j] H Q E :=
  ⟨r, i.toNat, j.toNat, by rw [Int.toNat_of_nonneg (by omega), Int.toNat_of_nonneg (by omega)], row, by omega, by omega, by omega,
    fun p ms ss H' k w a b c d e f _ => q p ss H' k w ⟨ms, a, b⟩ c (by omega) (by omega) (fun z => f (by omega) (by omega))⟩
theorem rd_stepsQ (row : RowAt K H r) (h1 : 0 ≤ i) (h2 : i ≤ 30) (h3 : 20 ≤ j) (h4 : j ≤ 1000)
    (q : ∀ p ss H', Kp H H' → RowAt K H' r → TS' K H' p ss → okFrom 0 ss → (ss.length : Int) ≤ i → (sz ss : Int) ≤ j → (1 ≤ i → 1 ≤ sz ss) → okLs ss → Q (.ref p) H') : sp_x_law_steps K [.ref r, .int i, .int j] H Q E :=
  ⟨r, i.toNat, j.toNat, by rw [Int.toNat_of_nonneg (by omega), Int.toNat_of_nonneg (by omega)], row, by omega, by omega, by omega,
    fun p ms ss H' k w a b c d e f g => q p ss H' k w ⟨ms, a, b⟩ c (by omega) (by omega) (fun z => f (by omega) (by omega)) g⟩
theorem rd_stepsS (row : RowAt K H r) (h1 : 0 ≤ i) (h2 : i ≤ 30) (h3 : 1 ≤ j) (h4 : j ≤ 1000)
    (q : ∀ p ss H', Kp H H' → RowAt K H' r → TS' K H' p ss → okFrom 0 ss → (ss.length : Int) ≤ i → (sz ss : Int) ≤ j → okLs ss → Q (.ref p) H') : sp_x_law_steps K [.ref r, .int i, .int j] H Q E :=
  ⟨r, i.toNat, j.toNat, by rw [Int.toNat_of_nonneg (by omega), Int.toNat_of_nonneg (by omega)], row, by omega, by omega, by omega,
    fun p ms ss H' k w a b c d e f g => q p ss H' k w ⟨ms, a, b⟩ c (by omega) (by omega) g⟩
/-! texts -/
theorem rd_listS (h : TS' K H a ss) (q : ∀ p H', Same H H' → SX K H' p ss → Q (.ref p) H') : rListA K [.ref a] H Q := by
  obtain ⟨ms, q1, st⟩ := h
  exact rd_list_tup q1 fun l hl => q l _ (Same.new (Same.refl _) hl) ⟨ms, .inr upd_same, st.mono (Same.new (Same.refl _) hl)⟩
theorem rd_ofSteps (h : SX K H a ss) (ok : okFrom 0 ss) (few : ss.length ≤ 30) (q : ∀ p H', Same H H' → TX K CT CP H' p ss → Q (.ref p) H') : sp_Text_of_steps K CT CP [.ref CT, .ref a] H Q E := by
  obtain ⟨ms, q1, st⟩ := h
  exact ⟨a, ms, ss, rfl, q1.elim .inl (fun z => .inr (SqL.of z)), st, ok, few, fun H' x t S T e => q x H' S ⟨t, T, e⟩⟩
theorem rd_pSize (h : TX K CT CP H a ss) (q : Q (.int (sz ss : Nat)) H) : ∃ a' dx fs, V.ref a = .ref a' ∧ H a' = some (.ins CT dx fs) ∧ sp_Text_size K CT CP [.ref a'] H Q E := by
  obtain ⟨t, T, rfl⟩ := h
  exact rd_prop_at T.insA ⟨a, t, rfl, T, q⟩
theorem rd_pTyped (h : TX K CT CP H a ss) (q : Q (.str (mkS (tyL ss))) H) : ∃ a' dx fs, V.ref a = .ref a' ∧ H a' = some (.ins CT dx fs) ∧ sp_Text_typed_keys K CT CP [.ref a'] H Q E := by
  obtain ⟨t, T, rfl⟩ := h
  exact rd_prop_at T.insA ⟨a, t, rfl, T, q⟩
theorem rd_pSteps (h : TX K CT CP H a ss) (q : ∀ p, TS' K H p ss → Q (.ref p) H) : ∃ a' dx fs, V.ref a = .ref a' ∧ H a' = some (.ins CT dx fs) ∧ sp_Text_steps K CT CP [.ref a'] H Q E := by
  obtain ⟨t, T, rfl⟩ := h
  exact rd_prop_at T.insA ⟨a, t, rfl, T, q _ ⟨t.ms, T.made, T.stp⟩⟩
theorem rd_keyOf (h : TX K CT CP H a ss) (h0 : 0 ≤ i) (h1 : i < sz ss) (q : Q (.int (kat ss i.toNat : Nat)) H) : sp_Text_key_of K CT CP [.ref a, .int i] H Q E := by
  have ok := h.ok
  obtain ⟨t, T, rfl⟩ := h
  exact ⟨a, t, i.toNat, _, by rw [Int.toNat_of_nonneg h0], T, kat_some ok (by omega), q⟩
theorem rd_oCall (h : TX K CT CP H a ss) (h0 : 0 ≤ i) (h1 : i < sz ss) (q : Q (.int (kat ss i.toNat : Nat)) H) : InsA H a CT ∧ sp_Text_call K CT CP [.ref a, .int i] H Q E := ⟨h.insA, rd_keyOf h h0 h1 q⟩
theorem rd_oItem (h : TX K CT CP H a ss) (h0 : 0 ≤ i) (h1 : i < sz ss) (q : Q (.str ⟨#[lat ss (kat ss i.toNat)]⟩) H) : ∃ a', V.ref a = .ref a' ∧ InsA H a' CT ∧ sp_Text_getitem K CT CP [.ref a, .int i] H Q E := by
  have ok := h.ok
  have hi : i.toNat < sz ss := by omega
  have hk := kat_lt ok hi
  obtain ⟨t, T, rfl⟩ := h
  exact ⟨a, rfl, T.insA, a, t, i.toNat, _, _, by rw [Int.toNat_of_nonneg h0], T, kat_some ok hi, lat_some hk, q⟩
theorem join_ok (h : TX K CT CP H a ss) (g : TX K CT CP H' b tt) (hz : sz ss + sz tt ≤ 1000000000000000000) : okFrom 0 (joinS ss tt) := ok_join h.ok g.ok hz
theorem rd_opAdd (h : TX K CT CP H a ss) (g : TX K CT CP H b tt) (hz : sz ss + sz tt ≤ 1000000000000000000) (hl : ss.length + tt.length ≤ 30)
    (q : ∀ p H', Same H H' → TX K CT CP H' p (joinS ss tt) → Q (.ref p) H') : rOwn CT (sp_Text_add K CT CP) E (.ref a) (.ref b) H Q := by
  have j := join_ok h g hz
  have ia := h.insA
  have ib := g.insA
  obtain ⟨t, T, rfl⟩ := h
  obtain ⟨u, U, rfl⟩ := g
  exact rd_own ia ib ⟨a, b, t, u, rfl, T, U, j, by rw [join_length]; exact hl, fun H' x z S Z e => q x H' S ⟨z, Z, e⟩⟩
theorem rd_opMul (h : TX K CT CP H a ss) (h1 : 1 ≤ i) (h2 : i ≤ 1000000000) (hz : (sz ss : Int) * i ≤ 1000000000000000000) (hl : ss.length + 1 ≤ 30)
    (q : ∀ p H', Same H H' → TX K CT CP H' p (mulS ss i.toNat) → Q (.ref p) H') : rOwnI CT (sp_Text_mul K CT CP) E (.ref a) (.int i) H Q := by
  have ok := h.ok
  have ia := h.insA
  obtain ⟨n, rfl⟩ : ∃ n : Nat, i = n := ⟨i.toNat, by omega⟩
  rw [Int.toNat_natCast] at q
  obtain ⟨t, T, rfl⟩ := h
  refine rd_ownI ia ⟨a, t, n, rfl, T, by omega, by omega, ok_mul ok (by omega) (by omega) (by rw [← Int.natCast_mul] at hz; omega), Nat.le_trans (mul_length _ _) hl, fun H' x z S Z e => q x H' S ⟨z, Z, e⟩⟩
theorem rd_mRetyped {k c : Nat} (h : TX K CT CP H a ss) (hk : k < (tyL ss).length) (hc : 97 ≤ c ∧ c ≤ 122) (q : ∀ p H', Same H H' → TX K CT CP H' p (rt k c 0 ss) → Q (.ref p) H') : sp_Text_retyped K CT CP [.ref a, .int (k : Nat), .str ⟨#[c]⟩] H Q E := by
  obtain ⟨t, T, rfl⟩ := h
  exact ⟨a, t, k, c, rfl, T, hk, hc.1, hc.2, fun H' x z S Z e => q x H' S ⟨z, Z, e⟩⟩
theorem rd_opEq (h : TX K CT CP H a ss) (g : TX K CT CP H b tt) (q : Q (.bl (decide (ss = tt))) H) : rEqO K CT (sp_Text_eq K CT CP) E (.ref a) (.ref b) H Q := by
  have ia := h.insA
  have ib := g.insA
  obtain ⟨t, T, rfl⟩ := h
  obtain ⟨u, U, rfl⟩ := g
  exact rd_eqO ia ib ⟨a, b, t, rfl, T, .inl ⟨u, U, q⟩⟩
theorem rd_opEqT (h : TX K CT CP H a ss) (g : TS' K H b tt) (q : Q (.bl false) H) : rEqO K CT (sp_Text_eq K CT CP) E (.ref a) (.ref b) H Q := by
  have ia := h.insA
  obtain ⟨t, T, rfl⟩ := h
  obtain ⟨ms, g, _⟩ := g
  exact rd_eqOT ia g ⟨a, b, t, rfl, T, .inr ⟨ms, g, q⟩⟩
theorem rd_opNe (h : TX K CT CP H a ss) (g : TX K CT CP H b tt) (q : Q (.bl (!decide (ss = tt))) H) : rNeO CT (sp_Text_eq K CT CP) E (.ref a) (.ref b) H Q := by
  have ia := h.insA
  have ib := g.insA
  obtain ⟨t, T, rfl⟩ := h
  obtain ⟨u, U, rfl⟩ := g
  exact rd_neO ia ib ⟨a, b, t, rfl, T, .inl ⟨u, U, _, rfl, q⟩⟩
def inTx (v : V) (ss : List Stp) : Bool := match v with | .str x => (tl x).all fun c => (tyL ss).contains c | _ => false
theorem rd_oContains (h : TX K CT CP H a ss) (hv : NoSeq v) (hz : ∀ x, v = .str x → x.length ≤ sizeLine) (q : Q (.bl (isLet v && inTx v ss)) H) : rInOwn CT (sp_Text_contains K CT CP) E v (.ref a) H Q := by
  have ia := h.insA
  obtain ⟨t, T, rfl⟩ := h
  exact rd_inOwn ia ⟨a, t, v, rfl, T, hv, hz, _, rfl, q⟩
theorem rd_isText (h : TX K CT CP H a ss) (g : TS' K H b ss) (hz : sz ss ≤ 16000) (q : ∀ H', Same H H' → Q (.bl true) H') : sp_x_law_is_text K CT CP [.ref a, .ref b] H Q E := by
  obtain ⟨t, T, rfl⟩ := h
  obtain ⟨ms, g, st⟩ := g
  exact ⟨a, b, t, ms, rfl, T, g, st, hz, q⟩
theorem rd_sumS (h : TS' K H a ss) (g : TS' K H b tt) (ok : okFrom 0 ss) (few : ss.length ≤ 31) (hz : sz ss ≤ 16000) (few2 : tt.length ≤ 31) (q : ∀ p H', Same H H' → TS' K H' p (joinS ss tt) → Q (.ref p) H') : sp_x_law_sum K [.ref a, .ref b] H Q E := by
  obtain ⟨ms, h1, st1⟩ := h
  obtain ⟨ns, h2, st2⟩ := g
  exact ⟨a, b, ms, ns, ss, tt, rfl, h1, st1, ok, few, hz, h2, st2, few2, fun p xs H' S a b => q p H' S ⟨xs, a, b⟩⟩
theorem rd_keysS (h : TS' K H a ss) (ok : okFrom 0 ss) (few : ss.length ≤ 31) (hz : sz ss ≤ 16000) (q : ∀ p l H', Same H H' → H' p = some (.tup [.ref l, .str (mkS (tyL ss))]) → H' l = some (.lst (natV (ks ss))) → Q (.ref p) H') : sp_x_law_keys K [.ref a] H Q E := by
  obtain ⟨ms, h1, st1⟩ := h
  exact ⟨a, ms, ss, rfl, h1, st1, ok, few, hz, q⟩
theorem rd_andrfl {α : Type} {x : α} {A : Prop} (h : A) : x = x ∧ A := ⟨rfl, h⟩
theorem rd_mTx {m : Str} {ta : TA} {sp : Sp} {σ : St} (h : TX K CT CP H a ss) (hm : m ≠ "total" ∧ m ≠ "parts" ∧ m ≠ "typed" ∧ m ≠ "made") (q : ta σ H fun vs H2 => sp (.ref a :: vs) H2 Q E) : ∃ a', V.ref a = .ref a' ∧ InsM H a' CT m ∧ ta σ H fun vs H2 => sp (V.ref a :: vs) H2 Q E := rd_m_at (h.insM hm) q
theorem rd_lenN {l : Addr} (h : H l = some (.lst (natV L))) (q : Q (.int (L.length : Nat)) H) : rLenA K [.ref l] H Q := rd_len_lst (SqL.of h) (by rw [natV_len]; exact q)
theorem rd_lenL {l : Addr} (h : H l = some (.lst xs)) (q : Q (.int (xs.length : Nat)) H) : rLenA K [.ref l] H Q := rd_len_lst (SqL.of h) q
theorem rd_lenS {y : List Nat} (hz : y.length ≤ 16777216) (q : Q (.int (y.length : Nat)) H) : rLenA K [.str (mkS y)] H Q := rd_len_str (by rw [mkS_len, sizeLine_eq]; exact hz) (by rw [mkS_len]; exact q)
theorem rd_ixN {l : Addr} (h : H l = some (.lst (natV L))) (h0 : 0 ≤ i) (h1 : i < L.length) (q : Q (.int (L[i.toNat]?.getD 0 : Nat)) H) : rIx K (.ref l) (.int i) H Q := by
  obtain ⟨n, rfl⟩ : ∃ n : Nat, i = n := ⟨i.toNat, by omega⟩
  rw [Int.toNat_natCast] at q
  refine rd_ixLn (SqL.of h) ?_ q
  unfold natV
  rw [List.getElem?_map, List.getElem?_eq_getElem (by omega)]
  rfl
theorem rd_ixC {y : List Nat} (hz : y.length ≤ 16777216) (h0 : 0 ≤ i) (h1 : i < y.length) (q : Q (.str ⟨#[y[i.toNat]?.getD 0]⟩) H) : rIx K (.str (mkS y)) (.int i) H Q := by
  obtain ⟨n, rfl⟩ : ∃ n : Nat, i = n := ⟨i.toNat, by omega⟩
  rw [Int.toNat_natCast] at q
  refine rd_ixSn (by rw [mkS_len, sizeLine_eq]; exact hz) ?_ q
  rw [tl_mkS, List.getElem?_eq_getElem (by omega)]
  rfl
theorem rd_eqTT (h : TS' K H a ss) (g : TS' K H b tt) (o1 : okFrom 0 ss) (o2 : okFrom 0 tt) (q : Q (.bl (decide (ss = tt))) H) : rEqA K (.ref a) (.ref b) H Q := by
  obtain ⟨ms, h1, st1⟩ := h
  obtain ⟨ns, h2, st2⟩ := g
  refine rd_eq_dat (.tup h1 st1.dp) (.tup h2 st2.dp) (steps_dok o1).shaped (steps_dok o2).shaped ?_
  simp only [PyData.eqv]
  rw [stDs_eq]
  exact q
theorem rd_neTT (h : TS' K H a ss) (g : TS' K H b tt) (o1 : okFrom 0 ss) (o2 : okFrom 0 tt) (q : Q (.bl (!decide (ss = tt))) H) : rNeA K (.ref a) (.ref b) H Q := by
  obtain ⟨ms, h1, st1⟩ := h
  obtain ⟨ns, h2, st2⟩ := g
  refine rd_ne_dat (.tup h1 st1.dp) (.tup h2 st2.dp) (steps_dok o1).shaped (steps_dok o2).shaped ?_
  simp only [PyData.eqv]
  rw [stDs_eq]
  exact q
theorem ts_nil {p : Addr} (e : H p = some (.tup [])) : TS' K H p [] := ⟨[], SqT.of e, StepsAt.nil⟩
theorem rd_catTS (h : TS' K H a ss) (g : TS' K H b tt) (hz : ss.length + tt.length ≤ 16777216) (q : ∀ p H', Same H H' → TS' K H' p (ss ++ tt) → Q (.ref p) H') : rCatA K (.ref a) (.ref b) H Q := by
  obtain ⟨ms, h1, st1⟩ := h
  obtain ⟨ns, h2, st2⟩ := g
  refine ⟨a, b, ms, ns, rfl, rfl, h1, h2, by rw [st1.1, st2.1, sizeLine_eq]; exact hz, fun e => ?_, fun _ e => ?_, fun _ _ => new_of fun p H' S e => q p H' S ⟨ms ++ ns, SqT.of e, (st1.mono S).append (st2.mono S)⟩⟩
  · have : ss = [] := List.eq_nil_of_length_eq_zero (by rw [← st1.1, e]; rfl)
    subst this
    exact q _ _ (Same.refl _) ⟨ns, h2, st2⟩
  · have : tt = [] := List.eq_nil_of_length_eq_zero (by rw [← st2.1, e]; rfl)
    subst this
    rw [List.append_nil] at q
    exact q _ _ (Same.refl _) ⟨ms, h1, st1⟩
/-! joined signs -/
def sgn (c : Nat) : Str := ⟨#[c]⟩
theorem joinL_one : ∀ l : List Nat, joinL [] (l.map fun c => [c]) = l
  | [] => rfl
  | [_] => rfl
  | x :: y :: r => by
    show [x] ++ ([] ++ joinL [] ((y :: r).map fun c => [c])) = x :: y :: r
    rw [joinL_one (y :: r)]; rfl
theorem join_signs (l : List Nat) : Txt.join "" (l.map sgn) = mkS l := by
  apply ext_tl
  rw [join_eq, tl_join, List.map_map, show tl ("" : Str) = [] from rfl, tl_mkS]
  exact joinL_one l
theorem sum_ones (l : List Nat) : ((l.map sgn).map (·.length)).sum = l.length := by
  induction l with
  | nil => rfl
  | cons x l ih =>
    simp only [List.map_cons, List.sum_cons, List.length_cons] at ih ⊢
    rw [ih, show (sgn x).length = 1 from rfl]; omega
def sgV (l : List Nat) : List V := l.map fun c => V.str ⟨#[c]⟩
theorem rd_joinS {l : Addr} (h : H l = some (.lst (sgV L))) (hz : L.length ≤ 16777216) (q : Q (.str (mkS L)) H) : rJoin K (.str "") [.ref l] H Q := by
  refine ⟨"", l, L.map sgn, rfl, rfl, .inl (SqL.of (by rw [h]; unfold sgV; rw [List.map_map]; rfl)), ?_, by rw [join_signs]; exact q⟩
  rw [sum_ones, show ("" : Str).length = 0 from rfl]; omega
theorem kp_natV {l : Addr} (h : H l = some (.lst (natV L))) (k : Kp H H') : H' l = some (.lst (natV L)) := k _ _ nr_natV h
theorem nr_sgV : ¬ isRow (.lst (sgV L)) := nr_vals fun v hv => by obtain ⟨i, _, rfl⟩ := List.mem_map.mp hv; rfl
theorem kp_sgV {l : Addr} (h : H l = some (.lst (sgV L))) (k : Kp H H') : H' l = some (.lst (sgV L)) := k _ _ nr_sgV h
theorem dp_natV {l : Addr} (h : H l = some (.lst (natV L))) : Dp K H (.ref l) (.list (L.map fun m => PyData.int (m : Nat))) := .lst (SqL.of h) dp_nats
theorem nat_eqv : ∀ a b : List Nat, PyData.eqvAll (a.map fun m => PyData.int (m : Nat)) (b.map fun m => PyData.int (m : Nat)) = decide (a = b)
  | [], [] => by simp [PyData.eqvAll]
  | [], _ :: _ => by simp [PyData.eqvAll]
  | _ :: _, [] => by simp [PyData.eqvAll]
  | x :: a, y :: b => by
    simp only [List.map_cons, PyData.eqvAll, nat_eqv a b, PyData.eqv]
    by_cases h : x = y <;> by_cases h2 : a = b <;> simp [h, h2]
    omega
theorem sg_eqv : ∀ a b : List Nat, PyData.eqvAll (a.map fun c => PyData.str ⟨#[c]⟩) (b.map fun c => PyData.str ⟨#[c]⟩) = decide (a = b)
  | [], [] => by simp [PyData.eqvAll]
  | [], _ :: _ => by simp [PyData.eqvAll]
  | _ :: _, [] => by simp [PyData.eqvAll]
  | x :: a, y :: b => by
    simp only [List.map_cons, PyData.eqvAll, sg_eqv a b, PyData.eqv]
    by_cases h : x = y <;> by_cases h2 : a = b <;> simp [h, h2]
theorem rd_neNN {l m : Addr} {M : List Nat} (h : H l = some (.lst (natV L))) (g : H m = some (.lst (natV M))) (q : Q (.bl (!decide (L = M))) H) : rNeA K (.ref l) (.ref m) H Q :=
  rd_ne_dat (dp_natV h) (dp_natV g) (nats_dok.shaped (by decide)) (nats_dok.shaped (by decide)) (by simp only [PyData.eqv]; rw [nat_eqv]; exact q)
theorem rd_eqNN {l m : Addr} {M : List Nat} (h : H l = some (.lst (natV L))) (g : H m = some (.lst (natV M))) (q : Q (.bl (decide (L = M))) H) : rEqA K (.ref l) (.ref m) H Q :=
  rd_eq_dat (dp_natV h) (dp_natV g) (nats_dok.shaped (by decide)) (nats_dok.shaped (by decide)) (by simp only [PyData.eqv]; rw [nat_eqv]; exact q)
theorem dp_sgV {l : Addr} (h : H l = some (.lst (sgV L))) : Dp K H (.ref l) (.list (L.map fun c => PyData.str ⟨#[c]⟩)) := .lst (SqL.of h) dp_strs
theorem rd_neSS {l m : Addr} {M : List Nat} (h : H l = some (.lst (sgV L))) (g : H m = some (.lst (sgV M))) (b1 : ∀ c ∈ L, c ≤ 122) (b2 : ∀ c ∈ M, c ≤ 122) (q : Q (.bl (!decide (L = M))) H) : rNeA K (.ref l) (.ref m) H Q :=
  rd_ne_dat (dp_sgV h) (dp_sgV g) ((strs_dok b1).shaped (by decide)) ((strs_dok b2).shaped (by decide)) (by simp only [PyData.eqv]; rw [sg_eqv]; exact q)
/-! a walk of a list of numbers; comprehensions over it or over a range -/
theorem plain_nat {l : Addr} (h : H l = some (.lst (natV L))) : Plain (Itl K l) L.length (fun i => .int (L[i]?.getD 0 : Nat)) H where
  stop := fun H1 s => ⟨natV L, SqL.of (s _ _ h), by rw [natV_len]; exact Nat.le_refl _⟩
  go := fun i H1 s hi => ⟨natV L, .int (L[i]?.getD 0 : Nat), SqL.of (s _ _ h), by unfold natV; rw [List.getElem?_map, List.getElem?_eq_getElem hi]; rfl⟩
  yld := fun i H1 x H2 s hi y => ⟨y.1, by
    have e := y.2 _ (SqL.of (s _ _ h))
    unfold natV at e
    rw [List.getElem?_map, List.getElem?_eq_getElem hi] at e
    rw [List.getElem?_eq_getElem hi]
    exact (Option.some.inj e).symm⟩
theorem range_mapN (L : List Nat) (g : Nat → V) : (List.range L.length).map (fun i => g (L[i]?.getD 0)) = L.map g := by
  apply List.ext_getElem
  · simp
  · intro i h1 h2
    simp only [List.length_map, List.length_range] at h1 h2
    simp [List.getElem?_eq_getElem h1]
/-- the letters of all places -/
def ls (ss : List Stp) : List Nat := (ks ss).map (lat ss)
theorem range_kat (ss : List Stp) (ok : okFrom 0 ss) (g : Nat → V) : (List.range (sz ss)).map (fun i => g (kat ss i)) = (ks ss).map g := by
  have := range_mapN (ks ss) g
  rw [ks_len ok] at this
  exact this
theorem ls_let (ok : okFrom 0 ss) {c : Nat} (h : c ∈ ls ss) : 97 ≤ c ∧ c ≤ 122 := by
  unfold ls at h
  obtain ⟨k, hk, rfl⟩ := List.mem_map.mp h
  exact lat_let ok (ks_lt hk)
theorem rd_join {st : TS} {nx ct bk : St → Hp → Prop} {rt : VK} {σ : St} (J : St → Hp → Prop) (hj : ∀ σ H, J σ H → nx σ H) (h : ∀ N : St → Hp → Prop, (∀ σ H, J σ H → N σ H) → st ⟨N, rt, bk, ct⟩ σ H) : st ⟨nx, rt, bk, ct⟩ σ H := h nx hj
theorem rd_join1 {st : TS} {nx ct bk : St → Hp → Prop} {rt : VK} {σ : St} (n : Nat) (J : V → Hp → Prop) (hj : ∀ v H', J v H' → nx (σ.set n (some v)) H') (h : ∀ N : St → Hp → Prop, (∀ v H', J v H' → N (σ.set n (some v)) H') → st ⟨N, rt, bk, ct⟩ σ H) : st ⟨nx, rt, bk, ct⟩ σ H := h nx hj
/-- a new object o of n items -/
def rNew (n : Nat) (o : HO) (H1 : Hp) (Q : VK) : Prop := n ≤ sizeLine ∧ ∀ p, H1 p = none → Q (.ref p) (upd H1 p o)
theorem rd_tupN {t : TA} {σ : St} (h : t σ H fun xs H1 => rNew xs.length (.tup xs) H1 Q) : tTup t σ H Q := h
theorem rd_lstN {t : TA} {σ : St} (h : t σ H fun xs H1 => rNew xs.length (.lst xs) H1 Q) : tLst t σ H Q := h
theorem rd_new {n : Nat} (hz : n ≤ sizeLine) (q : ∀ p H', Same H H' → H' p = some o → H p = none → Q (.ref p) H') : rNew n o H Q := ⟨hz, fun p hp => q p _ (Same.new (Same.refl _) hp) upd_same hp⟩
theorem oEqOK {X : Cx} {CX : CXT} {k : Nat} {C : Addr} {sp : Sp} {E : XK} (hk : X.K = K) (G : XOk X.prog X.w X.K X.mg X.base CX k (EOwn X.K C) sp) (hr : Room k X.A) (hx : Passes CX X E) : OpR X (compareOp .Eq) (rEqO K C sp E) := by
  subst hk
  exact oEqO G hr hx
theorem rd_nameE {n : Nat} {σ σ' : St} {R : St → Hp → Prop} (e : σ.set n (some v) = σ') (h : R σ' H) : gName n v σ H R := by subst e; exact h
theorem rd_exStr {x : Str} {A : Prop} (h : A) : (∃ a, V.str x = .str a) ∧ A := ⟨⟨x, rfl⟩, h⟩
theorem rd_iNat {l : Addr} {A : Prop} (h : H l = some (.lst (natV L))) (q : A) : (∃ xs, SqL K H l xs) ∧ A := ⟨⟨_, SqL.of h⟩, q⟩
theorem rd_startE {N : List Str} {vs : List V} {σ' : St} {D : Ends} {t : TS} (e : start N vs = σ') (h : t D σ' H) : t D (start N vs) H := by subst e; exact h
/-- the inner block of the statement i -/
def blkAt (l : List Stmt) (i : Nat) : List Stmt := match l[i]? with
  | some (.If _ b _ _) => b
  | some (.For _ _ b _ _) => b
  | some (.While _ b _ _) => b
  | _ => []
theorem len1_pos {s : Stp} {n : Nat} (h : okStep n s) : 1 ≤ len1 s := by
  cases s with
  | wr w => exact h.1
  | pa f l t =>
    obtain ⟨a, b, c, d⟩ := h
    show 1 ≤ (l - f + 1) * t
    exact Nat.mul_pos (by omega) c
theorem sz_nil {n : Nat} (ok : okFrom n ss) (h : sz ss = 0) : ss = [] := by
  cases ss with
  | nil => rfl
  | cons s r =>
    have := len1_pos ok.1
    simp only [sz] at h
    omega
theorem ty_pos {n : Nat} (ok : okFrom 0 ss) (h : 1 ≤ sz ss) : 1 ≤ (tyL ss).length := by
  cases ss with
  | nil => simp [sz] at h
  | cons s r =>
    cases s with
    | wr w => have := ok.1.1; simp only [tyL, ty1, List.length_append, ← len_tl]; omega
    | pa f l t => have := ok.1.2.1; omega
end
end L2.Px

set_option Elab.async false
set_option linter.all false
set_option maxRecDepth 100000
set_option maxHeartbeats 1000000
/-! the end of a law: what the top leaves, field by field -/
namespace L2.Px
open PySem PySem.Spec PyProof.Rows StX ClX
theorem walk_ofX {l : PySem.W.OpenLaw} {n k : Nat} {q : Program} {loose : List Str} {XP : (Str → Option Value) → Heap → Prop} {YP : World → Heap → Prop} {d : DefRec} {K : Params → PySem.W.Frag} {x : Str}
    (hn : l.most = some n) (hn2 : n ≤ sizeLine) (hdf : d.params.defaults = []) (hr : Room k callerA) (hY : ∀ (w : World) (h : Heap), YP w h → (K w.params).In h)
    (F : ∀ (w : World) (mg : Str → Option Value) (fa : Addr) (h : Heap), (K w.params).In h → h.Ns mainGlobals mg → XP mg h → mg d.name = some (.ref fa) →
      ∃ fd : FuncData, (∀ (s : Shared) (u : Value), BindsTo s fd ⟨[u], []⟩ [(x, u)]) ∧
        ∀ base : Heap, (K w.params).In base → base.Ns mainGlobals mg → FnOk l.prog w (K w.params) mg base CX0 k fa fd [x] (sp_law (K w.params))) :
    PySem.W.WalkO q loose XP YP l.row.toRowW d [] (fun f vs => PySem.call f vs) := by
  refine Att.attach_call hn hdf fun w s0 s1 mg mb fa o pm cd doc a vs ns G Y ho hd hcd hmg hobj hints hlen hg => ?_
  have KX := hY w _ Y
  obtain ⟨fd, hb, hF⟩ := F w mg fa _ KX G.T.g G.X hmg
  exact law_call KX G.T.g G.T.b G.T.builtins G.T.nolimit hg hobj hints (Nat.le_trans hlen hn2) hr hF hb (fun H hO hS => ⟨a, ns, rfl, hS, fun _ => rfl⟩) fun H e s' z => z
section
variable {K : PySem.W.Frag} {h : Heap} {mg : Str → Option Value} {x m qual : Str} {st : Stmt} {ps : List Str} {C D f p g : Addr} {oc kV dc pm cd ct mc : Value} {od an : Option Addr} {sl : Array (Option Value)} {pv : Str} {rest : List Value}
/-- how a def binds n plain arguments -/
def BF (x qual : Str) (st : Stmt) (ps : List Str) : Prop := ∀ (kV doc pm : Value) (an : Option Addr) (cdv ct : Value) (us : List Value), us.length = ps.length → bindArgs (PySem.W.fnOf x qual (defArgs st) (defBody st) (defScope st) .none kV doc pm an cdv ct) ⟨us, []⟩ = pure (ps.zip us)
def BFS (x qual : Str) (st : Stmt) (ps : List Str) (pv : Str) : Prop := ∀ (kV doc pm : Value) (an : Option Addr) (cdv ct : Value) (us rest : List Value), us.length = ps.length → bindArgs (PySem.W.fnOf x qual (defArgs st) (defBody st) (defScope st) .none kV doc pm an cdv ct) ⟨us ++ rest, []⟩ = (newTuple rest >>= fun t => pure (ps.zip us ++ [(pv, t)]))
/-- the def object at f, as K has it -/
def AtF (K : PySem.W.Frag) (x qual : Str) (st : Stmt) (f : Addr) : Prop := ∃ oc od kV dc pm an cd ct sl, K.lookup f = some ⟨oc, od, .func (PySem.W.fnOf x qual (defArgs st) (defBody st) (defScope st) .none kV dc pm an cd ct), sl⟩ ∧ PySem.W.codeIn K cd qual = true
theorem atF (l : K.lookup f = some ⟨oc, od, .func (PySem.W.fnOf x qual (defArgs st) (defBody st) (defScope st) .none kV dc pm an cd ct), sl⟩) (c : PySem.W.codeIn K cd qual = true) : AtF K x qual st f := ⟨_, _, _, _, _, _, _, _, _, l, c⟩
theorem AtF.fun (a : AtF K x qual st f) (k : PySem.W.keepIn K (.ref f) = true) : ∃ fd, Fun K x qual st f fd := let ⟨_, _, _, _, _, _, _, _, _, l, c⟩ := a; ⟨_, fun_mk (st := st) l c k⟩
theorem defG_mk (X : K.In h) (G : h.Ns mainGlobals mg) (a : PySem.W.nsIn K mainGlobals x = some (some (.ref f))) (l : AtF K x x st f) (k : PySem.W.keepIn K (.ref f) = true) (b : BF x x st ps) : DefG K mg x st ps := by
  obtain ⟨fd, F⟩ := l.fun k
  exact ⟨f, fd, F, PySem.W.mg_of X G a, F.binds b⟩
theorem defM_mk (at_ : PySem.W.findIn K (.ref C) m = some (some (.ref f))) (fn : PySem.W.isFn K (.ref f) = true) (l : AtF K m qual st f) (k : PySem.W.keepIn K (.ref f) = true) (b : BF m qual st ps) : DefM K C m qual st ps := by
  obtain ⟨fd, F⟩ := l.fun k
  exact ⟨f, fd, F, ⟨at_, fn, k⟩, F.binds b⟩
theorem defX_mk {R : Addr → Prop} (r : R f) (l : AtF K m qual st f) (k : PySem.W.keepIn K (.ref f) = true) (b : BF m qual st ps) : DefX K R m qual st ps := by
  obtain ⟨fd, F⟩ := l.fun k
  exact ⟨f, fd, F, r, F.binds b⟩
theorem defP_mk (at_ : PySem.W.findIn K (.ref C) m = some (some (.ref p))) (get : PySem.W.specialIn K (.ref p) "__get__" = some (some (.builtin "property.__get__"))) (tak : PySem.W.takesIn K (.ref p) = some true) (rc : PySem.W.recIn K p "property" = some (.ref g :: rest))
    (l : AtF K m qual st g) (k : PySem.W.keepIn K (.ref g) = true) (b : BF m qual st ["self"]) : DefP K C m qual st := by
  obtain ⟨fd, F⟩ := l.fun k
  exact ⟨p, g, fd, F, ⟨at_, get, tak, rest, rc⟩, F.binds b⟩
theorem defC_mk (rd : PySem.W.readsIn K C mc = true) (ga : PySem.W.specialIn K (.ref C) "__getattribute__" = some (some (.builtin "type.__getattribute__"))) (at_ : PySem.W.findCls K (.ref C) mc m = some (.get (.builtin "classmethod.__get__") (.ref p) .none (.ref C)))
    (rc : PySem.W.recIn K p "classmethod" = some (.ref g :: rest)) (fi : PySem.W.fnIn K g = true) (l : AtF K m qual st g) (k : PySem.W.keepIn K (.ref g) = true) (b : BF m qual st ps) : DefC K C m qual st ps := by
  obtain ⟨fd, F⟩ := l.fun k
  exact ⟨mc, p, g, fd, F, ⟨rd, ga⟩, ⟨at_, ⟨rest, rc⟩, fi⟩, F.binds b⟩
theorem defK_mk (mk : PySem.W.makesIn K C = true) (at_ : PySem.W.findIn K (.ref C) "__init__" = some (some (.ref f))) (fn : PySem.W.isFn K (.ref f) = true) (kc : PySem.W.keepIn K (.ref C) = true) (l : AtF K "__init__" qual st f) (k : PySem.W.keepIn K (.ref f) = true) (b : BF "__init__" qual st ps) : DefK K C qual st ps := by
  obtain ⟨fd, F⟩ := l.fun k
  exact ⟨f, fd, F, ⟨mk, at_, fn, kc⟩, F.binds b⟩
theorem defKS_mk (mk : PySem.W.makesIn K C = true) (at_ : PySem.W.findIn K (.ref C) "__init__" = some (some (.ref f))) (fn : PySem.W.isFn K (.ref f) = true) (kc : PySem.W.keepIn K (.ref C) = true) (l : AtF K "__init__" qual st f) (k : PySem.W.keepIn K (.ref f) = true) (b : BFS "__init__" qual st ps pv) : DefKS K C qual st ps pv := by
  obtain ⟨oc, od, kV, dc, pm, an, cd, ct, sl, l, c⟩ := l
  exact ⟨f, _, fun_mk (st := st) l c k, ⟨mk, at_, fn, kc⟩, fun us rest hl => b kV dc pm an cd ct us rest hl⟩
theorem loose_int {p : Program} {lv : List (Str × PySem.W.WData)} {i : Int} (XL : PySem.W.XL p lv mg h) (hm : (x, PySem.W.WData.int i) ∈ lv) : ∃ t, mg x = some (.int i t) := by
  obtain ⟨v, e, r⟩ := XL.2.val _ hm
  cases r
  exact ⟨_, e⟩
theorem const_int {i : Int} {t : Tok} (X : K.In h) (G : h.Ns mainGlobals mg) (a : PySem.W.nsIn K mainGlobals x = some (some (.int i t))) : ∃ t, mg x = some (.int i t) := ⟨t, PySem.W.mg_of X G a⟩
theorem const_str {z : Str} {t : Tok} (X : K.In h) (G : h.Ns mainGlobals mg) (a : PySem.W.nsIn K mainGlobals x = some (some (.str z t))) : ∃ t, mg x = some (.str z t) := ⟨t, PySem.W.mg_of X G a⟩
theorem kit_self : PySem.W.kitOne K (.ref C) (.ref C) = some true := if_pos (by simp)
theorem kit_type {T : String} {b : Bool} (h1 : PySem.W.isClsIn K C = true) (h2 : PySem.W.typeIn K (.ref C) = some (.type "type")) (h3 : PySem.W.subIn K (.type T) (.ref C) = some b) : PySem.W.kitOne K (.type T) (.ref C) = some b := by
  unfold PySem.W.kitOne
  rw [if_neg (by simp)]
  rw [show PySem.W.kitCls K (.type T) (.ref C) = (if ((PySem.W.clsIn K C).isSome && PySem.W.typeIn K (.ref C) == some (.type "type")) = true then PySem.W.subIn K (.type T) (.ref C) else none) from rfl, if_pos (by rw [Bool.and_eq_true]; exact ⟨h1, by rw [h2]; simp⟩)]
  exact h3
theorem kit_cls2 {b : Bool} (hn : C ≠ D) (h1 : PySem.W.isClsIn K D = true) (h2 : PySem.W.typeIn K (.ref D) = some (.type "type")) (h3 : PySem.W.subIn K (.ref C) (.ref D) = some b) : PySem.W.kitOne K (.ref C) (.ref D) = some b := by
  unfold PySem.W.kitOne
  rw [if_neg (by simp [hn])]
  rw [show PySem.W.kitCls K (.ref C) (.ref D) = (if ((PySem.W.clsIn K D).isSome && PySem.W.typeIn K (.ref D) == some (.type "type")) = true then PySem.W.subIn K (.ref C) (.ref D) else none) from rfl, if_pos (by rw [Bool.and_eq_true]; exact ⟨h1, by rw [h2]; simp⟩)]
  exact h3
end
end L2.Px

set_option Elab.async false
set_option linter.all false
set_option maxRecDepth 100000
set_option maxHeartbeats 2000000
/-! lambdas: made, kept, run by a def that gets them -/
namespace L2.Px
open PySem PySem.Spec PyProof.Rows StX LamX

/-! ### all but rows and tables of code -/
structure Kl (T : List (Addr × Str)) (H H' : Hp) : Prop where
  keep : ∀ b o, ¬ isRow o → (∀ ps, o ≠ .tbl ps) → H b = some o → H' b = some o
  rows : ∀ (b sa : Addr) (i s e : Int), H b = some (.lst [.ref sa, .int i, .int s, .int e]) → ∃ i' s' e' : Int, H' b = some (.lst [.ref sa, .int i', .int s', .int e'])
  tabs : Tabs T H → Tabs T H'
section
variable {T : List (Addr × Str)} {H H' H1 : Hp}
theorem Kl.refl : Kl T H H := ⟨fun _ _ _ _ h => h, fun _ _ _ _ _ h => ⟨_, _, _, h⟩, id⟩
theorem Kl.trans (a : Kl T H H1) (b : Kl T H1 H') : Kl T H H' := ⟨fun c o hc hn h => b.keep c o hc hn (a.keep c o hc hn h), fun c sa i s e h => let ⟨i', s', e', h'⟩ := a.rows c sa i s e h; b.rows c sa i' s' e' h', fun t => b.tabs (a.tabs t)⟩
theorem tabS_kp {P : Addr} {q : Str} (t : TabS H P q) (e : Kp H H') : TabS H' P q :=
  let ⟨ps, a, b, d⟩ := t
  ⟨ps, e _ _ id a, b, fun pos cv hc => let ⟨c, x, y⟩ := d pos cv hc; ⟨c, x, e _ _ id y⟩⟩
theorem Kl.kp (e : Kp H H') : Kl T H H' := ⟨fun b o hr _ h => e b o hr h, e.rows, fun t p hp => tabS_kp (t p hp) e⟩
theorem Kl.same (e : Same H H') : Kl T H H' := .kp (.same e)
theorem Kl.ext (e : ExtN H H') (t : Tabs T H') : Kl T H H' := ⟨fun b o _ hn h => e b o h hn, fun b sa i s n h => ⟨_, _, _, e _ _ h fun ps z => nomatch z⟩, fun _ => t⟩
theorem Kl.tup {K : PySem.W.Frag} {a : Addr} {xs : List V} (e : Kl T H H') (h : SqT K H a xs) : SqT K H' a xs := by
  rcases h with (h | ⟨o, h⟩) | h
  · exact .inl (.inl (e.keep _ _ nr_tup (fun ps z => nomatch z) h))
  · exact .inl (.inr ⟨o, e.keep _ _ nr_frz (fun ps z => nomatch z) h⟩)
  · exact .inr h
theorem Kl.lst {K : PySem.W.Frag} {a : Addr} {xs : List V} (e : Kl T H H') (n : ¬ isRow (.lst xs)) (h : SqL K H a xs) : SqL K H' a xs := by
  rcases h with (h | ⟨o, h⟩) | h
  · exact .inl (.inl (e.keep _ _ n (fun ps z => nomatch z) h))
  · exact .inl (.inr ⟨o, e.keep _ _ nr_frz (fun ps z => nomatch z) h⟩)
  · exact .inr h
end

/-- all but tables of code -/
structure Kx (T : List (Addr × Str)) (H H' : Hp) : Prop where
  keep : ∀ b o, (∀ ps, o ≠ .tbl ps) → H b = some o → H' b = some o
  tabs : Tabs T H → Tabs T H'
section
variable {T : List (Addr × Str)} {H H' H1 : Hp}
theorem Kx.refl : Kx T H H := ⟨fun _ _ _ h => h, id⟩
theorem Kx.trans (a : Kx T H H1) (b : Kx T H1 H') : Kx T H H' := ⟨fun c o hn h => b.keep c o hn (a.keep c o hn h), fun t => b.tabs (a.tabs t)⟩
theorem Kx.kl (e : Kx T H H') : Kl T H H' := by
  refine ⟨fun b o hr hn h => e.keep b o hn h, fun b sa i s n h => ?_, e.tabs⟩
  exact ⟨i, s, n, e.keep _ _ (fun ps z => nomatch z) h⟩
theorem Kx.same (e : Same H H') : Kx T H H' := ⟨fun b o _ h => e b o h, (Kl.same e).tabs⟩
theorem Kx.ext (e : ExtN H H') (t : Tabs T H') : Kx T H H' := ⟨fun b o hn h => e b o h hn, fun _ => t⟩
theorem Kx.tup {K : PySem.W.Frag} {a : Addr} {xs : List V} (e : Kx T H H') (h : SqT K H a xs) : SqT K H' a xs := e.kl.tup h
theorem Kx.lst {K : PySem.W.Frag} {a : Addr} {xs : List V} (e : Kx T H H') (h : SqL K H a xs) : SqL K H' a xs := by
  rcases h with (h | ⟨o, h⟩) | h
  · exact .inl (.inl (e.keep _ _ (fun ps z => nomatch z) h))
  · exact .inl (.inr ⟨o, e.keep _ _ (fun ps z => nomatch z) h⟩)
  · exact .inr h
theorem Kx.row {K : PySem.W.Frag} {r : Addr} (e : Kx T H H') (h : RowAt K H r) : RowAt K H' r := let ⟨sa, sc, i, s, n, a, b⟩ := h.ex; ⟨sa, sc, i, s, n, e.keep _ _ (fun ps z => nomatch z) a, e.lst b⟩
end

/-! ### a def whose code object is known -/
structure FunC (K : PySem.W.Frag) (x qual : Str) (st : Stmt) (c f : Addr) (fd : FuncData) : Prop where
  ex : ∃ (oc : Value) (od : Option Addr) (kV doc pm : Value) (an : Option Addr) (ct : Value) (osl : Array (Option Value)),
    fd = PySem.W.fnOf x qual (defArgs st) (defBody st) (defScope st) .none kV doc pm an (.ref c) ct ∧ K.lookup f = some ⟨oc, od, .func fd, osl⟩ ∧ PySem.W.codeIn K (.ref c) qual = true
  kp : PySem.W.keepIn K (.ref f) = true
theorem FunC.fn {K : PySem.W.Frag} {x qual : Str} {st : Stmt} {c f : Addr} {fd : FuncData} (F : FunC K x qual st c f fd) : Fun K x qual st f fd :=
  let ⟨oc, od, kV, doc, pm, an, ct, osl, e, l, h⟩ := F.ex
  ⟨⟨oc, od, kV, doc, pm, an, _, ct, osl, e, l, h⟩, F.kp⟩
section
variable {P : Program} {w : World} {K : PySem.W.Frag} {mg : Str → Option Value} {base : Heap}
theorem FunC.ok {x qual : Str} {st : Stmt} {c f : Addr} {fd : FuncData} {N ps : List Str} {k : Nat} {sp : Sp} (F : FunC K x qual st c f fd) (S : FnScope N ps (defScope st)) (len : ∀ vs H Q E, sp vs H Q E → vs.length = ps.length)
    (hbody : ∀ (A : Around) (outer : List Env) (s : Shared) (H : Hp) (vs : List V) (Q : VK) (E : XK), Room k (A.deeper (envOfC qual (defScope st) s.heap.objs.size f (.ref c))) → sp vs H Q E →
      ∃ t, PSs (cxOf CX0 P w K mg base N qual (defScope st) f (.ref c) A outer s H E).nox (defBody st) t ∧ t { nx := fun _ H' => Q .non H', rt := Q } (start N vs) H) : FnOk P w K mg base CX0 (k + 1) f fd ps sp := by
  obtain ⟨oc, od, kV, doc, pm, an, ct, osl, rfl, lk, hcd⟩ := F.ex
  refine fn_of lk hcd S len fun A outer s H vs Q E hr hsp => ?_
  obtain ⟨t, h, q⟩ := hbody A outer s H vs Q E hr hsp
  exact ⟨t, h.nox, q⟩
end
/-- a def of the top, its code object at c -/
def DefGC (K : PySem.W.Frag) (mg : Str → Option Value) (x : Str) (st : Stmt) (ps : List Str) (c : Addr) : Prop := ∃ f fd, FunC K x x st c f fd ∧ mg x = some (.ref f) ∧ Binds K fd ps []
section
variable {P : Program} {w : World} {K : PySem.W.Frag} {mg : Str → Option Value} {base : Heap} {k : Nat} {ps : List Str} {sp : Sp} {x : Str} {st : Stmt} {c : Addr}
theorem DefGC.ok {N : List Str} (D : DefGC K mg x st ps c) (S : FnScope N ps (defScope st)) (len : ∀ vs H Q E, sp vs H Q E → vs.length = ps.length)
    (hbody : ∀ (f : Addr) (A : Around) (outer : List Env) (s : Shared) (H : Hp) (vs : List V) (Q : VK) (E : XK), Room k (A.deeper (envOfC x (defScope st) s.heap.objs.size f (.ref c))) → sp vs H Q E →
      ∃ t, PSs (cxOf CX0 P w K mg base N x (defScope st) f (.ref c) A outer s H E).nox (defBody st) t ∧ t { nx := fun _ H' => Q .non H', rt := Q } (start N vs) H) : GOk P w K mg base CX0 (k + 1) x sp := by
  obtain ⟨f, fd, F, a, b⟩ := D
  exact ⟨f, FnOk.toR (F.ok S len fun A outer s H vs Q E hr h => hbody f A outer s H vs Q E hr h) b, a, F.kp⟩
theorem DefGC.g (D : DefGC K mg x st ps c) : DefG K mg x st ps := let ⟨f, fd, F, a, b⟩ := D; ⟨f, fd, F.fn, a, b⟩
end

/-! ### the lambda's object -/
def lamOb (q : Str) (params : Arguments) (body : Expr) (scope : Scope) (cl : List (Str × Addr)) (dV : Value) (f c' : Addr) : HO :=
  .ext fun h => ∃ doc pm ctv : Value, h.get? f = some (PySem.W.kdv_obj "<lambda>" q params (.expr body) scope cl dV doc pm c' ctv)
/-- its names: captured ones, globals, and parameters bs that the maker does not know -/
structure LamC (N : List Str) (sc scope : Scope) (bs : List Str) : Prop where
  kind : scope.kind = .function
  co : scope.isCoroutine = false
  gen : scope.isGenerator = false
  own : ∀ y ∈ scope.names, y.2 ≠ .cell ∧ (y.2 = .local → y.1 ∉ N)
  free : ∀ y ∈ scope.names, y.2 = .free → sc.names.lookup y.1 = some .cell ∨ sc.names.lookup y.1 = some .free
  par : ∀ y ∈ bs, scope.names.lookup y = some .local
def lamCB (N : List Str) (sc scope : Scope) (bs : List Str) : Bool :=
  decide (scope.kind = .function) && (!scope.isCoroutine && (!scope.isGenerator && ((scope.names.all fun y => !decide (y.2 = .cell) && ((!decide (y.2 = .local) || !decide (y.1 ∈ N)) && (!decide (y.2 = .free) || (decide (sc.names.lookup y.1 = some .cell) || decide (sc.names.lookup y.1 = some .free))))) && bs.all fun y => decide (scope.names.lookup y = some .local))))
theorem lamC_by {N : List Str} {sc scope : Scope} {bs : List Str} (h : lamCB N sc scope bs = true) : LamC N sc scope bs := by
  unfold lamCB at h
  simp only [Bool.and_eq_true, Bool.or_eq_true, Bool.not_eq_true', decide_eq_true_eq, decide_eq_false_iff_not, List.all_eq_true] at h
  obtain ⟨h1, h2, h3, h4, h5⟩ := h
  refine ⟨h1, h2, h3, fun y hy => ⟨(h4 y hy).1, fun e => ((h4 y hy).2.1).elim (fun z => absurd e z) id⟩, fun y hy e => ((h4 y hy).2.2).elim (fun z => absurd e z) id, h5⟩
/-- how it binds nothing: no parameter, or one with a default -/
def LamB (params : Arguments) (body : Expr) (scope : Scope) (dV : Value) (bs : List Str) (H : Hp) : Prop :=
  (dV = .none ∧ bs = [] ∧ ∀ (q : Str) (cl : List (Str × Addr)) (doc pm cv ctv : Value), bindArgs (PySem.W.kdv_fn "<lambda>" q params (.expr body) scope cl .none doc pm cv ctv) ⟨[], []⟩ = pure []) ∨
    ∃ (T : Addr) (v : V) (b : Str), dV = .ref T ∧ bs = [b] ∧ H T = some (.tup [v]) ∧ ∀ (q : Str) (cl : List (Str × Addr)) (doc pm cv ctv u : Value), ∃ kk, bindArgs (PySem.W.kdv_fn "<lambda>" q params (.expr body) scope cl (.ref T) doc pm cv ctv) ⟨[], []⟩ = seqItems? (.ref T) >>= kk ∧ kk (some #[u]) = pure [(b, u)]
/-- at f stands a lambda of X's def whose body reads as t -/
def IsLam (X : Cx) (k : Nat) (t : XK → TE) (f : Addr) (H : Hp) : Prop := ∃ (params : Arguments) (body : Expr) (scope : Scope) (dV : Value) (bs : List Str) (c' : Addr),
  LamC X.N X.env.scope scope bs ∧ H f = some (lamOb (X.env.qual ++ "<lambda>") params body scope (cloFrom X.env.cells scope.names []) dV f c') ∧ H c' = some (CodeO c' (X.env.qual ++ "<lambda>")) ∧ LamB params body scope dV bs H ∧
  ∀ (A : Around) (outer : List Env) (s : Shared) (H1 : Hp) (E : XK), Room k (A.deeper (lamEnv X scope s.heap.objs.size f c')) → PE (lamCx X A outer s H1 E scope f c') body (t E)
theorem IsLam.mono {X : Cx} {k : Nat} {t : XK → TE} {f : Addr} {H H' : Hp} (h : IsLam X k t f H) (e : ∀ b o, ¬ isRow o → (∀ ps, o ≠ .tbl ps) → H b = some o → H' b = some o) : IsLam X k t f H' := by
  obtain ⟨p, b, sc, dV, bs, c', l, h1, h2, h3, h4⟩ := h
  refine ⟨p, b, sc, dV, bs, c', l, e _ _ id (fun ps z => nomatch z) h1, e _ _ id (fun ps z => nomatch z) h2, ?_, h4⟩
  rcases h3 with h3 | ⟨T, v, y, a1, a2, a3, a4⟩
  · exact .inl h3
  · exact .inr ⟨T, v, y, a1, a2, e _ _ nr_tup (fun ps z => nomatch z) a3, a4⟩
theorem IsLam.kl {X : Cx} {k : Nat} {t : XK → TE} {f : Addr} {H H' : Hp} {T : List (Addr × Str)} (h : IsLam X k t f H) (e : Kl T H H') : IsLam X k t f H' := h.mono e.keep
theorem LamC.has {N : List Str} {X : Cx} {scope : Scope} {bs : List Str} (L : LamC N X.env.scope scope bs) (ok : X.Ok) : ∀ y ∈ scope.names, y.2 = .free → ∃ c, X.env.cells.lookup y.1 = some c := fun y hy e =>
  (L.free y hy e).elim (fun k => ok.has _ (.inl k)) fun k => ok.has _ (.inr k)

/-! ### it is made -/
section
variable {X : Cx} {pins : List (Addr × Obj)} {σ : St} {H : Hp} {s : Shared}
theorem lam_ob {q : Str} {params : Arguments} {body : Expr} {scope : Scope} {cl : List (Str × Addr)} {dV doc pm ctv : Value} {c' : Addr} {t' : Nat} (I : Inv X pins σ H s) :
    Inv X pins σ (upd H s.heap.objs.size (lamOb q params body scope cl dV s.heap.objs.size c')) { s with heap := s.heap.push (PySem.W.kdv_obj "<lambda>" q params (.expr body) scope cl dV doc pm c' ctv), toks := t' } := by
  have e := Heap.get?_push_size s.heap (o := PySem.W.kdv_obj "<lambda>" q params (.expr body) scope cl dV doc pm c' ctv) rfl
  exact I.laid (fun b u z => Heap.get?_push_of_some _ z) (Nat.le_refl _) ⟨⟨doc, pm, ctv, e⟩, ⟨_, e⟩, fun _ _ ⟨x, y, z, g⟩ st => ⟨x, y, z, st _ g⟩⟩
theorem lam_tail {T : List (Addr × Str)} {c P : Addr} {params : Arguments} {body : Expr} {scope : Scope} {pos : Pos} {fl : Nat} {dV : Value} {E : Value → Shared → Prop} {Q : Value → Shared → Prop} (I : Inv X pins σ H s) (TB : TabB X.base X.mg c P) (hcode : X.env.code = .ref c)
    (hm : (P, X.env.qual ++ "<lambda>") ∈ T) (hu : ∀ p ∈ T, p.1 = P → p.2 = X.env.qual ++ "<lambda>") (hT : Tabs T H) (hfree : ∀ y ∈ scope.names, y.2 = .free → ∃ c, X.env.cells.lookup y.1 = some c)
    (h : ∀ (f c' : Addr) (H1 : Hp) (s' : Shared), Inv X pins σ H1 s' → Kx T H H1 → H f = none → H1 f = some (lamOb (X.env.qual ++ "<lambda>") params body scope (cloFrom X.env.cells scope.names []) dV f c') → H1 c' = some (CodeO c' (X.env.qual ++ "<lambda>")) → Q (.ref f) s') :
    wpAny (model X.prog X.w) X.A (makeTail "<lambda>" (X.env.qual ++ "<lambda>") params (.expr body) scope X.env dV .none none pos fl) Q E s := by
  obtain ⟨ps, hP, tr, am⟩ := hT _ hm
  have atP : s.heap.get? P = some { cls := .none, data := .fields ps } := I.hok P _ hP
  have gG := I.mod.glob.keeps I.bk
  have bG : s.heap.BuiltinsAt X.mg P := TB.bm.keeps I.bk
  cases hc : codeAmong pos ps.toList with
  | some cv =>
    obtain ⟨c', rfl, hco⟩ := am pos cv hc
    refine PySem.W.kdv_makeTailHit (mg := X.mg) (closure_ok hfree) I.ok.glob gG hcode (TB.code.keeps I.bk) atP tr hc bG fun ctv doc h' tk hx hsz => ?_
    have I1 : Inv X pins σ H { s with heap := h' } := I.kept (t' := s.toks) hx
    have nF : H h'.objs.size = none := I.hok.fresh hsz
    exact h _ c' _ _ (lam_ob (t' := tk) (doc := doc) (pm := (X.mg "__name__").getD .none) (ctv := ctv) I1) (Kx.same (Same.new (Same.refl _) nF)) nF upd_same (lk_new nF hco)
  | none =>
    refine PySem.W.kdv_makeTail (mg := X.mg) (closure_ok hfree) I.ok.glob gG hcode (TB.code.keeps I.bk) atP tr hc TB.gP bG fun c' ctv doc h' tk hx hge hlt hrec htb => ?_
    obtain ⟨c2, oc, vs, t, e2, hoc, hd, hv⟩ := hrec
    obtain rfl := Value.ref.inj e2
    have nC : H c' = none := I.hok.fresh hge
    have hsz : s.heap.objs.size ≤ h'.objs.size := Nat.le_trans hge (Nat.le_of_lt hlt)
    have I1 := inv_table (t' := s.toks) (more := #[rawInt pos.line, rawInt pos.col, .ref c']) (h' := h') I hP hx htb hge ⟨oc, vs, t, hoc, hd, hv⟩
    generalize hH1 : upd (upd H P (.tbl (ps ++ #[rawInt pos.line, rawInt pos.col, .ref c']))) c' (CodeO c' (X.env.qual ++ "<lambda>")) = H1 at I1
    have eN : ExtN H H1 := fun b o e n => by
      have nP : b ≠ P := fun z => n ps (Option.some.inj (e.symm.trans (by rw [z]; exact hP)))
      rw [← hH1, upd_ne (ne_of_none e nC), upd_ne nP]; exact e
    have cN : H1 c' = some (CodeO c' (X.env.qual ++ "<lambda>")) := by rw [← hH1, upd_same]
    have T1 : Tabs T H1 := fun p hp => by
      by_cases hb : p.1 = P
      · rw [hu p hp hb, hb]
        have eL : (ps ++ #[rawInt pos.line, rawInt pos.col, .ref c']).toList = ps.toList ++ [rawInt pos.line, rawInt pos.col, .ref c'] := by simp
        refine ⟨ps ++ #[rawInt pos.line, rawInt pos.col, .ref c'], ?_, eL ▸ PySem.TriplesOk_snoc _ _ _ _ tr, fun p' cv hcv => ?_⟩
        · rw [← hH1, upd_ne (ne_of_none hP nC), upd_same]
        · rw [eL] at hcv
          rcases among_app _ tr hcv with z | z
          · obtain ⟨d, e1, e3⟩ := am p' cv z
            exact ⟨d, e1, eN _ _ e3 codeO_ne⟩
          · exact ⟨c', z, cN⟩
      · obtain ⟨ps', a1, a2, a3⟩ := hT p hp
        refine ⟨ps', ?_, a2, fun p' cv hcv => ?_⟩
        · rw [← hH1, upd_ne (ne_of_none a1 nC), upd_ne hb]; exact a1
        · obtain ⟨d, e1, e3⟩ := a3 p' cv hcv
          exact ⟨d, e1, eN _ _ e3 codeO_ne⟩
    have nF1 : H1 h'.objs.size = none := I1.hok.fresh (Nat.le_refl _)
    have nF : H h'.objs.size = none := I.hok.fresh hsz
    exact h _ c' _ _ (lam_ob (t' := tk) (doc := doc) (pm := (X.mg "__name__").getD .none) (ctv := ctv) I1) ((Kx.ext eN T1).trans (Kx.same (Same.new (Same.refl _) nF1))) nF upd_same (lk_new nF1 cN)
end
/-- the reading: a new lambda at f, known as IL -/
def tMkL (T : List (Addr × Str)) (IL : Addr → Hp → Prop) : TE := fun σ H Q => Tabs T H ∧ ∀ f H1, Kx T H H1 → H f = none → IL f H1 → Q (.ref f) H1
section
variable {X : Cx}
theorem pe_lam {T : List (Addr × Str)} {c P : Addr} {params : Arguments} {body : Expr} {scope : Scope} {pos : Pos} {k : Nat} {t : XK → TE} (TB : TabB X.base X.mg c P) (hcode : X.env.code = .ref c) (hm : (P, X.env.qual ++ "<lambda>") ∈ T) (hu : ∀ p ∈ T, p.1 = P → p.2 = X.env.qual ++ "<lambda>")
    (L : LamC X.N X.env.scope scope []) (hbody : ∀ (A : Around) (outer : List Env) (s : Shared) (H : Hp) (E : XK) (f c' : Addr), Room k (A.deeper (lamEnv X scope s.heap.objs.size f c')) → PE (lamCx X A outer s H E scope f c') body (t E))
    (hdef : defaultsOf params X.env = ([], []) := by rfl) (hb : ∀ (q : Str) (cl : List (Str × Addr)) (doc pm cv ctv : Value), bindArgs (PySem.W.kdv_fn "<lambda>" q params (.expr body) scope cl .none doc pm cv ctv) ⟨[], []⟩ = pure [] := by intros; rfl) :
    PE X (.Lambda params body scope pos) (tMkL T (IsLam X k t)) := by
  refine ⟨fun pins s σ H Q I ⟨hT, h⟩ => PySem.W.kla_eval hdef ?_⟩
  rw [makeFunction_eq]
  simp only [List.zip_nil_right, List.filterMap_nil, List.isEmpty_nil, if_true, pure_bind]
  refine lam_tail I TB hcode hm hu hT (L.has I.ok) fun f c' H1 s' I1 kl hf e1 e2 => ?_
  exact ⟨.ref f, H1, I1, rfl, h f H1 kl hf ⟨params, body, scope, .none, [], c', L, e1, e2, .inl ⟨rfl, rfl, hb⟩, fun A outer s H1 E => hbody A outer s H1 E f c'⟩⟩
/-- lambda b=v: body, b not read -/
theorem pe_lamD {T : List (Addr × Str)} {c P : Addr} {params : Arguments} {body : Expr} {scope : Scope} {pos : Pos} {k : Nat} {t : XK → TE} {e : Expr} {v : V} {b : Str} (TB : TabB X.base X.mg c P) (hcode : X.env.code = .ref c) (hm : (P, X.env.qual ++ "<lambda>") ∈ T) (hu : ∀ p ∈ T, p.1 = P → p.2 = X.env.qual ++ "<lambda>")
    (L : LamC X.N X.env.scope scope [b]) (hd : params.defaults = [e]) (hk0 : params.kw_defaults = []) (he : PE X e (tC v)) (hbody : ∀ (A : Around) (outer : List Env) (s : Shared) (H : Hp) (E : XK) (f c' : Addr), Room k (A.deeper (lamEnv X scope s.heap.objs.size f c')) → PE (lamCx X A outer s H E scope f c') body (t E))
    (hb : ∀ (T : Addr) (q : Str) (cl : List (Str × Addr)) (doc pm cv ctv u : Value), ∃ kk, bindArgs (PySem.W.kdv_fn "<lambda>" q params (.expr body) scope cl (.ref T) doc pm cv ctv) ⟨[], []⟩ = seqItems? (.ref T) >>= kk ∧ kk (some #[u]) = pure [(b, u)]) :
    PE X (.Lambda params body scope pos) (tMkL T (IsLam X k t)) := by
  refine ⟨fun pins s σ H Q I ⟨hT, h⟩ => PySem.W.kdv_lam (by rw [hd]; rfl) hk0 ?_⟩
  rw [hd]
  refine PySem.W.kdv_all1 (thn (he.run pins s σ H (fun x H1 => x = v ∧ H1 = H) I ⟨rfl, rfl⟩) fun u s1 ⟨x, H1, I1, r1, ex, eH⟩ => PySem.W.kdv_all0 ?_)
  rw [ex] at r1
  rw [eH] at I1
  rw [makeFunction_eq]
  simp only [List.zip_nil_right, List.filterMap_nil, List.isEmpty_nil, List.isEmpty_cons, Bool.false_eq_true, if_false, if_true, pure_bind]
  refine wpAny_bind (wpAny_newTextTuple ?_)
  have nT : H s1.heap.objs.size = none := I1.hok.fresh (Nat.le_refl _)
  have eT := Heap.get?_push_size s1.heap (o := { cls := .type "tuple", data := .seq [u].toArray }) rfl
  have I2 : Inv X pins σ (upd H s1.heap.objs.size (.tup [v])) { s1 with heap := s1.heap.push { cls := .type "tuple", data := .seq [u].toArray } } :=
    I1.laid (t' := s1.toks) (fun b u z => Heap.get?_push_of_some _ z) (Nat.le_refl _) ⟨one_line, [u], .cons r1 .nil, ⟨_, eT, rfl, _, rfl⟩⟩
  have k1 : Kx T H (upd H s1.heap.objs.size (.tup [v])) := Kx.same (Same.new (Same.refl _) nT)
  refine lam_tail I2 TB hcode hm hu (k1.tabs hT) (L.has I.ok) fun f c' H3 s' I3 kl hf e1 e2 => ?_
  have hf' : H f = none := by
    cases z : H f with
    | none => rfl
    | some o => rw [upd_ne (ne_of_none z nT), z] at hf; cases hf
  exact ⟨.ref f, H3, I3, rfl, h f H3 (k1.trans kl) hf' ⟨params, body, scope, _, [b], c', L, e1, e2, .inr ⟨_, v, b, rfl, rfl, kl.keep _ _ (fun ps z => nomatch z) upd_same, hb _⟩, fun A outer s H1 E => hbody A outer s H1 E f c'⟩⟩
end
end L2.Px

set_option Elab.async false
set_option linter.all false
set_option maxRecDepth 100000
set_option maxHeartbeats 2000000
/-! lambdas run by a def that gets them, from a def's body or from a comprehension in it -/
namespace L2.Px
open PySem PySem.Spec PyProof.Rows StX LamX
/-- the def g calls what it got: TT is what it makes of the reading -/
def Gives (X : Cx) (Ng : List Str) (x : Str) (sg : Scope) (g : Addr) (cdg : Value) (bg : List Stmt) (a : Str) (TT : (XK → Hp → VK → Prop) → Hp → VK → Prop) : Prop :=
  ∀ (f : Addr) (s : Shared) (H : Hp) (Q : VK) (tl : XK → Hp → VK → Prop) (LP : Hp → Prop), Room 1 (X.A.deeper (envOfC x sg s.heap.objs.size g cdg)) →
    (∀ (W : WX) (pn : List (Addr × Obj)) (xe : Value → Shared → Prop) (E : XK) (p1 p2 : Pos), Takes ((cxOf CX0 X.prog X.w X.K X.mg X.base Ng x sg g cdg X.A X.stack s H E0).tr pn xe) W →
      PE ((cxOf CX0 X.prog X.w X.K X.mg X.base Ng x sg g cdg X.A X.stack s H E0).tr pn xe) (.Call (.Name a p1) [] [] p2) (fun σZ HZ Q => σZ[0]? = some (some (.ref f)) ∧ LP HZ ∧ (∀ cls d H', E cls d H' → W cls d σZ H') ∧ tl E HZ Q)) →
    LP H → TT tl H Q →
    ∃ t, PSs (cxOf CX0 X.prog X.w X.K X.mg X.base Ng x sg g cdg X.A X.stack s H E0).nox bg t ∧ t { nx := fun _ H' => Q .non H', rt := Q } (start Ng [.ref f]) H
section
variable {X : Cx} {pins0 : List (Addr × Obj)} {σ0 : St} {H0 H HZ : Hp} {s0 s s1 : Shared}
theorem clo_of {N : List Str} {scope : Scope} {bs : List Str} (L : LamC N X.env.scope scope bs) (ok : X.Ok) {y : Str} {c : Addr} (e : (cloFrom X.env.cells scope.names []).lookup y = some c) : X.env.cells.lookup y = some c :=
  NdefX.clo_cm (L.has ok) e
theorem clo_at {scope : Scope} {y : Str} (hl : scope.names.lookup y = some .free) : ∃ c, (cloFrom X.env.cells scope.names []).lookup y = some c := mem_lookup (cloFrom_has (acc := []) (PySem.mem_of_lookup hl))
/-- the lambda's frame is laid; what it captured is as in the maker's frame, at s0 -/
theorem lam_enter {A : Around} {outer : List Env} {E : XK} {scope : Scope} {bs : List Str} {f c' : Addr} {h₁ : Heap} {tk : Nat} {m : Str → Option Value} (I : Inv X pins0 σ0 H0 s0) (L : LamC X.N X.env.scope scope bs) (e0 : Env0 X.prog X.w X.K X.mg X.base A outer s1 HZ) (hd : A.handled = none)
    (un : ∀ y c, X.env.cells.lookup y = some c → ∀ ob, s0.heap.get? c = some ob → H0 c = none → (∃ sl, s1.heap.get? c = some { ob with slots := sl }) ∧ HZ c = none)
    (hns : h₁.Ns s1.heap.objs.size m) (kp : ∀ b o, s1.heap.get? b = some o → h₁.get? b = some o) : Inv (lamCx X A outer s1 HZ E scope f c') [] σ0 HZ { s1 with heap := h₁, toks := tk } := by
  have cell : ∀ {y : Str} {c : Addr} {v : Option Value}, X.env.cells.lookup y = some c → s0.heap.IsCell c v → h₁.IsCell c v ∧ HZ c = none := fun {y c v} e ⟨o, ho, hv⟩ => by
    obtain ⟨⟨sl, q⟩, n⟩ := un y c e o ho (I.freeC y c e)
    exact ⟨⟨_, kp _ _ q, hv⟩, n⟩
  have non : ∀ {b : Addr} {Z : Prop}, b ∈ ([] : List Addr) → Z := fun h => absurd h (by simp)
  have ok : (lamCx X A outer s1 HZ E scope f c').Ok := {
    mod := e0.mod, kind := L.kind, glob := rfl, blt := rfl, above := Nat.le_refl _
    inj := fun x y c a b => I.ok.inj x y c (clo_of L I.ok a) (clo_of L I.ok b)
    has := fun y hy => by
      have hy' : scope.names.lookup y = some .cell ∨ scope.names.lookup y = some .free := hy
      rcases hy' with z | z
      · exact absurd rfl (L.own _ (PySem.mem_of_lookup z)).1
      · exact clo_at z
    cab := fun y c z => absurd (show false = true from z) Bool.false_ne_true
    hd := fun _ => hd, frames := Around.frames_deeper e0.frames, stk := .inr ⟨rfl, rfl⟩
    exf := fun b z => non z, bs := e0.bs, bsz := e0.bsz, noex := fun b _ _ z => non z, exfs := fun b z => non z, funs := e0.funs, frf := e0.frf }
  refine ⟨ok, rfl, e0.bare, Un.kept kp, ⟨m, hns, fun i y v e1 e2 e3 => ?_⟩, fun y c e => ?_, e0.hok.fresh (Nat.le_refl _), fun y c e => ?_, fun q hq => absurd (show q ∈ ([] : List (Addr × Obj)) ++ [] from hq) (by simp), e0.hok.kept kp, I.len⟩
  · have vis : Vis scope y := e3
    rcases vis with k | k | k
    · exact absurd (List.mem_of_getElem? e1) ((L.own _ (PySem.mem_of_lookup k)).2 rfl)
    · exact absurd rfl (L.own _ (PySem.mem_of_lookup k)).1
    · have out := L.free _ (PySem.mem_of_lookup k) rfl
      obtain ⟨m0, _, look⟩ := I.loc
      obtain ⟨u, r, q⟩ := look i y v e1 e2 (out.elim (fun z => .inr (.inl z)) fun z => .inr (.inr z))
      obtain ⟨c, hc⟩ := clo_at (X := X) k
      rcases q with ⟨k', _⟩ | ⟨_, c3, e', z⟩
      · have k' : X.env.scope.names.lookup y = some .local := k'
        rcases out with z | z <;> exact absurd (k'.symm.trans z) (by simp)
      · obtain rfl := Option.some.inj (e'.symm.trans (clo_of L I.ok hc))
        exact ⟨u, r, .inr ⟨.inr k, _, hc, (cell e' z).1⟩⟩
  · obtain ⟨v, z⟩ := I.cell y c (clo_of L I.ok e)
    exact ⟨v, (cell (clo_of L I.ok e) z).1⟩
  · obtain ⟨v, z⟩ := I.cell y c (clo_of L I.ok e)
    exact (cell (clo_of L I.ok e) z).2
/-- how the lambda at f binds its nothing -/
theorem LamB.binds {params : Arguments} {body : Expr} {scope : Scope} {dV : Value} {bs : List Str} {q : Str} {cl : List (Str × Addr)} {doc pm cv ctv : Value} (hb : LamB params body scope dV bs H) (ht : ∀ T xs, H T = some (.tup xs) → ∃ its, Vals xs its ∧ s.heap.IsTuple T its.toArray) :
    ∃ bn : List (Str × Value), (∀ y ∈ bn, y.1 ∈ bs) ∧ BindsTo s (PySem.W.kdv_fn "<lambda>" q params (.expr body) scope cl dV doc pm cv ctv) ⟨[], []⟩ bn := by
  rcases hb with ⟨rfl, rfl, h⟩ | ⟨T, v, b, rfl, rfl, hT, h⟩
  · exact ⟨[], fun y hy => absurd hy (by simp), .of_eq (h _ _ _ _ _ _)⟩
  · obtain ⟨its, rv, o, ho, hc, n, hd⟩ := ht T _ hT
    obtain ⟨u, rfl, ru⟩ := rv.one
    obtain ⟨kk, h1, h2⟩ := h q cl doc pm cv ctv u
    exact ⟨[(b, u)], fun y hy => by rw [List.mem_singleton.mp hy]; exact List.mem_singleton.mpr rfl, .of_defaults rfl ho hd h1 h2⟩
/-- a(), within the def that got the lambda -/
theorem lam_act {CXg : CXT} {Eg : XK} {Ng : List Str} {qg : Str} {sg : Scope} {g f : Addr} {cdg : Value} {k i : Nat} {a : Str} {pn : List (Addr × Obj)} {xe : Value → Shared → Prop} {W : WX} {E : XK} {t : XK → TE} {p1 p2 : Pos} {fp : List Addr}
    (I : Inv X pins0 σ0 H0 s0) (un : Un (frs X.stack) fp H0 H s0.heap s.heap) (hfp : ∀ y c, X.env.cells.lookup y = some c → c ∉ fp)
    (tk : Takes ((cxOf CXg X.prog X.w X.K X.mg X.base Ng qg sg g cdg X.A X.stack s H Eg).tr pn xe) W) (hr : Room (k + 1) (X.A.deeper (envOfC qg sg s.heap.objs.size g cdg)))
    (hN : Ng[i]? = some a) (hv : Vis sg a) (hd : (a == ("__debug__" : Str)) = false := by decide) (hcd : (a == ("__classdict__" : Str)) = false := by decide) :
    PE ((cxOf CXg X.prog X.w X.K X.mg X.base Ng qg sg g cdg X.A X.stack s H Eg).tr pn xe) (.Call (.Name a p1) [] [] p2) (fun σZ HZ Q => σZ[i]? = some (some (.ref f)) ∧ IsLam X k t f HZ ∧ (∀ cls d H', E cls d H' → W cls d σZ H') ∧ t E σ0 HZ Q) := by
  refine ⟨fun pinsZ sZ σZ HZ Q IZ ⟨hs, hl, hW, ht⟩ => ?_⟩
  refine wpAny_Call_Name_kw (thn ((pe_var (pos := p1) hN hv hd hcd).run pinsZ sZ σZ HZ (fun v H1 => v = .ref f ∧ H1 = HZ) IZ ⟨.ref f, hs, rfl, rfl⟩) fun u s1 ⟨v, H1, I1, r1, ev, eH⟩ => ?_)
  subst ev
  rw [eH] at I1
  obtain rfl : u = Value.ref f := r1
  obtain ⟨params, body, scope, dV, bs, c', L, e1, e2, hb, hbody⟩ := hl
  obtain ⟨⟨doc, pm, ctv, of1⟩, _, _⟩ := I1.hok f _ e1
  obtain ⟨⟨oc, vs, tq, hoc, hdc, hvc⟩, _, _⟩ := I1.hok c' _ e2
  refine PySem.W.callWith_F0 ⟨_, _, _, _, of1⟩ ?_
  obtain ⟨bn, bin, bto⟩ := hb.binds (s := s1) (q := X.env.qual ++ "<lambda>") (cl := cloFrom X.env.cells scope.names []) (doc := doc) (pm := pm) (cv := .ref c') (ctv := ctv) fun T xs e => let ⟨its, rv, p, _⟩ := I1.tuple (SqT.of e); ⟨its, rv, p⟩
  have un1 : Un (frs X.stack) [] H HZ s.heap s1.heap := I1.base
  have rc : codeAny (model X.prog X.w) (X.A.deeper (envOfC qg sg s.heap.objs.size g cdg)) (.call (.ref f) ⟨[], []⟩) (CR (L2.CX X.prog X.w) (envOfC qg sg s.heap.objs.size g cdg :: X.stack) X.prog X.w HZ s1 Q E) s1 := by
    refine PySem.W.kla_callFunE hr.depth of1 rfl L.co L.gen rfl ⟨c', oc, vs, tq, rfl, hoc, hdc, hvc⟩ (bto _ _ _ _ ?_)
    refine wpAny_newFunctionEnv (fun y hy => (L.own y hy).1) (fun y hy => L.par _ (bin y hy)) (fun h₁ hns hsb => ⟨I1.nolimit.fresh _ hsb, ?_⟩) L.kind
    have kp : ∀ b o, s1.heap.get? b = some o → h₁.get? b = some o := fun b o e => hsb.extBut b o (Nat.ne_of_lt (Heap.lt_size e)) (Heap.get?_push_of_some _ e)
    have J : Inv (lamCx X (X.A.deeper (envOfC qg sg s.heap.objs.size g cdg)) (envOfC qg sg s.heap.objs.size g cdg :: X.stack) s1 HZ E scope f c') [] σ0 HZ { s1 with heap := h₁, toks := s1.toks + bn.length } :=
      lam_enter I L I1.env0 hr.hd (fun y c e ob ho n => by
        obtain ⟨sl, q⟩ := un.any ho n (hfp y c e)
        have n1 := un.free c ob ho n (hfp y c e)
        obtain ⟨sl2, q2⟩ := un1.any q n1 (by simp)
        exact ⟨⟨sl2, q2⟩, un1.free c _ q n1 (by simp)⟩) hns kp
    refine PySem.W.kla_codeExpr (wpAny_mono ((hbody _ _ s1 HZ E (hr.deeper _)).run [] _ _ HZ Q J ht) (fun v s' ⟨w', H', J', rv, q⟩ => ?_) fun e s' hq => hq)
    exact ⟨w', H', J'.os, J'.bare, J'.base, J'.hok, rv, q⟩
  refine wpAny_call (codeAny_mono rc fun r s' hq => ?_)
  match r, hq with
  | .error e, hq => exact tk e s' (XE.of_call I1 hW hq)
  | .ok (.ret u), hq => exact I1.after hq
  | .ok .next, hq => exact hq.elim
  | .ok .brk, hq => exact hq.elim
  | .ok .cont, hq => exact hq.elim
/-- the def that gets the lambda is run -/
theorem giv_run {x a : Str} {g f : Addr} {st : Stmt} {fd : FuncData} {N : List Str} {k : Nat} {t : XK → TE} {TT : (XK → Hp → VK → Prop) → Hp → VK → Prop} {Q : VK} {fp : List Addr} (I : Inv X pins0 σ0 H0 s0) (un : Un (frs X.stack) fp H0 H s0.heap s.heap) (hfp : ∀ y c, X.env.cells.lookup y = some c → c ∉ fp)
    (F : Fun X.K x x st g fd) (b : Binds X.K fd [a] []) (S : FnScope N [a] (defScope st)) (hN : N[0]? = some a) (hva : Vis (defScope st) a) (hG : ∀ g cdg, Gives X N x (defScope st) g cdg (defBody st) a TT) (hr : Room (k + 2) X.A) (e0 : Env0 X.prog X.w X.K X.mg X.base X.A X.stack s H)
    (hl : IsLam X k t f H) (h : TT (fun E H' Q' => t E σ0 H' Q') H Q) (hd : (a == ("__debug__" : Str)) = false := by decide) (hcd : (a == ("__classdict__" : Str)) = false := by decide) :
    codeAny (model X.prog X.w) X.A (.call (.ref g) ⟨[.ref f], []⟩) (CR CX0 X.stack X.prog X.w H s Q E0) s := by
  obtain ⟨oc, od, kV, doc, pm, an, cdv, ct, osl, rfl, lk, hcd'⟩ := F.ex
  have kin : X.K.In s.heap := e0.mod.kin.keeps fun b o e => (e0.bs b o e).1
  refine run_ofS (N := N) (ps := [a]) (us := [.ref f]) (vs := [.ref f]) lk hcd' S hr e0 (by have := b s [.ref f] kin rfl; simpa using this) (.cons rfl .nil) rfl fun hr' => ?_
  obtain ⟨t', ht', hq'⟩ := hG g cdv f s H Q (fun E H' Q' => t E σ0 H' Q') (fun HZ => IsLam X k t f HZ) (hr'.mono (by omega)) (fun W pn xe E p1 p2 tk => lam_act (i := 0) I un hfp tk hr' hN hva hd hcd) hl h
  exact ⟨t', ht'.nox, hq'⟩
end
/-- x(e), e a lambda of this def: σ0, the slots that the lambda sees, are the def's own -/
def tGiv (X : Cx) (k : Nat) (TT : (XK → Hp → VK → Prop) → Hp → VK → Prop) (te : TE) : TE := fun σ H Q => te σ H fun v H1 => ∃ f t, v = .ref f ∧ IsLam X k t f H1 ∧ TT (fun E H' Q' => t E σ H' Q') H1 Q
/-- .. within a comprehension of the def: σ0 are the def's slots at its start -/
def tGivB (X : Cx) (k : Nat) (TT : (XK → Hp → VK → Prop) → Hp → VK → Prop) (σ0 : St) (te : TE) : TE := fun σ H Q => te σ H fun v H1 => ∃ f t, v = .ref f ∧ IsLam X k t f H1 ∧ TT (fun E H' Q' => t E σ0 H' Q') H1 Q
/-- what a comprehension's block knows of the def around it -/
def Maker (X : Cx) (σ0 : St) (s : Shared) (H : Hp) (fp : List Addr) : Prop := ∃ pins, Inv X pins σ0 H s ∧ ∀ y c, X.env.cells.lookup y = some c → c ∉ fp
section
variable {X : Cx} {x a : Str} {st : Stmt} {N : List Str} {k : Nat} {TT : (XK → Hp → VK → Prop) → Hp → VK → Prop} {e : Expr} {te : TE} {p pos : Pos}
theorem pe_giv (D : DefG X.K X.mg x st [a]) (S : FnScope N [a] (defScope st)) (hG : ∀ g cdg, Gives X N x (defScope st) g cdg (defBody st) a TT) (hr : Room (k + 2) X.A) (he : PE X e te) (hN : N[0]? = some a := by rfl) (hva : Vis (defScope st) a := by first | exact Or.inl rfl | exact Or.inr (Or.inl rfl))
    (hg : Gl X x := by rfl) (hdb : (x == ("__debug__" : Str)) = false := by decide) (hd : (a == ("__debug__" : Str)) = false := by decide) (hcd : (a == ("__classdict__" : Str)) = false := by decide)
    (hst : starEach [e] X.env = (false, eval e X.env) :: starEach [] X.env := by rfl) : PE X (.Call (.Name x p) [e] [] pos) (tGiv X k TT te) := by
  obtain ⟨g, fd, F, hm, b⟩ := D
  refine ⟨fun pins s σ H Q I h => wpAny_Call_Name_kw (ld_glob I hg hm ?_ hdb)⟩
  have ha : PA X [e] (tCons te tNil) := pa_cons he pa_nil hst
  refine PySem.W.callWith_K (h₀ := X.base) I.ok.mod.kin F.kp (thn (ha.run pos pins s σ H (fun vs H1 => match vs with | [v] => ∃ f t, v = .ref f ∧ IsLam X k t f H1 ∧ TT (fun E H' Q' => t E σ H' Q') H1 Q | _ => False) I h) fun us s1 ⟨vs, H1, I1, r, q0⟩ => ⟨I1.kIn, ?_⟩) hst (by rfl)
  match vs, q0, r with
  | [v], ⟨f, t, ef, hl, q⟩, r =>
    subst ef
    obtain ⟨u, rfl, ru⟩ := r.one
    obtain rfl : u = Value.ref f := ru
    refine wpAny_call (codeAny_mono (giv_run I1 (fp := []) Un.refl (fun _ _ _ => by simp) F b S hN hva hG hr I1.env0 hl q hd hcd) fun r s2 hq => ?_)
    match r, hq with
    | .error e, hq => exact (show False from hq).elim
    | .ok (.ret u), hq => exact I1.after hq
    | .ok .next, hq => exact hq.elim
    | .ok .brk, hq => exact hq.elim
    | .ok .cont, hq => exact hq.elim
end
end L2.Px

set_option Elab.async false
set_option linter.all false
set_option maxRecDepth 100000
set_option maxHeartbeats 2000000
/-! a list comprehension whose block runs lambdas of the def around it -/
namespace L2.Px
open PySem PySem.Spec PyProof.Rows StX LamX
section
variable {X : Cx} {x a : Str} {st : Stmt} {N : List Str} {k : Nat} {TT : (XK → Hp → VK → Prop) → Hp → VK → Prop} {e : Expr} {te : TE} {p pos : Pos}
theorem pe_givB {σ0 : St} {s0 : Shared} {H0 : Hp} {scope : Scope} {cenv : Env} {fp : List Addr} (MI : Maker X σ0 s0 H0 fp) (D : DefG X.K X.mg x st [a]) (S : FnScope N [a] (defScope st)) (hG : ∀ g cdg, Gives X N x (defScope st) g cdg (defBody st) a TT) (hr : Room (k + 2) X.A) (he : PE (X.blk s0 H0 scope cenv fp) e te) (hN : N[0]? = some a := by rfl)
    (hva : Vis (defScope st) a := by first | exact Or.inl rfl | exact Or.inr (Or.inl rfl)) (hg : Gl (X.blk s0 H0 scope cenv fp) x := by rfl) (hdb : (x == ("__debug__" : Str)) = false := by decide) (hd : (a == ("__debug__" : Str)) = false := by decide) (hcd : (a == ("__classdict__" : Str)) = false := by decide)
    (hst : starEach [e] cenv = (false, eval e cenv) :: starEach [] cenv := by rfl) : PE (X.blk s0 H0 scope cenv fp) (.Call (.Name x p) [e] [] pos) (tGivB X k TT σ0 te) := by
  obtain ⟨g, fd, F, hm, b⟩ := D
  obtain ⟨pins0, I0, hfp⟩ := MI
  refine ⟨fun pins s σ H Q I h => wpAny_Call_Name_kw (ld_glob I hg hm ?_ hdb)⟩
  have ha : PA (X.blk s0 H0 scope cenv fp) [e] (tCons te tNil) := pa_cons he pa_nil hst
  refine PySem.W.callWith_K (h₀ := X.base) I.ok.mod.kin F.kp (thn (ha.run pos pins s σ H (fun vs H1 => match vs with | [v] => ∃ f t, v = .ref f ∧ IsLam X k t f H1 ∧ TT (fun E H' Q' => t E σ0 H' Q') H1 Q | _ => False) I h) fun us s1 ⟨vs, H1, I1, r, q0⟩ => ⟨I1.kIn, ?_⟩) hst (by rfl)
  match vs, q0, r with
  | [v], ⟨f, t, ef, hl, q⟩, r =>
    subst ef
    obtain ⟨u, rfl, ru⟩ := r.one
    obtain rfl : u = Value.ref f := ru
    refine wpAny_call (codeAny_mono (giv_run (X := X) I0 (fp := fp) I1.base hfp F b S hN hva hG hr I1.env0 hl q hd hcd) fun r s2 hq => ?_)
    match r, hq with
    | .error e, hq => exact (show False from hq).elim
    | .ok (.ret u), hq => exact I1.after hq
    | .ok .next, hq => exact hq.elim
    | .ok .brk, hq => exact hq.elim
    | .ok .cont, hq => exact hq.elim
end
section
variable {X : Cx}
/-- what a comprehension's parts read, told of the def around it -/
def Block (X : Cx) (σ0 : St) (scope : Scope) (tg elt : Expr) (ifs : List Expr) (g : TG) (tt : TT) (te : TE) : Prop := ∀ (s : Shared) (H : Hp) (C : Addr) (cl : List (Str × Addr)) (fp : List Addr), Maker X σ0 s H fp →
  PG (X.blk s H scope (compEnvC scope cl C X.env) fp) tg g ∧ PTs (X.blk s H scope (compEnvC scope cl C X.env) fp) ifs tt ∧ PE (X.blk s H scope (compEnvC scope cl C X.env) fp) elt te
theorem pe_lcM {elt tg iter : Expr} {ifs : List Expr} {scope : Scope} {own : List (Str × Nat)} {pos : Pos} {wi : TI} {g : St → TG} {tt : St → TT} {te : St → TE} (hc : X.calm = true) (hN : X.N.Nodup) (hi : PI X tg iter wi) (ok : BlkOk X.N X.env.scope scope own)
    (hb : ∀ σ, Block X σ scope tg elt ifs (g σ) (tt σ) (te σ)) (hs : ∀ x, foldedSetIterable iter X.env x = pure x := by intro _; rfl) :
    PE X (.ListComp elt [⟨tg, iter, ifs, 0⟩] scope pos) (fun σ H Q => tLc wi (g σ) (tt σ) (te σ) (own.map (·.2)) σ H Q) := by
  refine ⟨fun pins s σ H Q I0 ask => ?_⟩
  rw [eval_ListComp]
  have cap : ∀ y ∈ scope.names, y.2 = .free → ∃ c, X.env.cells.lookup y.1 = some c := fun y hy z => (ok.free y hy z).elim (fun k => I0.ok.has _ (.inl k)) fun k => I0.ok.has _ (.inr k)
  refine wpAny_comprehension_free (use := none) rfl hs (closure_ok cap) ok.kind (fun y hy z => by rw [ok.uniq y hy, z]) (thn (hi.run pins s σ H _ I0 ask) fun _ _ q => thn q fun _ sA ⟨it, fp, tn, J, HA, eit, IA, turn, stA, fpA, ask1⟩ => ?_)
  subst eit
  refine wpAny_newObj_type (newEnv_comp ?_) (by show 0 ≤ sizeLine; decide)
  generalize dD : sA.heap.objs.size = D
  have freshD : HA D = none := IA.hok.fresh (Nat.le_of_eq dD)
  obtain ⟨W, ⟨n0, start0⟩, each⟩ := ask1 D freshD
  -- sB: the empty list is there
  generalize dB : ({ sA with heap := sA.heap.push { cls := .type "list", data := .seq ([] : List Value).toArray } } : Shared) = sB
  have heB : sB.heap = sA.heap.push { cls := .type "list", data := .seq ([] : List Value).toArray } := by rw [← dB]
  have IB : Inv X pins σ (upd HA D (.lst [])) sB := by
    rw [← dB]
    exact IA.laid (t' := sA.toks) (fun b o z => Heap.get?_push_of_some _ z) (Nat.le_of_eq dD) ⟨Nat.zero_le _, [], 0, .nil, by rw [← dD]; exact Heap.get?_push_size _ rfl⟩
  have old : ∀ b ∈ fp, b < sA.heap.objs.size := fun b hb => let ⟨_, z, _⟩ := turn.obj _ _ stA b hb; Heap.lt_size z
  generalize dH : upd HA D (.lst []) = HB at IB start0
  have nB : ∀ b ∈ fp, HB b = none := fun b hb => by rw [← dH, upd_ne (by rw [← dD]; exact Nat.ne_of_lt (old b hb))]; exact (fpA b hb).1
  have fpB : ∀ b ∈ fp, FpOk X pins HB b ∧ b < sB.heap.objs.size := fun b hb => ⟨⟨nB b hb, (fpA b hb).2⟩, by rw [heB, Heap.size_push]; exact Nat.lt_succ_of_lt (old b hb)⟩
  have stB : tn 0 sB.heap := turn.keep _ _ _ stA fun b _ o z => by rw [heB]; exact Heap.get?_push_of_some _ z
  have mk : Maker X σ sB HB fp := ⟨pins, IB, fun y c z hc => (fpB c hc).1.2.2.2.2.1 y c z rfl⟩
  obtain ⟨pg, pt, pe⟩ := hb σ sB HB sB.heap.objs.size (cellsFrom (sB.heap.objs.size + 1) scope.names (cloFrom X.env.cells scope.names [])) fp mk
  have IC := block_start IB ok hN fpB
  generalize dE : compEnvC scope (cellsFrom (sB.heap.objs.size + 1) scope.names (cloFrom X.env.cells scope.names [])) sB.heap.objs.size X.env = ce at IC pg pt pe
  have ceL : ce.locals = sB.heap.objs.size := by rw [← dE]; rfl
  generalize dC : ({ sB with heap := pushCells (sB.heap.push { cls := .type "dict", data := .dict #[] }) scope.names } : Shared) = sC at IC
  have stC : tn 0 sC.heap := turn.keep _ _ _ stB fun b _ o z => by rw [← dC]; exact pushCells_keeps _ _ _ _ (Heap.get?_push_of_some _ z)
  have fpAt : ∀ {σ' : St} {H' : Hp} {s' : Shared}, Inv (X.blk sB HB scope ce fp) [] σ' H' s' → (∀ b ∈ fp, H' b = none) → ∀ b ∈ fp, FpOk (X.blk sB HB scope ce fp) [] H' b := fun {σ' H' s'} I' hn b hb =>
    ⟨hn b hb, (I'.ok.exf b hb).1, I'.ok.exfs b hb, .inl hb, fun y c z => (I'.ok.exf b hb).2 y c z, fun q hq => absurd (show q ∈ ([] : List (Addr × Obj)) ++ [] from hq) (by simp)⟩
  have sim : ∀ {α : Type} {m : Sem α} {Qa Qb : α → Shared → Prop} {Ex : Value → Shared → Prop} {s' : Shared}, wpAny (model X.prog X.w) X.A m Qa (fun _ _ => False) s' → (∀ v z, Qa v z → Qb v z) → wpAny (model X.prog X.w) X.A m Qb Ex s' := fun h1 h2 => wpAny_mono h1 h2 fun _ _ z => False.elim z
  let Sta : Nat → Nat → Shared → Prop := fun i n s' => ∃ H', Inv (X.blk sB HB scope ce fp) [] (wipe σ (own.map (·.2))) H' s' ∧ tn i s'.heap ∧ (∀ b ∈ fp, H' b = none) ∧ W i n H'
  have run : codeAny (model X.prog X.w) X.A (.compLoop (.ListComp elt [⟨tg, iter, ifs, 0⟩] scope pos) 0 (.ref it) (.ref D) ce) (compPost (model X.prog X.w) X.A X.xe none (EP X pins σ Q) (.ref D) sB.heap.objs.size) sC := by
    refine compLoop_any (fun n s' => ∃ i, Sta i n s') ?_ n0 ⟨0, HB, IC, stC, nB, start0⟩
    rintro n s5 ⟨i, H5, I5, st5, n5, w5⟩
    rcases each i n H5 w5 with ⟨ends, fin⟩ | ⟨goes, Nx, less, body⟩
    · refine sim (turn.done (X.blk sB HB scope ce fp) rfl rfl rfl hc i [] s5 _ H5 (fun _ _ => False) I5 (fpAt I5 n5) st5 ends) fun r s6 ⟨hr, I6⟩ => ?_
      subst hr
      have I7 : Inv X pins σ H5 s6 := IB.call' (ch := fp) I6.os I6.base I6.hok I6.bare fun b hb => ⟨(fpB b hb).1.2.2.2.1, (fpB b hb).1.2.1, (fpB b hb).1.2.2.2.2.1, (fpB b hb).1.2.2.2.2.2⟩
      obtain ⟨mm, nsm, _⟩ := I6.loc
      have nsm : s6.heap.Ns ce.locals mm := nsm
      have nL : H5 ce.locals = none := I6.free
      rw [ceL] at nsm nL
      refine ⟨mm, nsm, fun h'' sb => ?_⟩
      obtain ⟨f0, f1, f2, f3, f4, f5⟩ := IB.fpOk (Nat.le_refl _) nL
      exact ⟨.ref D, H5, I7.turned (t' := s6.toks) (fun b o hb z => (sb.2 b hb).trans z) f0 f1 f3 f4 f5, rfl, fin⟩
    · refine sim (turn.item (X.blk sB HB scope ce fp) rfl rfl rfl hc i [] s5 _ H5 (fun _ _ => False) I5 (fpAt I5 n5) st5 goes) fun r s6 ⟨u, hr, h6⟩ => ?_
      subst hr
      refine sim h6 fun _ s7 ⟨v, H7, I7, r7, y7, st7, n7⟩ => ?_
      refine sim (pg.run _ s7 _ H7 v u _ (I7.pinned (fpAt I7 n7) (turn.obj _ _ st7)) r7 (body v H7 y7)) fun _ s8 ⟨σ8, H8, I8, same8, q8⟩ => ?_
      refine sim (pt.run _ s8 σ8 H8 _ I8 q8) fun b s9 ⟨H9, I9, q9⟩ => ?_
      have again : ∀ {s' : Shared} {H' : Hp}, Inv (X.blk sB HB scope ce fp) ([] ++ pinsAt fp s7.heap) σ8 H' s' → Nx H' → ∃ m, m < n ∧ ∃ i, Sta i m s' := fun {s' H'} I' nx => by
        obtain ⟨m', lt, w'⟩ := less H' nx
        have pinned : ∀ b ∈ fp, ∀ o, s7.heap.get? b = some o → s'.heap.get? b = some o ∧ H' b = none := fun b hb o z =>
          let q := I'.pin (b, o) (List.mem_append_right _ (List.mem_append_right _ (mem_pinsAt hb z)))
          ⟨q.1, q.2.1⟩
        refine ⟨m', lt, i + 1, H', (I'.unpinned (pins := [])).weak (by rw [← same8, wipe_length]) (fun j z q => ?_), turn.keep _ _ _ st7 fun b hb o z => (pinned b hb o z).1, fun b hb => ?_, w'⟩
        · rw [← same8] at q
          exact (wipe_some q).1
        · obtain ⟨o, z, _⟩ := turn.obj _ _ st7 b hb
          exact (pinned b hb o z).2
      match b, q9 with
      | false, q9 => exact again I9 q9
      | true, q9 => exact sim (pe.run _ s9 σ8 H9 _ I9 q9) fun z s10 ⟨yv, H10, I10, r10, acc, eD, lt, nx⟩ => app_ok (X := X.blk sB HB scope ce fp) I10 eD lt r10 fun s11 I11 => again I11 nx
  have all : codeAny (model X.prog X.w) X.A (.compStart (.ListComp elt [⟨tg, iter, ifs, 0⟩] scope pos) 0 (.ref it) (.ref D) ce) (compPost (model X.prog X.w) X.A X.xe none (EP X pins σ Q) (.ref D) sB.heap.objs.size) sC := codeAny_compStart_list run (turn.self X.A 0 _ _ _ stC run)
  rw [← dE] at all
  exact all
end
end L2.Px

set_option Elab.async false
set_option linter.all false
set_option maxRecDepth 100000
set_option maxHeartbeats 2000000
/-! exceptions of the program's classes: raised, let through, asked of -/
namespace L2.Px
open PySem PySem.Spec PyProof.Rows StX ClX

/-! ### promises with a part for what is raised -/
section
variable {P : Program} {w : World} {K : PySem.W.Frag} {mg : Str → Option Value} {base : Heap} {CX : CXT} {k : Nat} {C : Addr} {ps : List Str} {sp sp' : Sp} {x m qual : Str} {st : Stmt} {f : Addr} {R : Addr → Prop}
theorem DefG.okX {N : List Str} (D : DefG K mg x st ps) (S : FnScope N ps (defScope st)) (len : ∀ vs H Q E, sp vs H Q E → vs.length = ps.length)
    (hbody : ∀ (f : Addr) (cdv : Value) (A : Around) (outer : List Env) (s : Shared) (H : Hp) (vs : List V) (Q : VK) (E : XK), Room k (A.deeper (envOfC x (defScope st) s.heap.objs.size f cdv)) → sp vs H Q E →
      ∃ t, PSs (cxOf (L2.CX P w) P w K mg base N x (defScope st) f cdv A outer s H E) (defBody st) t ∧ t { nx := fun _ H' => Q .non H', rt := Q } (start N vs) H) : GOk P w K mg base (L2.CX P w) (k + 1) x sp := by
  obtain ⟨f, fd, F, a, b⟩ := D
  exact ⟨f, FnOk.toR (F.okX S len fun cdv A outer s H vs Q E hr h => hbody f cdv A outer s H vs Q E hr h) b, a, F.kp⟩
theorem DefM.okX {N : List Str} (D : DefM K C m qual st ps) (S : FnScope N ps (defScope st)) (len : ∀ vs H Q E, sp vs H Q E → vs.length = ps.length)
    (hbody : ∀ (f : Addr) (cdv : Value) (A : Around) (outer : List Env) (s : Shared) (H : Hp) (vs : List V) (Q : VK) (E : XK), Room k (A.deeper (envOfC qual (defScope st) s.heap.objs.size f cdv)) → sp vs H Q E →
      ∃ t, PSs (cxOf (L2.CX P w) P w K mg base N qual (defScope st) f cdv A outer s H E) (defBody st) t ∧ t { nx := fun _ H' => Q .non H', rt := Q } (start N vs) H) : MOk P w K mg base (L2.CX P w) (k + 1) C m sp := by
  obtain ⟨f, fd, F, a, b⟩ := D
  exact ⟨f, FnOk.toR (F.okX S len fun cdv A outer s H vs Q E hr h => hbody f cdv A outer s H vs Q E hr h) b, a⟩
theorem DefX.okX {N : List Str} (D : DefX K R m qual st ps) (S : FnScope N ps (defScope st)) (len : ∀ vs H Q E, sp vs H Q E → vs.length = ps.length)
    (hbody : ∀ (f : Addr) (cdv : Value) (A : Around) (outer : List Env) (s : Shared) (H : Hp) (vs : List V) (Q : VK) (E : XK), Room k (A.deeper (envOfC qual (defScope st) s.heap.objs.size f cdv)) → sp vs H Q E →
      ∃ t, PSs (cxOf (L2.CX P w) P w K mg base N qual (defScope st) f cdv A outer s H E) (defBody st) t ∧ t { nx := fun _ H' => Q .non H', rt := Q } (start N vs) H) : XOk P w K mg base (L2.CX P w) (k + 1) R sp := by
  obtain ⟨f, fd, F, r, b⟩ := D
  exact ⟨f, FnOk.toR (F.okX S len fun cdv A outer s H vs Q E hr h => hbody f cdv A outer s H vs Q E hr h) b, r⟩
theorem DefC.okX {N : List Str} (D : DefC K C m qual st ps) (S : FnScope N ps (defScope st)) (len : ∀ vs H Q E, sp vs H Q E → vs.length = ps.length)
    (hbody : ∀ (f : Addr) (cdv : Value) (A : Around) (outer : List Env) (s : Shared) (H : Hp) (vs : List V) (Q : VK) (E : XK), Room k (A.deeper (envOfC qual (defScope st) s.heap.objs.size f cdv)) → sp vs H Q E →
      ∃ t, PSs (cxOf (L2.CX P w) P w K mg base N qual (defScope st) f cdv A outer s H E) (defBody st) t ∧ t { nx := fun _ H' => Q .non H', rt := Q } (start N vs) H) : COk P w K mg base (L2.CX P w) (k + 1) C m sp := by
  obtain ⟨mc, p, g, fd, F, r, c, b⟩ := D
  exact ⟨mc, p, g, FnOk.toR (F.okX S len fun cdv A outer s H vs Q E hr h => hbody g cdv A outer s H vs Q E hr h) b, r, c⟩
theorem DefK.okX {N : List Str} (D : DefK K C qual st ps) (S : FnScope N ps (defScope st)) (len : ∀ vs H Q E, sp vs H Q E → vs.length = ps.length)
    (hbody : ∀ (f : Addr) (cdv : Value) (A : Around) (outer : List Env) (s : Shared) (H : Hp) (vs : List V) (Q : VK) (E : XK), Room k (A.deeper (envOfC qual (defScope st) s.heap.objs.size f cdv)) → sp vs H Q E →
      ∃ t, PSs (cxOf (L2.CX P w) P w K mg base N qual (defScope st) f cdv A outer s H E) (defBody st) t ∧ t { nx := fun _ H' => Q .non H', rt := Q } (start N vs) H) : KOk P w K mg base (L2.CX P w) (k + 1) C sp := by
  obtain ⟨f, fd, F, M, b⟩ := D
  exact ⟨f, FnOk.toR (F.okX S len fun cdv A outer s H vs Q E hr h => hbody f cdv A outer s H vs Q E hr h) b, M⟩
theorem DefKS.okX {N : List Str} {pv : Str} (D : DefKS K C qual st ps pv) (S : FnScope N (ps ++ [pv]) (defScope st))
    (hbody : ∀ (f : Addr) (cdv : Value) (A : Around) (outer : List Env) (s : Shared) (H : Hp) (vs : List V) (Q : VK) (E : XK), Room k (A.deeper (envOfC qual (defScope st) s.heap.objs.size f cdv)) → sp vs H Q E →
      ∃ t, PSs (cxOf (L2.CX P w) P w K mg base N qual (defScope st) f cdv A outer s H E) (defBody st) t ∧ t { nx := fun _ H' => Q .non H', rt := Q } (start N vs) H) : KOk P w K mg base (L2.CX P w) (k + 1) C (spStar ps.length sp) := by
  obtain ⟨f, fd, F, M, hb⟩ := D
  obtain ⟨oc, od, kV, doc, pm, an, cdv, ct, osl, rfl, lk, hcd⟩ := F.ex
  exact ⟨f, fn_star (sp := sp) lk hcd S cxUp hb fun A outer s H vs Q E hr h => hbody f cdv A outer s H vs Q E hr h, M⟩
theorem fnR_up (F : FnR P w K mg base CX0 k f sp) : FnR P w K mg base CX k f sp := fun A outer s H us vs Q E hr e0 r h =>
  codeAny_mono (F A outer s H us vs Q E hr e0 r h) fun r s' hq => match r, hq with
    | .error e, hq => hq.elim
    | .ok (.ret u), hq => hq
    | .ok .next, hq => hq
    | .ok .brk, hq => hq
    | .ok .cont, hq => hq
theorem fnR_or (F : FnR P w K mg base CX k f sp) (G : FnR P w K mg base CX k f sp') : FnR P w K mg base CX k f (fun vs H Q E => sp vs H Q E ∨ sp' vs H Q E) := fun A outer s H us vs Q E hr e0 r h =>
  h.elim (F A outer s H us vs Q E hr e0 r) (G A outer s H us vs Q E hr e0 r)
theorem fnR_imp (F : FnR P w K mg base CX k f sp) (h : ∀ vs H Q E, sp' vs H Q E → sp vs H Q E) : FnR P w K mg base CX k f sp' := fun A outer s H us vs Q E hr e0 r q => F A outer s H us vs Q E hr e0 r (h _ _ _ _ q)
/-- a def that answers or raises -/
theorem GOk.or {i j : Nat} (F : GOk P w K mg base CX0 i x sp) (G : GOk P w K mg base CX j x sp') (hi : i ≤ k) (hj : j ≤ k) : GOk P w K mg base CX k x (fun vs H Q E => sp vs H Q E ∨ sp' vs H Q E) := by
  obtain ⟨f, a1, a2, a3⟩ := F.mono hi
  obtain ⟨g, b1, b2, b3⟩ := G.mono hj
  cases a2.symm.trans b2
  exact ⟨f, fnR_or (fnR_up a1) b1, a2, a3⟩
theorem MOk.or {i j : Nat} (F : MOk P w K mg base CX0 i C m sp) (G : MOk P w K mg base CX j C m sp') (hi : i ≤ k) (hj : j ≤ k) : MOk P w K mg base CX k C m (fun vs H Q E => sp vs H Q E ∨ sp' vs H Q E) := by
  obtain ⟨f, a1, a2⟩ := F.mono hi
  obtain ⟨g, b1, b2⟩ := G.mono hj
  have e := a2.at_.symm.trans b2.at_
  simp only [Option.some.injEq, Value.ref.injEq] at e
  subst e
  exact ⟨f, fnR_or (fnR_up a1) b1, a2⟩
end
section
variable {X : Cx} {E : XK}
/-- what leaves a callee leaves this def -/
theorem passX (tk : Takes X (fun cls d _ H => E cls d H)) : Passes (L2.CX X.prog X.w) X E := passes_call tk fun _ _ _ _ h => h
end

/-! ### classes of exceptions -/
/-- one that is only named -/
structure XNm (K : PySem.W.Frag) (mg : Str → Option Value) (x : Str) (C : Addr) : Prop where
  g : mg x = some (.ref C)
/-- one without an __init__ of its own -/
structure XPl (K : PySem.W.Frag) (mg : Str → Option Value) (x : Str) (C : Addr) : Prop where
  g : mg x = some (.ref C)
  ex : PySem.W.excIn K C [.type "ValueError", .type "Exception", .type "BaseException", .type "object"] "ValueError.__new__" = true
  kp : PySem.W.keepIn K (.ref C) = true
  sub : PySem.W.subIn K (.ref C) (.type "BaseException") = some true
  ty : PySem.W.typeIn K (.ref C) = some (.type "type")
/-- one with an __init__ of its own, that stores the fields fs -/
structure XOw (K : PySem.W.Frag) (mg : Str → Option Value) (x : Str) (C : Addr) (fs : List Str) : Prop where
  g : mg x = some (.ref C)
  oex : OexC K C
  xf : XfC K C
  no : ∀ f ∈ fs, PySem.W.findIn K (.ref C) f = some none
/-- its __init__, as it stands; what it promises -/
def DefI (K : PySem.W.Frag) (C : Addr) (qual : Str) (st : Stmt) (ps : List Str) : Prop := ∃ f fd, Fun K "__init__" qual st f fd ∧ PySem.W.findIn K (.ref C) "__init__" = some (some (.ref f)) ∧ PySem.W.typeIn K (.ref f) = some (.type "function") ∧ Binds K fd ps []
def IOk (P : Program) (w : World) (K : PySem.W.Frag) (mg : Str → Option Value) (base : Heap) (k : Nat) (C : Addr) (ps : List Str) (sp : Sp) : Prop := ∃ f fd, FnOk P w K mg base CX0 k f fd ps sp ∧ PySem.W.findIn K (.ref C) "__init__" = some (some (.ref f)) ∧ PySem.W.typeIn K (.ref f) = some (.type "function") ∧ Binds K fd ps []
theorem DefI.ok {P : Program} {w : World} {K : PySem.W.Frag} {mg : Str → Option Value} {base : Heap} {k : Nat} {C : Addr} {qual : Str} {st : Stmt} {ps N : List Str} {sp : Sp} (D : DefI K C qual st ps) (S : FnScope N ps (defScope st)) (len : ∀ vs H Q E, sp vs H Q E → vs.length = ps.length)
    (hbody : ∀ (f : Addr) (cdv : Value) (A : Around) (outer : List Env) (s : Shared) (H : Hp) (vs : List V) (Q : VK) (E : XK), Room k (A.deeper (envOfC qual (defScope st) s.heap.objs.size f cdv)) → sp vs H Q E →
      ∃ t, PSs (cxOf CX0 P w K mg base N qual (defScope st) f cdv A outer s H E).nox (defBody st) t ∧ t { nx := fun _ H' => Q .non H', rt := Q } (start N vs) H) : IOk P w K mg base (k + 1) C ps sp := by
  obtain ⟨f, fd, F, i, t, b⟩ := D
  exact ⟨f, fd, F.ok S len fun cdv A outer s H vs Q E hr h => hbody f cdv A outer s H vs Q E hr h, i, t, b⟩
/-- TextError.__init__(self, ..): what an own base class hands on -/
structure XBs (K : PySem.W.Frag) (mg : Str → Option Value) (x : Str) (C : Addr) : Prop where
  g : mg x = some (.ref C)
  rd : PySem.W.readsIn K C (.type "type") = true
  ga : PySem.W.specialIn K (.ref C) "__getattribute__" = some (some (.builtin "type.__getattribute__"))
  at_ : PySem.W.findCls K (.ref C) (.type "type") "__init__" = some (.val (.builtin "ValueError.__init__"))
section
variable {X : Cx} {o e : Expr} {es : List Expr} {to te : TE} {ta : TA} {f x : Str} {p p' p1 p2 pos : Pos} {C : Addr}
theorem pe_xinit {pl : Sem Bool} (B : XBs X.K X.mg x C) (ha : PA X (e :: es) ta) (hg : Gl X x := by rfl) (hdb : (x == ("__debug__" : Str)) = false := by decide)
    (hc : eval (.Call (.Attribute (.Name x p1) "__init__" p2) (e :: es) [] pos) X.env = (do
      let ov ← eval (.Name x p1) X.env
      standAt p2.atName
      let (f, first) ← holding [ov] (getMethod ov "__init__" pl)
      callWith pos f first (backTo pos (starEach (e :: es) X.env)) (backToKw pos (keywordEach [] X.env))) := by rfl)
    (he : starEach (e :: es) X.env = (false, eval e X.env) :: starEach es X.env := by rfl) (hpl : (backTo pos (starEach es X.env)).any (·.1) = false := by rfl) :
    PE X (.Call (.Attribute (.Name x p1) "__init__" p2) (e :: es) [] pos) (tVeI X.K ta) := by
  refine ⟨fun pins s σ H Q I h => PySem.W.methodCall_KW (ld_glob I hg B.g ?_ hdb) hc⟩
  refine PySem.W.method_cls I.kIn B.ga (PySem.W.cls_value I.kIn B.rd B.at_ (by decide +kernel) ?_)
  refine PyProof.Rows.callWith_method1 (thn (ha.run pos pins _ σ H _ (I.tok _) h) fun us s1 ⟨vs, H1, I1, r1, a, C, ws, ev, hl, T, ea, q⟩ => ?_) he hpl
  subst ev
  cases r1 with
  | @cons _ u0 _ ur ra rw' =>
    obtain rfl : u0 = Value.ref a := ra
    exact oinit_ok T I1 ea (by rw [← Paired.length rw', sizeLine_eq]; omega) fun s' J => ⟨.non, H1, J, rfl, q⟩
end

section
variable {X : Cx} {K : PySem.W.Frag} {o e : Expr} {es : List Expr} {to te ta2 : TE} {ta : TA} {f x m : Str} {p p' p1 p2 pos : Pos} {C a : Addr} {σ : St} {H : Hp} {Q : VK} {ts : List TE} {acc : Str} {n : Nat} {RR : Str → Hp → Prop} {D : Ends}
theorem pe_xinitK {pl : Sem Bool} (hk : X.K = K) (B : XBs K X.mg x C) (ha : PA X (e :: es) ta) (hg : Gl X x := by rfl) (hdb : (x == ("__debug__" : Str)) = false := by decide)
    (hc : eval (.Call (.Attribute (.Name x p1) "__init__" p2) (e :: es) [] pos) X.env = (do
      let ov ← eval (.Name x p1) X.env
      standAt p2.atName
      let (f, first) ← holding [ov] (getMethod ov "__init__" pl)
      callWith pos f first (backTo pos (starEach (e :: es) X.env)) (backToKw pos (keywordEach [] X.env))) := by rfl)
    (he : starEach (e :: es) X.env = (false, eval e X.env) :: starEach es X.env := by rfl) (hpl : (backTo pos (starEach es X.env)).any (·.1) = false := by rfl) :
    PE X (.Call (.Attribute (.Name x p1) "__init__" p2) (e :: es) [] pos) (tVeI K ta) := by subst hk; exact pe_xinit (pl := pl) B ha hg hdb hc he hpl
theorem ps_ostK (hk : X.K = K) (ho : PE X o to) (he : PE X e te) (hs : swapsWith e (some (.Attribute o f p')) pos.line X.env = pure false := by rfl) : PS X (.Assign [.Attribute o f p'] e pos) (tOst K f to te) := by subst hk; exact ps_ost ho he hs
def rVeI (K : PySem.W.Frag) (vs : List V) (H1 : Hp) (Q : VK) : Prop := ∃ (a C : Addr) (ws : List V), vs = .ref a :: ws ∧ ws.length ≤ 1000 ∧ OexC K C ∧ H1 a = some (exo a C none) ∧ Q .non H1
theorem rd_veI (h : ta σ H fun vs H1 => rVeI K vs H1 Q) : tVeI K ta σ H Q := h
theorem rd_veI1 {v : V} (T : OexC K C) (e : H a = some (exo a C none)) (q : Q .non H) : rVeI K [.ref a, v] H Q := ⟨a, C, [v], rfl, by show 1 ≤ 1000; decide, T, e, q⟩
theorem rd_jstr (h : ∃ y : Str, V.str x = .str y ∧ (acc ++ y).length ≤ sizeLine ∧ tJs ts (acc ++ y) σ H RR) : tJs (tC (.str x) :: ts) acc σ H RR := h
theorem nat_small {n : Nat} (h : n < 1000000000) : (n : Int).natAbs.log2 < 1920 := by
  rw [Int.natAbs_natCast]
  by_cases h0 : n = 0
  · subst h0; decide
  · have h2 : (2 : Nat) ^ 30 = 1073741824 := by decide
    have h3 : n.log2 < 30 := (Nat.log2_lt h0).mpr (by omega)
    omega
theorem nat_len {n : Nat} (h : n < 1000000000) : (Str.ofString (toString (n : Int))).length ≤ 9 := by
  have e : (10 : Int) ^ 9 = 1000000000 := by decide
  exact PyProof.Rows.toString_length_le (k := 9) (by omega) (by decide) (by rw [e]; omega)
/-- the end of a message: a small number -/
theorem rd_jnum {i : Nat} (hi : σ[i]? = some (some (.int (n : Nat)))) (hn : n < 1000000000) (ha : acc.length ≤ 1000) (k : ∀ y : Str, y.length ≤ 1009 → tJs ts y σ H RR) : tJs (tFmt (tVar i) :: ts) acc σ H RR := by
  refine ⟨_, hi, .inr ⟨_, rfl, nat_small hn, _, rfl, ?_, ?_⟩⟩
  · have := nat_len hn
    rw [str_len_app, sizeLine_eq]; omega
  · refine k _ ?_
    have := nat_len hn
    rw [str_len_app]; omega
theorem rd_jlit (ha : acc.length + x.length ≤ 1000) (k : tJs ts (acc ++ x) σ H RR) : tJs (tC (.str x) :: ts) acc σ H RR := ⟨x, rfl, by rw [str_len_app, sizeLine_eq]; omega, k⟩
theorem rd_jnil (k : RR acc H) : tJs [] acc σ H RR := k
def rOst (K : PySem.W.Frag) (f : Str) (D : Ends) (σ : St) (y x : V) (H2 : Hp) : Prop := ∃ a C : Addr, x = .ref a ∧ OexC K C ∧ PySem.W.findIn K (.ref C) f = some none ∧
  ((H2 a = some (exo a C none) ∧ ∀ dx, H2 dx = none → dx ≠ a → D.nx σ (upd (upd H2 dx (exd dx [(f, y)])) a (exo a C (some dx)))) ∨
    ∃ (dx : Addr) (fs : List (Str × V)), H2 a = some (exo a C (some dx)) ∧ H2 dx = some (exd dx fs) ∧ fs.length ≤ 900 ∧ D.nx σ (upd H2 dx (exd dx ((f, y) :: fs))))
theorem rd_ost (h : te σ H fun y H1 => to σ H1 fun x H2 => rOst K f D σ y x H2) : tOst K f to te D σ H := h
theorem rd_ost1 {v : V} (T : OexC K C) (no : PySem.W.findIn K (.ref C) f = some none) (e : H a = some (exo a C none)) (k : ∀ dx, H dx = none → dx ≠ a → D.nx σ (upd (upd H dx (exd dx [(f, v)])) a (exo a C (some dx)))) : rOst K f D σ v (.ref a) H := ⟨a, C, rfl, T, no, .inl ⟨e, k⟩⟩
theorem rd_ost2 {v : V} {dx : Addr} {fs : List (Str × V)} (T : OexC K C) (no : PySem.W.findIn K (.ref C) f = some none) (e : H a = some (exo a C (some dx))) (ed : H dx = some (exd dx fs)) (hl : fs.length ≤ 900) (k : D.nx σ (upd H dx (exd dx ((f, v) :: fs)))) : rOst K f D σ v (.ref a) H := ⟨a, C, rfl, T, no, .inr ⟨dx, fs, e, ed, hl, k⟩⟩
end

/-! ### raise -/
section
variable {X : Cx} {E : XK} {C : Addr} {x m f g : Str} {j : Nat} {p p2 pos pos' : Pos} {e e' : Expr} {es : List Expr} {te te' : TE} {ta : TA} {sp : Sp} {k : Nat} {ps : List Str}
def tRz (C : Addr) (E : XK) : TS := fun _ _ H => E (.ref C) none H
theorem ps_rz (D : XPl X.K X.mg x C) (tk : Takes X (fun cls d _ H => E cls d H)) (hc : X.calm = true := by rfl) (hg : Gl X x := by rfl) (hdb : (x == ("__debug__" : Str)) = false := by decide) : PS X (.Raise (some (.Call (.Name x p) [.Constant (.str m) j p2] [] pos)) none pos') (tRz C E) :=
  ps_raise hc tk (pmk_own PySem.F.excBase_ValueError D.ex D.g D.kp (raises_own D.sub D.ty) hg hdb)
/-- an own exception is made of vs, its __init__ keeping sp -/
def rMkO (C : Addr) (sp : Sp) (E : XK) (vs : List V) (H1 : Hp) : Prop := vs.length ≤ 1000 ∧ ∀ a, H1 a = none → sp (.ref a :: (vs ++ [])) (upd H1 a (exo a C none))
  (fun v H2 => v = .non ∧ ∃ (d : Addr) (fs : List (Str × V)), H2 a = some (exo a C (some d)) ∧ H2 d = some (exd d fs) ∧ H1 d = none ∧ E (.ref C) (some d) (upd (del H2 a) d (.xd fs))) (fun _ _ _ => False)
def tRzI (C : Addr) (sp : Sp) (ta : TA) (E : XK) : TS := fun _ σ H => ta σ H fun vs H1 => rMkO C sp E vs H1
theorem ps_rzI {fs : List Str} (D : XOw X.K X.mg x C fs) (G : IOk X.prog X.w X.K X.mg X.base k C ps sp) (hr : Room (k + 1) X.A) (tk : Takes X (fun cls d _ H => E cls d H)) (ha : PA X (e :: es) ta) (hc : X.calm = true := by rfl) (hg : Gl X x := by rfl) (hdb : (x == ("__debug__" : Str)) = false := by decide)
    (he : starEach (e :: es) X.env = (false, eval e X.env) :: starEach es X.env := by rfl) (hpl : (backTo pos (starEach es X.env)).any (·.1) = false := by rfl) : PS X (.Raise (some (.Call (.Name x p) (e :: es) [] pos)) none pos') (tRzI C sp ta E) := by
  obtain ⟨fI, fd, F, i, t, b⟩ := G
  exact ps_raise hc tk (pmk_oex D.oex i t F hr b .nil pass0 hg D.g ha hdb he hpl)
/-- the promise of an __init__ that stores one number -/
def sp_xi1 (C : Addr) (f : Str) : Sp := fun vs H Q _ => ∃ (a : Addr) (i : Nat), vs = [.ref a, .int (i : Nat)] ∧ i < 1000000000 ∧ H a = some (exo a C none) ∧ ∀ d, H d = none → d ≠ a → Q .non (upd (upd H d (exd d [(f, .int (i : Nat))])) a (exo a C (some d)))
/-- .. two -/
def sp_xi2 (C : Addr) (f g : Str) : Sp := fun vs H Q _ => ∃ (a : Addr) (i j : Nat), vs = [.ref a, .int (i : Nat), .int (j : Nat)] ∧ i < 1000000000 ∧ j < 1000000000 ∧ H a = some (exo a C none) ∧ ∀ d, H d = none → d ≠ a → Q .non (upd (upd H d (exd d [(g, .int j), (f, .int i)])) a (exo a C (some d)))
variable {σ : St} {H : Hp} {D : Ends}
theorem rd_rz (h : E (.ref C) none H) : tRz C E D σ H := h
theorem rd_rzI (h : ta σ H fun vs H1 => rMkO C sp E vs H1) : tRzI C sp ta E D σ H := h
theorem del_upd {H : Hp} {a d : Addr} {o1 o2 o3 o4 : HO} (ha : H a = none) (hd : d ≠ a) : upd (del (upd (upd (upd H a o1) d o2) a o3) a) d o4 = upd H d o4 := by
  funext b
  by_cases h1 : b = d
  · subst h1; rw [upd_same, upd_same]
  · rw [upd_ne h1, upd_ne h1]
    by_cases h2 : b = a
    · subst h2; rw [del_same, ha]
    · rw [del_ne h2, upd_ne h2, upd_ne h1, upd_ne h2]
theorem rd_mk1 {i : Nat} (hi : i < 1000000000) (h : ∀ d, H d = none → E (.ref C) (some d) (upd H d (.xd [(f, .int (i : Nat))]))) : rMkO C (sp_xi1 C f) E [.int (i : Nat)] H := by
  refine ⟨by show 1 ≤ 1000; decide, fun a ha => ⟨a, i, rfl, hi, upd_same, fun d hd hn => ⟨rfl, d, [(f, .int (i : Nat))], upd_same, ?_, ?_, ?_⟩⟩⟩
  · rw [upd_ne hn, upd_same]
  · rw [upd_ne hn] at hd; exact hd
  · rw [del_upd ha hn]
    rw [upd_ne hn] at hd
    exact h d hd
theorem rd_mk2 {i j : Nat} (hi : i < 1000000000) (hj : j < 1000000000) (h : ∀ d, H d = none → E (.ref C) (some d) (upd H d (.xd [(g, .int (j : Nat)), (f, .int (i : Nat))]))) : rMkO C (sp_xi2 C f g) E [.int (i : Nat), .int (j : Nat)] H := by
  refine ⟨by show 2 ≤ 1000; decide, fun a ha => ⟨a, i, j, rfl, hi, hj, upd_same, fun d hd hn => ⟨rfl, d, [(g, .int (j : Nat)), (f, .int (i : Nat))], upd_same, ?_, ?_, ?_⟩⟩⟩
  · rw [upd_ne hn, upd_same]
  · rw [upd_ne hn] at hd; exact hd
  · rw [del_upd ha hn]
    rw [upd_ne hn] at hd
    exact h d hd
end

/-! ### in the suite that caught it -/
section
/-- isinstance(e, c), e the exception at a of the class cls, its dict d -/
def rIsX (K : PySem.W.Frag) (cls : Value) (d : Option Addr) (a : Addr) : List V → Hp → VK → Prop := fun xs H Q => ∃ (D : Addr) (c : V) (cv : Value) (b : Bool), cls = .ref D ∧ ExcC K D ∧ (d = none ∨ ∃ dd fs, d = some dd ∧ H dd = some (.xd fs)) ∧ xs = [.ref a, c] ∧ (∀ u, RelV c u → u = cv) ∧ PySem.W.kitOne K (.ref D) cv = some b ∧ Q (.bl b) H
theorem call_isX {X : Cx} {K : PySem.W.Frag} {a : Addr} {cls : Value} {d : Option Addr} {oe : Obj} {pn : List (Addr × Obj)} (hK : X.K = K) (hz : Zc cls d oe) (hf : ∃ vs, oe.data = .fields vs) : CallR (X.suite a ((a, oe) :: pn)) (.builtin "isinstance") (rIsX K cls d a) := by
  subst hK
  intro pins s σ H xs us Q I r h
  obtain ⟨D, c, cv, b, rfl, C, hdd, rfl, hcv, e, q⟩ := h
  match r with
  | .cons rx (.cons rt .nil) =>
    cases rx
    obtain rfl := hcv _ rt
    obtain ⟨hget, _⟩ := I.pin (a, oe) (List.mem_append.mpr (.inl List.mem_cons_self))
    obtain ⟨vs, hv⟩ := hf
    obtain ⟨oc, od, oda, osl⟩ := oe
    obtain ⟨h1, h2⟩ := hz
    dsimp only at h1 h2 hv
    have cl : (PySem.W.clsIn X.K D).isSome = true := by obtain ⟨cd, hc, _⟩ := PySem.W.any_some C.hd; rw [hc]; rfl
    rcases hdd with rfl | ⟨dd, fs, rfl, hx⟩
    · subst h1 h2 hv
      have J : PySem.W.InstAt s.heap a _ D none := ⟨hget, rfl, rfl, trivial⟩
      exact PySem.W.kia_one (PySem.W.kitx_exc cl C.hg C.hk C.hs C.ha C.hn C.ht C.hm) I.kIn J e (fun z => nomatch z) fun tk => ⟨.bl b, H, I.kept (t' := tk) fun _ _ z => z, rfl, q⟩
    · subst h1 h2 hv
      obtain ⟨o', ho', _⟩ : ∃ o', s.heap.get? dd = some o' ∧ True := by
        obtain ⟨u, hu⟩ := objOk_get (I.hok dd _ hx)
        exact ⟨u, hu, trivial⟩
      have J : PySem.W.InstAt s.heap a _ D (some o') := ⟨hget, rfl, rfl, ho'⟩
      exact PySem.W.kia_one (PySem.W.kitx_exc cl C.hg C.hk C.hs C.ha C.hn C.ht C.hm) I.kIn J e (fun z => nomatch z) fun tk => ⟨.bl b, H, I.kept (t' := tk) fun _ _ z => z, rfl, q⟩
variable {K : PySem.W.Frag} {H : Hp} {Q : VK} {D C a : Addr} {d : Option Addr} {b : Bool}
theorem rd_isX (hc : ExcC K D) (hd : d = none ∨ ∃ dd fs, d = some dd ∧ H dd = some (.xd fs)) (e : PySem.W.kitOne K (.ref D) (.ref C) = some b) (q : Q (.bl b) H) : rIsX K (.ref D) d a [.ref a, .ref C] H Q := ⟨D, .ref C, .ref C, b, rfl, hc, hd, rfl, fun u r => r, e, q⟩
theorem rd_isXT {T : String} (hc : ExcC K D) (hd : d = none ∨ ∃ dd fs, d = some dd ∧ H dd = some (.xd fs)) (e : PySem.W.kitOne K (.ref D) (.type T) = some b) (q : Q (.bl b) H) : rIsX K (.ref D) d a [.ref a, .ty T] H Q := ⟨D, .ty T, .type T, b, rfl, hc, hd, rfl, fun u r => r, e, q⟩
/-- e.f -/
def tXf2 (K : PySem.W.Frag) (a : Addr) (cls : Value) (d : Option Addr) (f : Str) (te : TE) : TE := fun σ H Q => te σ H fun x H1 => x = .ref a ∧ ∃ C dd fs v, cls = .ref C ∧ XfC K C ∧ PySem.W.findIn K (.ref C) f = some none ∧ d = some dd ∧ H1 dd = some (.xd fs) ∧ fs.lookup f = some v ∧ Q v H1
theorem pe_xf2 {X : Cx} {K : PySem.W.Frag} {a : Addr} {oe : Obj} {cls : Value} {d : Option Addr} {pn : List (Addr × Obj)} {e : Expr} {te : TE} {pos : Pos} {n : Str} (hK : X.K = K) (hz : Zc cls d oe) (hf : ∃ vs, oe.data = .fields vs) (he : PE (X.suite a ((a, oe) :: pn)) e te)
    (hb : attributeBase e n X.env (eval e X.env) = eval e X.env := by rfl) : PE (X.suite a ((a, oe) :: pn)) (.Attribute e n pos) (tXf2 K a cls d n te) := by
  subst hK
  refine ⟨fun pins s σ H Q I h => ?_⟩
  refine attr_of hb (thn (he.run pins s σ H _ I h) fun u s1 ⟨x, H1, I1, rx, ex, C, dd, fs, v, ec, T, no, ed, hx, hl, q⟩ => ?_)
  subst ex ec ed
  obtain rfl : u = Value.ref a := rx
  obtain ⟨at_, _⟩ := I1.pin (a, oe) (List.mem_append.mpr (.inl List.mem_cons_self))
  obtain ⟨ws, hw⟩ := hf
  have ox : ObjOk X.prog X.w H1 s1.heap dd (.xd fs) := I1.hok dd _ hx
  obtain ⟨mA, ns, rel⟩ := ox
  obtain ⟨od, lo, li⟩ := lookIn_ns ns
  obtain ⟨u, eu, ru⟩ := RelO.some_of (v := v) (o := mA n) (by rw [← hl]; exact rel n)
  have J : PySem.W.InstAt s1.heap a oe C (some od) := ⟨at_, hz.1, by unfold PySem.W.notCls; rw [hw], by rw [hz.2]; exact lo⟩
  exact HandSPX.exc_get I1.kIn J T.ga T.gg T.exC (PySem.W.findObj_own T.hdC no rfl (by rw [li, eu])) (handed_of ru) ⟨v, H1, I1.tok _, ru, q⟩
end
end L2.Px

set_option Elab.async false
set_option linter.all false
set_option maxRecDepth 100000
set_option maxHeartbeats 2000000
/-! what a law's helper tells of an exception: _law_raised -/
namespace L2.Px
open PySem PySem.Spec PyProof.Rows StX ClX LamX
section
variable {K : PySem.W.Frag} {X : Cx} {H : Hp} {Q : VK} {l p : Addr}
/-- xs.count(b), xs a list of bools -/
def rCntB (K : PySem.W.Frag) : V → List V → Hp → VK → Prop := fun x xs H Q => ∃ (p : Addr) (L : List Bool) (c : Bool), x = .ref p ∧ xs = [.bl c] ∧ SqL K H p (L.map V.bl) ∧ Q (.int (L.count c : Nat)) H
theorem dp_bls : ∀ {L : List Bool}, DpAll K H (L.map V.bl) (L.map PyData.bool)
  | [] => .nil
  | b :: L => .cons (.bl b) dp_bls
theorem cnt_bls (c : Bool) : ∀ L : List Bool, countIn (.bool c) (L.map PyData.bool) = ((L.count c : Nat) : Int)
  | [] => rfl
  | b :: L => by
    rw [List.map_cons, countIn, cnt_bls c L, List.count_cons]
    cases b <;> cases c <;> simp [same] <;> omega
theorem mt_bcountK (hk : X.K = K) : MtR X "list.count" (rCntB K) := by
  subst hk
  intro pins s σ H x xs v us Q I rx rxs h
  obtain ⟨p, L, c, rfl, rfl, hs, q⟩ := h
  cases rx
  obtain ⟨u, rfl, rfl⟩ := rxs.one
  obtain ⟨its, rv, hl, _⟩ := I.list hs
  obtain ⟨as, ra⟩ := Dp.readsAll I _ _ _ (dp_bls (L := L)) rv
  refine count_list_bools (k := c) hl.isList ra (by simp [Shape.has]) ?_
  rw [cnt_bls]
  exact ⟨.int _, H, I.tok _, ⟨_, rfl⟩, q⟩
theorem rd_bcount {L : List Bool} {c : Bool} (h : SqL K H l (L.map V.bl)) (q : Q (.int (L.count c : Nat)) H) : rCntB K (.ref l) [.bl c] H Q := ⟨l, L, c, rfl, rfl, h, q⟩
end
/-- e is of the i-th kind of Cs -/
structure RzC (K : PySem.W.Frag) (CT : Addr) (Cs : List Addr) (i : Nat) (D : Addr) : Prop where
  isi : ExcC K D
  exm : PySem.W.exmOne K (.ref D) (.ref CT) = some true
  ve : PySem.W.kitOne K (.ref D) (.type "ValueError") = some true
  kit : ∀ (j : Nat) C, Cs[j]? = some C → PySem.W.kitOne K (.ref D) (.ref C) = some (decide (j = i))
/-- .. and tells a number in its field f -/
structure RzF (K : PySem.W.Frag) (D : Addr) (f : Str) : Prop where
  xf : XfC K D
  no : PySem.W.findIn K (.ref D) f = some none
def rzW : List Str := ["step", "changes", "long", "place", "key", "letter", "number"]
/-- what _law_raised answers of the exception of the class cls, its dict d -/
def RzAns (K : PySem.W.Frag) (CT : Addr) (Cs : List Addr) (cls : Value) (d : Option Addr) (H : Hp) (Q : VK) : Prop := ∃ (i : Nat) (D : Addr) (w : Str), cls = .ref D ∧ RzC K CT Cs i D ∧ rzW[i]? = some w ∧
  ((i < 2 ∧ RzF K D "index" ∧ ∃ (dd : Addr) (n : Int) (fs : List (Str × V)), d = some dd ∧ H dd = some (.xd fs) ∧ fs.lookup ("index" : Str) = some (.int n) ∧ ∀ p H', Same H H' → H' p = some (.tup [.str w, .int n]) → Q (.ref p) H') ∨
    (¬ i < 2 ∧ d = none ∧ ∀ p H', Same H H' → H' p = some (.tup [.str w]) → Q (.ref p) H'))
theorem RzAns.dict {K : PySem.W.Frag} {CT : Addr} {Cs : List Addr} {cls : Value} {d : Option Addr} {H : Hp} {Q : VK} (h : RzAns K CT Cs cls d H Q) : d = none ∨ ∃ dd fs, d = some dd ∧ H dd = some (.xd fs) := by
  obtain ⟨i, D, w, _, _, _, ⟨_, _, dd, n, fs, e, hx, _⟩ | ⟨_, e, _⟩⟩ := h
  · exact .inr ⟨dd, fs, e, hx⟩
  · exact .inl e
def kb7 (i : Nat) : List Bool := [decide (0 = i), decide (1 = i), decide (2 = i), decide (3 = i), decide (4 = i), decide (5 = i), decide (6 = i)]
theorem kb7_count : ∀ i, i < 7 → (kb7 i).count true = 1 := by decide
theorem kb7_at : ∀ i, i < 7 → (kb7 i)[i]? = some true := by decide
theorem kb7_no : ∀ i, i < 7 → ∀ m, m < i → (kb7 i)[m]? = some false := by decide
section
variable {K : PySem.W.Frag} {H : Hp} {Q : VK} {l : Addr}
theorem rd_kbIndex {i : Nat} (hi : i < 7) (h : H l = some (.lst ((kb7 i).map V.bl))) (q : Q (.int (i : Nat)) H) : rIndex K (.ref l) [.bl true] H Q := by
  refine ⟨l, (kb7 i).map V.bl, .bl true, i, .bl true, rfl, rfl, SqL.of h, rfl, ?_, ?_, rfl, fun m z hm hz => ?_, q⟩
  · rw [List.all_eq_true]; intro v hv; obtain ⟨b, _, rfl⟩ := List.mem_map.mp hv; rfl
  · rw [List.getElem?_map, kb7_at i hi]; rfl
  · rw [List.getElem?_map, kb7_no i hi m hm] at hz; cases hz; rfl
theorem rd_addSame {xs ys : List V} {a b : Addr} (ha : H a = some (.lst xs)) (hb : H b = some (.lst ys)) (hz : xs.length + ys.length ≤ sizeLine) (q : ∀ p H', Same H H' → H p = none → H' p = some (.lst (xs ++ ys)) → Q (.ref p) H') : rAddA K (.ref a) (.ref b) H Q :=
  rd_add_lst ha hb hz fun p hp => q p _ (Same.new (Same.refl _) hp) hp upd_same
end
section
variable {j9 : Nat} {X : Cx} {Ng : List Str} {x a xe n : Str} {sg : Scope} {g CS : Addr} {cdg : Value} {b₀ : Stmt} {suite : List Stmt} {i : Nat} {p1 p2 p3 np pos' pos p9 p10 : Pos} {ts : Addr → Value → Option Addr → TS} {Ans : Value → Option Addr → Hp → VK → Prop}
theorem gives_expr (hN : Ng.Nodup) (hi : Ng[i]? = some n) (hln : sg.names.lookup n = some .local) (hge : sg.names.lookup xe = some .globalImplicit) (hme : X.mg xe = some (.ref CS)) (hde : (xe == ("__debug__" : Str)) = false) (h0 : ∀ f : Addr, (start Ng [V.ref f])[0]? = some (some (V.ref f)))
    (hsu : ∀ (s : Shared) (H : Hp), Room 1 (X.A.deeper (envOfC x sg s.heap.objs.size g cdg)) → ∀ (e : Addr) (oe : Obj) (cls : Value) (d : Option Addr) (pn : List (Addr × Obj)), Zc cls d oe → (∃ vs, oe.data = .fields vs) → PSs ((cxOf CX0 X.prog X.w X.K X.mg X.base Ng x sg g cdg X.A X.stack s H E0).nox.suite e ((e, oe) :: pn)) (b₀ :: suite) (ts e cls d))
    (hexm : ∀ cls d H Q, Ans cls d H Q → PySem.W.exmOne X.K cls (.ref CS) = some true)
    (hans : ∀ (cls : Value) (d : Option Addr) (H : Hp) (Q : VK) (f e : Addr) (nx bk ct : St → Hp → Prop), Ans cls d H Q → H e = none → ts e cls d ⟨nx, Q, bk, ct⟩ ((start Ng [.ref f]).set i (some (.ref e))) H) :
    Gives X Ng x sg g cdg [.Try [.Expr (.Call (.Name a p1) [] [] p2) p3] [.ExceptHandler (some (.Name xe np)) (some n) (b₀ :: suite) pos'] [] [] pos, .Return (some (.Constant .none j9 p9)) p10] a (fun tl H Q => tl (fun cls d H' => Ans cls d H' Q) H fun _ H' => Q .non H') := by
  intro f s H Q tl LP hr act hl h
  have hgl : Gl (cxOf CX0 X.prog X.w X.K X.mg X.base Ng x sg g cdg X.A X.stack s H E0).nox xe := hge
  refine ⟨_, pss_cons (ps_try_as (X := (cxOf CX0 X.prog X.w X.K X.mg X.base Ng x sg g cdg X.A X.stack s H E0).nox) (c := .ref CS) (i := i) (ts := ts)
      (tb := fun W D σ H => ∃ Ech : XK, σ[0]? = some (some (.ref f)) ∧ LP H ∧ (∀ cls d H', Ech cls d H' → W cls d σ H') ∧ tl Ech H fun _ H' => D.nx σ H') rfl rfl hN hi hln ⟨hgl, hde, .inl hme⟩ takes0 (fun W pn xe tk _ => ?_) (fun e oe cls d pn hz hf => hsu s H hr e oe cls d pn hz hf)) (pss_one (ps_ret pe_non)), ?_⟩
  · refine ⟨fun pins s' σ H' D I ⟨Ech, h1, h2, h3, h4⟩ => ?_⟩
    exact (pss_one (ps_expr (pos := p3) (act W pn xe Ech p1 p2 tk))).run pins s' σ H' D I ⟨h1, h2, h3, h4⟩
  · exact ⟨fun cls d H' => Ans cls d H' Q, h0 f, hl, fun cls d H' hq => ⟨true, hexm _ _ _ _ hq, fun _ e he => hans cls d H' Q f e _ _ _ hq he, fun z => nomatch z⟩, h⟩
end
end L2.Px

set_option Elab.async false
set_option linter.all false
set_option maxRecDepth 100000
set_option maxHeartbeats 1000000
/-! the end of a law whose defs make lambdas -/
namespace L2.Px
open PySem PySem.Spec PyProof.Rows StX ClX LamX
/-- the tables of all defs of the top are empty -/
def AllTab (q : Program) (K : PySem.W.Frag) (mg : Str → Option Value) (h : Heap) : Prop := ∀ (x : Str) (f : Addr), ((recsOf q).any fun e => e.name == x) = true → mg x = some (.ref f) → OwnTab K f h
theorem walk_ofT {l : PySem.W.OpenLaw} {n k : Nat} {q : Program} {loose : List Str} {XP : (Str → Option Value) → Heap → Prop} {YP : World → Heap → Prop} {d : DefRec} {K : Params → PySem.W.Frag} {x : Str}
    (hn : l.most = some n) (hn2 : n ≤ sizeLine) (hdf : d.params.defaults = []) (hr : Room k callerA) (hY : ∀ (w : World) (h : Heap), YP w h → (K w.params).In h)
    (F : ∀ (w : World) (mg : Str → Option Value) (fa : Addr) (h : Heap), (K w.params).In h → h.Ns mainGlobals mg → XP mg h → mg d.name = some (.ref fa) → AllTab q (K w.params) mg h → LawAtS l w (K w.params) CX0 k n x mg fa h) :
    PySem.W.WalkO q loose XP YP l.row.toRowW d [] (fun f vs => PySem.call f vs) := by
  refine Att.attach_callB hn hdf fun w s0 s1 mg mb fa o pm cd doc a vs ns G Y ho hd hcd hmg hobj hints hlen hbits hg => ?_
  have KX := hY w _ Y
  have tabs : AllTab q (K w.params) mg s1.heap := fun y f hy hf c P o1 fd1 e dd ws sl k1 k2 k3 k4 k5 => by
    obtain ⟨dL, hm, hq⟩ := List.any_eq_true.mp hy
    obtain ⟨a', o', fd', c', P', h1, h2, h3, h4, h5, ⟨oc, vc, e1, _, e3, e4⟩, hP⟩ := G.T.tab dL hm
    rw [beq_iff_eq.mp hq, hf] at h1
    cases h1
    cases (KX _ _ k1).symm.trans h2
    cases k2.symm.trans h3
    cases k3.symm.trans h4
    cases (KX _ _ k4).symm.trans e1
    cases e3
    cases k5.symm.trans e4
    exact hP
  obtain ⟨fd, cs, sp, hT, nT, C, hb, hsp, hF⟩ := F w mg fa _ KX G.T.g G.X hmg tabs
  exact law_callTs KX G.T.g G.T.b G.T.builtins G.T.nolimit hg hT nT C G.T.bmain hobj hints (Nat.le_trans hlen hn2) hr hF hb (fun H hH hS => hsp H a ns hlen hbits hH hS) fun _ _ _ z => z
section
variable {K : PySem.W.Frag} {h : Heap} {mg : Str → Option Value} {x qual : Str} {st : Stmt} {ps : List Str} {f c P : Addr} {q : Program}
/-- the def object at f, its code object at c -/
def AtC (K : PySem.W.Frag) (x qual : Str) (st : Stmt) (c f : Addr) : Prop := ∃ (oc : Value) (od : Option Addr) (kV dc pm : Value) (an : Option Addr) (ct : Value) (sl : Array (Option Value)), K.lookup f = some ⟨oc, od, .func (PySem.W.fnOf x qual (defArgs st) (defBody st) (defScope st) .none kV dc pm an (.ref c) ct), sl⟩ ∧ PySem.W.codeIn K (.ref c) qual = true
theorem atC {oc : Value} {od : Option Addr} {kV dc pm : Value} {an : Option Addr} {ct : Value} {sl : Array (Option Value)} (l : K.lookup f = some ⟨oc, od, .func (PySem.W.fnOf x qual (defArgs st) (defBody st) (defScope st) .none kV dc pm an (.ref c) ct), sl⟩) (hc : PySem.W.codeIn K (.ref c) qual = true) : AtC K x qual st c f := ⟨oc, od, kV, dc, pm, an, ct, sl, l, hc⟩
theorem defGC_mk (X : K.In h) (G : h.Ns mainGlobals mg) (a : PySem.W.nsIn K mainGlobals x = some (some (.ref f))) (l : AtC K x x st c f) (k : PySem.W.keepIn K (.ref f) = true) (b : BF x x st ps) : DefGC K mg x st ps c := by
  obtain ⟨oc, od, kV, dc, pm, an, ct, sl, l, hc⟩ := l
  exact ⟨f, _, ⟨⟨oc, od, kV, dc, pm, an, ct, sl, rfl, l, hc⟩, k⟩, PySem.W.mg_of X G a, fun s us _ hl => .of_eq (by rw [List.append_nil] at *; exact b kV dc pm an (.ref c) ct us (by simpa using hl))⟩
/-- the code object at c has its table at P, outside K -/
structure TabC (K : PySem.W.Frag) (c P : Addr) : Prop where
  hd : PySem.W.codeHdIn K c P = true
  no : K.lookup P = none
  at_ : ∃ (e : Value) (dd : Option Addr) (vs : Array Value) (sl : Array (Option Value)), K.lookup c = some ⟨e, dd, .fields vs, sl⟩ ∧ vs[11]? = some (.ref P)
theorem tabC_mk {e : Value} {dd : Option Addr} {vs : Array Value} {sl : Array (Option Value)} (l : K.lookup c = some ⟨e, dd, .fields vs, sl⟩) (v : vs[11]? = some (.ref P)) (hd : PySem.W.codeHdIn K c P = true) (no : K.lookup P = none) : TabC K c P := ⟨hd, no, e, dd, vs, sl, l, v⟩
theorem TabC.empty (t : TabC K c P) (A : AllTab q K mg h) (D : DefGC K mg x st ps c) (hx : ((recsOf q).any fun e => e.name == x) = true) : h.get? P = some { cls := .none, data := .fields #[] } := by
  obtain ⟨f, fd, F, hm, _⟩ := D
  obtain ⟨oc, od, kV, doc, pm, an, ct, osl, rfl, lk, _⟩ := F.ex
  obtain ⟨e, dd, vs, sl, l, v⟩ := t.at_
  exact A x f hx hm c P _ _ e dd vs sl lk rfl rfl l v
end
end L2.Px

set_option Elab.async false
set_option linter.all false
set_option maxRecDepth 100000
set_option maxHeartbeats 1000000
/-! the mathematics of counts -/
namespace L2.Px
open PySem PySem.Spec PyProof.Rows StX TL
/-- how often k stands ahead of place p -/
def cn (ss : List Stp) (p k : Nat) : Nat := ((ks ss).take p).count k
/-- .. of all keys -/
def cnt (ss : List Stp) (p : Nat) : List Nat := (List.range (tyL ss).length).map (cn ss p)
theorem cnt_len (ss : List Stp) (p : Nat) : (cnt ss p).length = (tyL ss).length := by simp [cnt]
theorem cnt_get {ss : List Stp} {p k : Nat} (h : k < (tyL ss).length) : (cnt ss p)[k]? = some (cn ss p k) := by
  simp [cnt, h]
theorem cn_zero (ss : List Stp) (k : Nat) : cn ss 0 k = 0 := by simp [cn]
theorem cnt_zero (ss : List Stp) : cnt ss 0 = List.replicate (tyL ss).length 0 := by
  apply List.ext_getElem
  · simp [cnt]
  · intro i h1 h2; simp [cnt, cn]
theorem count_take_split (l : List Nat) (k : Nat) {a b : Nat} (h : a ≤ b) : (l.take b).count k = (l.take a).count k + ((l.drop a).take (b - a)).count k := by
  have e : l.take b = l.take a ++ (l.drop a).take (b - a) := by
    have := List.take_add (l := l) (i := a) (j := b - a)
    rw [show a + (b - a) = b by omega] at this
    exact this
  rw [e, List.count_append]
theorem cn_mono (ss : List Stp) (k : Nat) {a b : Nat} (h : a ≤ b) : cn ss a k ≤ cn ss b k := by
  unfold cn; rw [count_take_split _ _ h]; omega
theorem cn_le (ss : List Stp) (p k : Nat) : cn ss p k ≤ p := by
  unfold cn
  exact Nat.le_trans List.count_le_length (by rw [List.length_take]; omega)
theorem cn_succ {ss : List Stp} (ok : okFrom 0 ss) {p : Nat} (h : p < sz ss) (k : Nat) : cn ss (p + 1) k = cn ss p k + if kat ss p = k then 1 else 0 := by
  unfold cn
  rw [List.take_add_one, kat_some ok h, List.count_append]
  simp [List.count_cons, beq_iff_eq]
theorem count_flat_take (l : List Nat) (k : Nat) (hl : 0 < l.length) : ∀ (t n : Nat), n ≤ t * l.length → ((List.replicate t l).flatten.take n).count k = (n / l.length) * l.count k + (l.take (n % l.length)).count k
  | 0, n, h => by
    have : n = 0 := by omega
    subst this; simp
  | t + 1, n, h => by
    rw [List.replicate_succ, List.flatten_cons]
    by_cases hn : n < l.length
    · rw [List.take_append_of_le_length (by omega), Nat.div_eq_of_lt hn, Nat.mod_eq_of_lt hn]; omega
    · have hn' : l.length ≤ n := by omega
      rw [List.take_append, List.count_append, List.take_of_length_le hn', count_flat_take l k hl t (n - l.length) (by rw [Nat.succ_mul] at h; omega)]
      obtain ⟨m, rfl⟩ : ∃ m, n = m + l.length := ⟨n - l.length, by omega⟩
      rw [Nat.add_sub_cancel, Nat.add_div_right _ hl, Nat.add_mod_right, Nat.succ_mul]; omega
section
variable {ss : List Stp} {j : Nat}
theorem ks_split (ss : List Stp) (j : Nat) (ok : okFrom 0 ss) {p : Nat} (h : p ≤ sz (ss.take j)) : (ks ss).take p = (ks (ss.take j)).take p := by
  obtain ⟨m, e⟩ := ks_pre (ss.take j) (ss.drop j)
  rw [List.take_append_drop] at e
  rw [e, List.take_append_of_le_length (by rw [ks_len (ok_take ok j)]; exact h)]
theorem cn_take (ok : okFrom 0 ss) {p : Nat} (h : p ≤ sz (ss.take j)) (k : Nat) : cn ss p k = cn (ss.take j) p k := by
  unfold cn; rw [ks_split ss j ok h]
theorem cn_wr {w : Str} (ok : okFrom 0 ss) (h : ss[j]? = some (.wr w)) {p : Nat} (h1 : sz (ss.take j) ≤ p) (h2 : p ≤ sz (ss.take (j + 1))) (k : Nat) :
    cn ss p k = cn ss (sz (ss.take j)) k + if (tyL (ss.take j)).length ≤ k ∧ k < (tyL (ss.take j)).length + (p - sz (ss.take j)) then 1 else 0 := by
  have hs := sz_take h
  simp only [len1] at hs
  have e1 := cn_take (j := j + 1) ok h2 k
  have e2 := cn_take (j := j + 1) ok (p := sz (ss.take j)) (by omega) k
  rw [e1, e2]
  unfold cn
  rw [count_take_split _ _ h1, ks_take_wr h]
  have el : (ks (ss.take j)).length = sz (ss.take j) := ks_len (ok_take ok j)
  rw [List.drop_append_of_le_length (by omega), List.drop_of_length_le (by omega), List.nil_append, List.take_range'_of_length_ge (by omega)]
  congr 1
  rw [List.count_range']
  have e : (∃ i, i < p - sz (ss.take j) ∧ k = (tyL (ss.take j)).length + i) ↔ (tyL (ss.take j)).length ≤ k ∧ k < (tyL (ss.take j)).length + (p - sz (ss.take j)) :=
    ⟨fun ⟨i, a, b⟩ => by omega, fun ⟨a, b⟩ => ⟨k - (tyL (ss.take j)).length, by omega, by omega⟩⟩
  simp only [Nat.one_mul, e]
theorem cn_pa {f l t : Nat} (ok : okFrom 0 ss) (h : ss[j]? = some (.pa f l t)) {p : Nat} (h1 : sz (ss.take j) ≤ p) (h2 : p ≤ sz (ss.take (j + 1))) (k : Nat) :
    (cn ss p k : Int) = (cn ss (sz (ss.take j)) k : Int) + ((p - sz (ss.take j)) / (l - f + 1) : Nat) * ((cn ss (l + 1) k : Int) - cn ss f k) + cn ss (f + (p - sz (ss.take j)) % (l - f + 1)) k - cn ss f k := by
  obtain ⟨⟨a1, a2, a3, a4⟩, _⟩ := ok_at ok h
  have hs := sz_take h
  simp only [len1] at hs
  have hm : (p - sz (ss.take j)) % (l - f + 1) < l - f + 1 := Nat.mod_lt _ (by omega)
  have e1 := cn_take (j := j + 1) ok h2 k
  have e2 := cn_take (j := j + 1) ok (p := sz (ss.take j)) (by omega) k
  have e3 := cn_take (j := j) ok (p := l + 1) (by omega) k
  have e4 := cn_take (j := j) ok (p := f) (by omega) k
  have e5 := cn_take (j := j) ok (p := f + (p - sz (ss.take j)) % (l - f + 1)) (by omega) k
  rw [e1, e2, e3, e4, e5]
  have el : (ks (ss.take j)).length = sz (ss.take j) := ks_len (ok_take ok j)
  unfold cn
  have hdrop : ∀ B : List Nat, (ks (ss.take j) ++ B).drop (sz (ss.take j)) = B := fun B => by
    rw [List.drop_append_of_le_length (by omega), List.drop_of_length_le (by omega), List.nil_append]
  have htake : ∀ B : List Nat, (ks (ss.take j) ++ B).take (sz (ss.take j)) = (ks (ss.take j)).take (sz (ss.take j)) := fun B => List.take_append_of_le_length (by omega)
  rw [count_take_split (ks (ss.take (j + 1))) k h1, ks_take_pa h, hdrop, htake]
  have hlen : (((ks (ss.take j)).drop f).take (l - f + 1)).length = l - f + 1 := by rw [List.length_take, List.length_drop, el]; omega
  rw [count_flat_take _ k (by omega) t _ (by rw [hlen, Nat.mul_comm]; omega), hlen]
  rw [List.take_take, Nat.min_eq_left (Nat.le_of_lt hm)]
  have s1 := count_take_split (ks (ss.take j)) k (a := f) (b := l + 1) (by omega)
  rw [show l + 1 - f = l - f + 1 by omega] at s1
  have s2 := count_take_split (ks (ss.take j)) k (a := f) (b := f + (p - sz (ss.take j)) % (l - f + 1)) (by omega)
  rw [Nat.add_sub_cancel_left] at s2
  rw [s1, s2]
  simp only [Int.natCast_add, Int.natCast_mul]
  rw [show (((ks (ss.take j)).take f).count k : Int) + (((ks (ss.take j)).drop f).take (l - f + 1)).count k - ((ks (ss.take j)).take f).count k = ((((ks (ss.take j)).drop f).take (l - f + 1)).count k : Int) by omega]
  omega
end
end L2.Px

set_option Elab.async false
set_option linter.all false
set_option maxRecDepth 100000
set_option maxHeartbeats 1000000
/-! walks of pairs; l[i] op= e; counters in the heap -/
namespace L2.Px
open PySem PySem.Spec PyProof.Rows StX TL
/-- a walk of n turns whose i-th item is a new tuple of it i -/
structure Pairy (J : It) (n : Nat) (it : Nat → List V) (H1 : Hp) : Prop where
  stop : ∀ H, Same H1 H → J.stop n H
  go : ∀ i H, Same H1 H → i < n → J.go i H
  yld : ∀ i H x H', Same H1 H → i < n → J.yld i H x H' → ∃ T, H T = none ∧ H' = upd H T (.tup (it i)) ∧ x = .ref T
theorem pairy_zip {K : PySem.W.Frag} {a b : Addr} {xs ys : List V} {H1 : Hp} (ha : SqL K H1 a xs) (hb : SqL K H1 b ys) : Pairy (Itz K a b) (min xs.length ys.length) (fun i => [(xs[i]?).getD .non, (ys[i]?).getD .non]) H1 where
  stop := fun H s => ⟨xs, ys, s.seq ha, s.seq hb, by omega⟩
  go := fun i H s hi => ⟨xs, ys, _, _, s.seq ha, s.seq hb, List.getElem?_eq_getElem (by omega), List.getElem?_eq_getElem (by omega)⟩
  yld := fun i H x H' s hi y => by
    obtain ⟨T, u, v, e1, e2, e3, e4, e5⟩ := y
    exact ⟨T, e2, by rw [e3, e4 xs (s.seq ha), e5 ys (s.seq hb)]; rfl, e1⟩
theorem pairy_enum {K : PySem.W.Frag} {a : Addr} {xs : List V} {H1 : Hp} (ha : SqL K H1 a xs) : Pairy (Ite K a) xs.length (fun i => [.int (i : Nat), (xs[i]?).getD .non]) H1 where
  stop := fun H s => ⟨xs, s.seq ha, Nat.le_refl _⟩
  go := fun i H s hi => ⟨xs, _, s.seq ha, List.getElem?_eq_getElem hi⟩
  yld := fun i H x H' s hi y => by
    obtain ⟨T, u, e1, e2, e3, e4⟩ := y
    exact ⟨T, e2, by rw [e3, e4 xs (s.seq ha)]; rfl, e1⟩
/-- [e for a, b in ..] -/
theorem lc_pair {K : PySem.W.Frag} {J : It} {n m : Nat} {it : Nat → List V} {H1 : Hp} {te : TE} {vs : List Nat} {σ : St} {D : Addr} {Qd : Hp → Prop} {j1 j2 : Nat} (x y : Nat → V) (P : Pairy J n it H1) (hD : H1 D = none) (hn : n ≤ sizeLine) (h2 : m = 2) (hit : ∀ i, i < n → it i = [x i, y i])
    (hj : ∀ v u, wipe (((wipe σ vs).set j1 (some v)).set j2 (some u)) vs = wipe σ vs) (f : Nat → V)
    (hs : ∀ i H (Q : VK), i < n → Same H1 H → (∀ H', Same H H' → Q (f i) H') → te (((wipe σ vs).set j1 (some (x i))).set j2 (some (y i))) H Q)
    (hd : ∀ H, Same H1 H → H D = some (.lst ((List.range n).map f)) → Qd H) : LcW J (gTup K m (gCons (gName j1) (gCons (gName j2) gNil))) tYes te vs σ H1 D Qd := by
  refine ⟨fun i m H => m = n - i ∧ i ≤ n ∧ Same H1 H ∧ H D = some (.lst ((List.range i).map f)), ⟨_, rfl, Nat.zero_le _, Same.new (Same.refl _) hD, upd_same⟩, ?_⟩
  rintro i m H ⟨rfl, hi, S, eD⟩
  by_cases hlt : i < n
  · refine .inr ⟨P.go i H S hlt, fun H' => i + 1 ≤ n ∧ Same H1 H' ∧ H' D = some (.lst ((List.range (i + 1)).map f)), fun H' z => ⟨n - (i + 1), by omega, rfl, z⟩, fun z H' q => ?_⟩
    obtain ⟨T, hT, e1, e2⟩ := P.yld i H z H' S hlt q
    subst e1 e2
    rw [hit i hlt]
    refine rd_gtup (SqT.of upd_same) h2.symm (rd_gcons (rd_name (rd_gcons (rd_name (rd_gnil ⟨hj _ _, rd_yes (iteT ?_)⟩)))))
    have S1 : Same H (upd H T (.tup [x i, y i])) := Same.new (Same.refl _) hT
    refine hs i _ _ hlt (S.trans S1) fun H2 S2 => ⟨_, S2 _ _ (S1 _ _ eD), by rw [List.length_map, List.length_range]; omega, hlt, Same.mut ((S.trans S1).trans S2) hD, ?_⟩
    rw [upd_same, List.range_succ, List.map_append]
    rfl
  · have e : i = n := by omega
    subst e
    exact .inl ⟨P.stop H S, hd H S eD⟩
/-- for a, b in .. -/
theorem for_pair {J : It} {n : Nat} {it : Nat → List V} {g : TG} {tb : TS} {D : Ends} {σ : St} {H : Hp} (Pv : Nat → St → Hp → Prop) (h0 : Pv 0 σ H) (hl : ∀ i σ H, i ≤ n → Pv i σ H → Pairy J n it H)
    (hs : ∀ i T σ H, i < n → Pv i σ H → H T = none → g (.ref T) σ (upd H T (.tup (it i))) fun σ2 H2 => tb { D with nx := Pv (i + 1), ct := Pv (i + 1), bk := D.nx } σ2 H2) (hd : ∀ σ H, Pv n σ H → D.nx σ H) : ForW J g tb D σ H := by
  refine ⟨fun i m σ H => m = n - i ∧ i ≤ n ∧ Pv i σ H, ⟨n, by simp, Nat.zero_le _, h0⟩, ?_⟩
  rintro i m σ H ⟨rfl, hi, p⟩
  have q := hl i σ H hi p
  by_cases hlt : i < n
  · refine .inr ⟨q.go i H (Same.refl _) hlt, Pv (i + 1), fun σ' H' p' => ⟨n - (i + 1), by omega, rfl, hlt, p'⟩, fun x H' y => ?_⟩
    obtain ⟨T, hT, e1, e2⟩ := q.yld i H x H' (Same.refl _) hlt y
    subst e1 e2
    exact hs i T σ H hlt p hT
  · have e : i = n := by omega
    subst e
    exact .inl ⟨q.stop H (Same.refl _), hd σ H p⟩
/-! l[i] op= e -/
section
variable {X : Cx} {K : PySem.W.Frag}
def rGetL (K : PySem.W.Frag) : V → V → Hp → VK → Prop := fun x y H Q => ∃ (p : Addr) (xs : List V) (i : Nat) (v : V), x = .ref p ∧ y = .int i ∧ SqL K H p xs ∧ xs[i]? = some v ∧ Q v H
theorem pget_list (hk : X.K = K) : PGet X (rGetL K) := by
  subst hk
  intro pins s σ H o i ov iv Q I r1 r2 h
  obtain ⟨p, xs, j, v, rfl, rfl, hq, he, q⟩ := h
  cases r1
  obtain ⟨t, rfl⟩ := r2
  obtain ⟨its, r, pl, hz⟩ := I.list hq
  obtain ⟨w, ew, rw'⟩ := r.get he
  have hl := r.length
  have hn := line63
  have hj : j < xs.length := (List.getElem?_eq_some_iff.mp he).1
  exact wpAny_getItem_list pl.isList (by omega) (by omega) (by simpa using ew) ⟨v, H, I, rw', q⟩
variable {σ : St} {H : Hp} {to ti te : TE} {tget : V → V → Hp → VK → Prop} {tip : TIp} {tset : TSet} {nx ct bk : St → Hp → Prop} {rt : VK}
theorem rd_augS (h : to σ H fun o H1 => ti σ H1 fun i H2 => tget o i H2 fun x H3 => te σ H3 fun y H4 => tip x y H4 fun z H5 => tset o i z H5 fun H6 => nx σ H6) : tAugS to ti te tget tip tset ⟨nx, rt, bk, ct⟩ σ H := h
theorem rd_getL {a : Addr} {xs : List V} {j : Nat} {v : V} {Q : VK} (h : SqL K H a xs) (e : xs[j]? = some v) (q : Q v H) : rGetL K (.ref a) (.int j) H Q := ⟨a, xs, j, v, rfl, rfl, h, e, q⟩
theorem divmodK : CallR X (.builtin "divmod") (fun xs H Q => ∃ i j, xs = [.int i, .int j] ∧ CDivP i j ∧ ∀ p, H p = none → Q (.ref p) (upd H p (.tup [.int (i / j), .int (i % j)]))) := call_divmodW
def rDivm : List V → Hp → VK → Prop := fun xs H Q => ∃ i j, xs = [.int i, .int j] ∧ CDivP i j ∧ ∀ p, H p = none → Q (.ref p) (upd H p (.tup [.int (i / j), .int (i % j)]))
theorem cDivm : CallR X (.builtin "divmod") rDivm := call_divmodW
theorem rd_divm {i j : Int} {Q : VK} (hc : CDivP i j) (q : ∀ p H', Same H H' → H' p = some (.tup [.int (i / j), .int (i % j)]) → Q (.ref p) H') : rDivm [.int i, .int j] H Q := ⟨i, j, rfl, hc, new_of q⟩
end
theorem bits_small {i : Int} (h0 : 0 ≤ i) (h1 : i ≤ 1000000000000000000) : Builtin.Int.intBits i ≤ 4000 := by
  unfold Builtin.Int.intBits
  split
  · omega
  · rename_i h
    have h2 : i.natAbs ≠ 0 := fun z => h (by simpa using Int.natAbs_eq_zero.mp z)
    have : i.natAbs.log2 < 60 := (Nat.log2_lt h2).mpr (by omega)
    omega
theorem divp_small {i j : Int} (hj : 0 < j) (h0 : 0 ≤ i) (h1 : i ≤ 1000000000000000000) : CDivP i j := divp_ok hj (Nat.le_trans (bits_small h0 h1) (Nat.le_add_left _ _))
end L2.Px

set_option Elab.async false
set_option linter.all false
set_option maxRecDepth 100000
set_option maxHeartbeats 1000000
/-! counters in the heap: what they remember, and how much that is at most -/
namespace L2.Px
open PySem PySem.Spec PyProof.Rows StX TL
theorem nodup_len {α : Type} [DecidableEq α] : ∀ {l m : List α}, l.Nodup → (∀ x ∈ l, x ∈ m) → l.length ≤ m.length
  | [], m, _, _ => Nat.zero_le _
  | x :: l, m, h, hs => by
    obtain ⟨h1, h2⟩ := List.nodup_cons.mp h
    have hx := hs x List.mem_cons_self
    have := nodup_len (l := l) (m := m.erase x) h2 fun y hy => by
      have hne : y ≠ x := fun z => h1 (z ▸ hy)
      exact (List.mem_erase_of_ne hne).mpr (hs y (List.mem_cons_of_mem _ hy))
    rw [List.length_erase_of_mem hx] at this
    have := List.length_pos_of_mem hx
    simp only [List.length_cons]
    omega
theorem flat_len {α β : Type} (f : α → List β) (b : Nat) : ∀ l : List α, (∀ x ∈ l, (f x).length ≤ b) → (l.flatMap f).length ≤ b * l.length
  | [], _ => by simp
  | x :: l, h => by
    rw [List.flatMap_cons, List.length_append, List.length_cons, Nat.mul_succ]
    have := h x List.mem_cons_self
    have := flat_len f b l fun y hy => h y (List.mem_cons_of_mem _ hy)
    omega
def cs1 (ss : List Stp) (j : Nat) : List Nat := match ss[j]? with
  | some (.pa f l _) => [sz (ss.take j), f, l + 1]
  | _ => [sz (ss.take j)]
def consts (ss : List Stp) : List Nat := 0 :: (List.range ss.length).flatMap (cs1 ss)
theorem consts_len (ss : List Stp) : (consts ss).length ≤ 3 * ss.length + 1 := by
  have := flat_len (cs1 ss) 3 (List.range ss.length) fun j _ => by unfold cs1; split <;> simp
  rw [List.length_range] at this
  simp only [consts, List.length_cons]; omega
def phi (ss : List Stp) (x : Nat) : Nat := match (List.range ss.length).find? (fun j => decide (sz (ss.take j) < x ∧ x ≤ sz (ss.take (j + 1)))) with
  | some j => (match ss[j]? with
    | some (.pa f l _) => f + (x - sz (ss.take j)) % (l - f + 1)
    | _ => 0)
  | none => 0
def itn (ss : List Stp) : Nat → Nat → Nat
  | 0, x => x
  | i + 1, x => phi ss (itn ss i x)
def Reach (ss : List Stp) (qs : List Nat) (x n : Nat) : Prop := ∃ c ∈ consts ss ++ qs, ∃ i, i + n ≤ 31 ∧ x = itn ss i c
def reachL (ss : List Stp) (qs : List Nat) : List Nat := (consts ss ++ qs).flatMap fun c => (List.range 32).map fun i => itn ss i c
theorem reachL_len (ss : List Stp) (qs : List Nat) : (reachL ss qs).length ≤ 32 * (3 * ss.length + 1 + qs.length) := by
  have := flat_len (fun c => (List.range 32).map fun i => itn ss i c) 32 (consts ss ++ qs) fun c _ => by simp
  have h := consts_len ss
  rw [List.length_append] at this
  unfold reachL
  omega
theorem Reach.mem {ss : List Stp} {qs : List Nat} {x n : Nat} (h : Reach ss qs x n) : x ∈ reachL ss qs := by
  obtain ⟨c, hc, i, hi, rfl⟩ := h
  exact List.mem_flatMap.mpr ⟨c, hc, List.mem_map.mpr ⟨i, List.mem_range.mpr (by omega), rfl⟩⟩
theorem reach_mono {ss : List Stp} {qs : List Nat} {q x : Nat} (h : x ∈ reachL ss qs) : x ∈ reachL ss (q :: qs) := by
  obtain ⟨c, hc, h2⟩ := List.mem_flatMap.mp h
  refine List.mem_flatMap.mpr ⟨c, ?_, h2⟩
  rcases List.mem_append.mp hc with hc | hc
  · exact List.mem_append_left _ hc
  · exact List.mem_append_right _ (List.mem_cons_of_mem _ hc)
theorem reach_q {ss : List Stp} {qs : List Nat} {q n : Nat} (hn : n ≤ 31) : Reach ss (q :: qs) q n := ⟨q, List.mem_append_right _ List.mem_cons_self, 0, by omega, rfl⟩
theorem reach_c {ss : List Stp} {qs : List Nat} {j x n : Nat} (hj : j < ss.length) (hx : x ∈ cs1 ss j) (hn : n ≤ 31) : Reach ss qs x n :=
  ⟨x, List.mem_append_left _ (List.mem_cons_of_mem _ (List.mem_flatMap.mpr ⟨j, List.mem_range.mpr hj, hx⟩)), 0, by omega, rfl⟩
theorem sz_take_mono {ss : List Stp} {i j : Nat} (h : i ≤ j) : sz (ss.take i) ≤ sz (ss.take j) := by
  have := sz_take_le (ss := ss.take j) i
  rwa [take_take_le h] at this
theorem phi_at {ss : List Stp} {j f l t x : Nat} (h : ss[j]? = some (.pa f l t)) (h1 : sz (ss.take j) < x) (h2 : x ≤ sz (ss.take (j + 1))) : phi ss x = f + (x - sz (ss.take j)) % (l - f + 1) := by
  have hj : j < ss.length := (List.getElem?_eq_some_iff.mp h).1
  have e : (List.range ss.length).find? (fun j => decide (sz (ss.take j) < x ∧ x ≤ sz (ss.take (j + 1)))) = some j := by
    rw [List.find?_range_eq_some]
    refine ⟨by simpa using ⟨h1, h2⟩, List.mem_range.mpr hj, fun i hi => ?_⟩
    have := sz_take_mono (ss := ss) (show i + 1 ≤ j by omega)
    simp
    omega
  unfold phi
  rw [e]
  simp only [h]
theorem reach_phi {ss : List Stp} {qs : List Nat} {j f l t x n : Nat} (h : ss[j]? = some (.pa f l t)) (h1 : sz (ss.take j) < x) (h2 : x ≤ sz (ss.take (j + 1))) (r : Reach ss qs x (n + 1)) : Reach ss qs (f + (x - sz (ss.take j)) % (l - f + 1)) n := by
  obtain ⟨c, hc, i, hi, e⟩ := r
  refine ⟨c, hc, i + 1, by omega, ?_⟩
  rw [← phi_at h h1 h2, e]; rfl
/-- the part in which x ends -/
theorem part_of {ss : List Stp} : ∀ {n x : Nat}, 1 ≤ x → x ≤ sz (ss.take n) → ∃ j, j < n ∧ j < ss.length ∧ sz (ss.take j) < x ∧ x ≤ sz (ss.take (j + 1))
  | 0, x, h1, h2 => by simp [sz] at h2; omega
  | n + 1, x, h1, h2 => by
    by_cases h : x ≤ sz (ss.take n)
    · obtain ⟨j, a, b⟩ := part_of h1 h
      exact ⟨j, by omega, b⟩
    · have hn : n < ss.length := by
        rcases Nat.lt_or_ge n ss.length with z | z
        · exact z
        · rw [List.take_of_length_le (by omega)] at h h2
          exact absurd h2 h
      exact ⟨n, by omega, hn, by omega, h2⟩
theorem filter_pre {n j : Nat} {q : Nat → Bool} (hj : j < n) (h : ∀ i, i < n → (q i = true ↔ i ≤ j)) : (List.range n).filter q = List.range (j + 1) := by
  have e : List.range n = List.range (j + 1) ++ (List.range (n - (j + 1))).map (j + 1 + ·) := by
    rw [← List.range_add]; congr 1; omega
  rw [e, List.filter_append, List.filter_eq_self.mpr, List.filter_eq_nil_iff.mpr, List.append_nil]
  · intro x hx
    obtain ⟨y, hy, rfl⟩ := List.mem_map.mp hx
    rw [List.mem_range] at hy
    intro z
    have := (h _ (by omega)).mp z
    omega
  · intro x hx
    rw [List.mem_range] at hx
    exact (h x (by omega)).mpr (by omega)
def counterF (a d : Addr) : List (Str × V) := putF "known" (.ref d) (putF "text" (.ref a) [])
theorem counterF_known {a d : Addr} : (counterF a d).lookup ("known" : Str) = some (.ref d) := by unfold counterF; rw [lookup_putF, if_pos rfl]
theorem counterF_text {a d : Addr} : (counterF a d).lookup ("text" : Str) = some (.ref a) := by
  unfold counterF; rw [lookup_putF, if_neg (by decide +kernel), lookup_putF, if_pos rfl]
theorem counterF_no {a d : Addr} {x : Str} (h : x ≠ "known" ∧ x ≠ "text") : (counterF a d).lookup x = none := by
  unfold counterF; rw [lookup_putF, if_neg h.1, lookup_putF, if_neg h.2]; rfl
/-- what is remembered: for places, the counts ahead of them -/
structure Known (H : Hp) (d : Addr) (ss : List Stp) (qs : List Nat) (av : Addr → Prop) : Prop where
  ex : ∃ kvs : List (Key × V), H d = some (.dK kvs) ∧ (kvs.map (·.1)).Nodup ∧ (∃ v, valV kvs (Sum.inl 0 : Key) = some v) ∧
    ∀ kv ∈ kvs, ∃ (x : Nat) (l : Addr), kv = (Sum.inl (x : Int), V.ref l) ∧ x ∈ reachL ss qs ∧ H l = some (.lst (natV (cnt ss x))) ∧ ¬ av l
structure CtAt (K : PySem.W.Frag) (CT CP CC : Addr) (H : Hp) (c a d : Addr) (ss : List Stp) (qs : List Nat) (av : Addr → Prop) : Prop where
  ins : ∃ dx, H c = some (.ins CC dx (counterF a d))
  tx : TX K CT CP H a ss
  kn : Known H d ss qs av
  few : qs.length ≤ 10000
section
variable {K : PySem.W.Frag} {CT CP CC : Addr} {H H' : Hp} {Q : VK} {E : XK} {c a d l : Addr} {ss : List Stp} {qs : List Nat} {q x : Nat} {kvs : List (Key × V)} {av : Addr → Prop}
/-- all but the dict d -/
theorem but_txt {t : TxI} (e : But d H H') (hd : H d = some (.dK kvs)) (h : TextAt K CT CP H a t) : TextAt K CT CP H' a t := by
  have ne : ∀ {b o}, (∀ k, o ≠ HO.dK k) → H b = some o → H' b = some o := fun {b o} ho hb => e b o (fun z => by subst z; rw [hd] at hb; cases hb; exact ho _ rfl) hb
  have f : Free1 H d := ⟨fun xs z => (by rw [hd] at z; cases z), fun o u z => (by rw [hd] at z; cases z)⟩
  exact ⟨ne (fun k z => by cases z) h.ins, e.tup f h.made, e.steps f h.stp, ne (fun k z => by cases z) h.pls, PartsAt.but e (fun dx fs z => by rw [hd] at z; cases z) h.prt, h.ok, h.few⟩
theorem TX.but (h : TX K CT CP H a ss) (e : But d H H') (hd : H d = some (.dK kvs)) : TX K CT CP H' a ss := let ⟨t, T, q⟩ := h; ⟨t, but_txt e hd T, q⟩
theorem but_lst {xs : List V} (e : But d H H') (hd : H d = some (.dK kvs)) (h : H l = some (.lst xs)) : H' l = some (.lst xs) := e _ _ (fun z => by subst z; rw [hd] at h; cases h) h
theorem CtAt.mono (h : CtAt K CT CP CC H c a d ss qs av) (e : Same H H') : CtAt K CT CP CC H' c a d ss qs av := by
  obtain ⟨⟨dx, h1⟩, h2, ⟨kvs, k1, k2, k3, k4⟩, h4⟩ := h
  exact ⟨⟨dx, e _ _ h1⟩, h2.kp (Kp.same e), ⟨kvs, e _ _ k1, k2, k3, fun kv hkv => let ⟨x, l, a, b, c⟩ := k4 kv hkv; ⟨x, l, a, b, e _ _ c.1, c.2⟩⟩, h4⟩
theorem CtAt.query (h : CtAt K CT CP CC H c a d ss qs av) (hq : qs.length < 10000) : CtAt K CT CP CC H c a d ss (q :: qs) av := by
  obtain ⟨h1, h2, ⟨kvs, k1, k2, k3, k4⟩, h4⟩ := h
  exact ⟨h1, h2, ⟨kvs, k1, k2, k3, fun kv hkv => let ⟨x, l, a, b, c⟩ := k4 kv hkv; ⟨x, l, a, reach_mono b, c⟩⟩, by simp; omega⟩
theorem Known.small (h : Known H d ss qs av) (hd : H d = some (.dK kvs)) (hs : ss.length ≤ 30) (hq : qs.length ≤ 10000) : kvs.length < sizeLine := by
  obtain ⟨kvs', k1, k2, k3, k4⟩ := h
  rw [hd] at k1; cases k1
  have := nodup_len (m := (reachL ss qs).map fun (x : Nat) => (Sum.inl (x : Int) : Key)) k2 fun y hy => by
    obtain ⟨kv, hkv, rfl⟩ := List.mem_map.mp hy
    obtain ⟨x, l, rfl, hx, _⟩ := k4 kv hkv
    exact List.mem_map.mpr ⟨x, hx, rfl⟩
  rw [List.length_map, List.length_map] at this
  have h2 := reachL_len ss qs
  rw [sizeLine_eq]; omega
/-- one more place is remembered -/
theorem CtAt.put (h : CtAt K CT CP CC H c a d ss qs av) (hd : H d = some (.dK kvs)) (hn : valV kvs (Sum.inl (x : Int) : Key) = none) (hx : x ∈ reachL ss qs) (hl : H l = some (.lst (natV (cnt ss x)))) (hv : ¬ av l) :
    CtAt K CT CP CC (upd H d (.dK (putK kvs (Sum.inl (x : Int)) (.ref l)))) c a d ss qs av := by
  have B : But d H (upd H d (.dK (putK kvs (Sum.inl (x : Int)) (.ref l)))) := But.at But.refl
  obtain ⟨⟨dx, h1⟩, h2, ⟨kvs', k1, k2, ⟨v, k3⟩, k4⟩, h4⟩ := h
  rw [hd] at k1; cases k1
  refine ⟨⟨dx, B _ _ (fun z => by subst z; rw [hd] at h1; cases h1) h1⟩, h2.but B hd, ⟨_, upd_same, nd_putK _ k2 hn, ?_, fun kv hkv => ?_⟩, h4⟩
  · rw [valV_put]
    split
    · exact ⟨_, rfl⟩
    · exact ⟨v, k3⟩
  · rw [putK_new _ hn] at hkv
    rcases List.mem_append.mp hkv with hkv | hkv
    · obtain ⟨x', l', e1, e2, e3⟩ := k4 kv hkv
      exact ⟨x', l', e1, e2, but_lst B hd e3.1, e3.2⟩
    · cases List.mem_singleton.mp hkv
      exact ⟨x, l, rfl, hx, but_lst B hd hl, hv⟩
theorem Known.get (h : Known H d ss qs av) (hd : H d = some (.dK kvs)) {v : V} (hv : valV kvs (Sum.inl (x : Int) : Key) = some v) : ∃ l, v = .ref l ∧ H l = some (.lst (natV (cnt ss x))) := by
  obtain ⟨kvs', k1, k2, k3, k4⟩ := h
  rw [hd] at k1; cases k1
  unfold valV at hv
  obtain ⟨kv, h1, rfl⟩ := Option.map_eq_some_iff.mp hv
  have h2 := List.find?_some h1
  obtain ⟨x', l, e1, _, e2, _⟩ := k4 kv (List.mem_of_find?_eq_some h1)
  have h3 : kv.1 = Sum.inl (x : Int) := of_decide_eq_true h2
  subst e1
  have : x' = x := by
    have : (x' : Int) = x := Sum.inl.inj h3
    omega
  subst this
  exact ⟨l, rfl, e2⟩
variable (K CT CP CC)
def sp_Counter_init : Sp := fun vs H Q _ => ∃ c dx a ss, vs = [.ref c, .ref a] ∧ H c = some (.ins CC dx []) ∧ TX K CT CP H a ss ∧ ∀ H' d, But c H H' → CtAt K CT CP CC H' c a d ss [] (fun b => H b ≠ none) → H d = none → Q .non H'
def sp_Counter_before (n : Nat) : Sp := fun vs H Q _ => ∃ c a d ss qs av, ∃ x : Nat, vs = [.ref c, .int x] ∧ CtAt K CT CP CC H c a d ss qs av ∧ (∀ b, av b → H b ≠ none) ∧ x ≤ sz (ss.take n) ∧ n ≤ 31 ∧ Reach ss qs x n ∧
  ∀ H' l, But d H H' → CtAt K CT CP CC H' c a d ss qs av → H' l = some (.lst (natV (cnt ss x))) → Q (.ref l) H'
def sp_Counter_counts_before (n : Nat) : Sp := fun vs H Q _ => ∃ c a d ss qs av, ∃ x : Nat, vs = [.ref c, .int x] ∧ CtAt K CT CP CC H c a d ss qs av ∧ (∀ b, av b → H b ≠ none) ∧ 1 ≤ x ∧ x ≤ sz (ss.take n) ∧ n ≤ 31 ∧ Reach ss qs x n ∧
  ∀ H' l, But d H H' → CtAt K CT CP CC H' c a d ss qs av → H' l = some (.lst (natV (cnt ss x))) → H l = none → Q (.ref l) H'
end
end L2.Px

set_option Elab.async false
set_option linter.all false
set_option maxRecDepth 100000
set_option maxHeartbeats 1000000
/-! more reading steps: dicts, zips, counters -/
namespace L2.Px
open PySem PySem.Spec PyProof.Rows StX TL
section
variable {X : Cx} {K : PySem.W.Frag} {ta : TA} {e e2 : Expr} {p pos tpos : Pos} {elts : List Expr} {kk : Nat}
theorem pi_zipK (hk : X.K = K) (hg : Gl X "zip") (hm : X.mg "zip" = none) (ha : PA X [e, e2] ta)
    (hs : starEach [e, e2] X.env = (false, eval e X.env) :: starEach [e2] X.env := by rfl) (hpl : (backTo pos (starEach [e2] X.env)).any (·.1) = false := by rfl) :
    PI X (.Tuple elts kk tpos) (.Call (.Name "zip" p) [e, e2] [] pos) (iZip K ta) := hk ▸ pi_zip hg hm ha hs hpl
theorem pi_enumK (hk : X.K = K) (hg : Gl X "enumerate") (hm : X.mg "enumerate" = none) (ha : PA X [e] ta) (hs : starEach [e] X.env = [(false, eval e X.env)] := by rfl) :
    PI X (.Tuple elts kk tpos) (.Call (.Name "enumerate" p) [e] [] pos) (iEnum K ta) := hk ▸ pi_enum hg hm ha hs
variable {σ : St} {H : Hp} {Rr : It → Hp → Prop} {a b : Addr} {xs ys : List V}
theorem rd_iZip (h : ta σ H fun vs H1 => ∃ a b xs ys, vs = [.ref a, .ref b] ∧ SqL K H1 a xs ∧ SqL K H1 b ys ∧ Rr (Itz K a b) H1) : iZip K ta σ H Rr := h
theorem rd_zip2 {A : It → Prop} (ha : SqL K H a xs) (hb : SqL K H b ys) (h : A (Itz K a b)) : ∃ a' b' xs ys, [V.ref a, V.ref b] = [.ref a', .ref b'] ∧ SqL K H a' xs ∧ SqL K H b' ys ∧ A (Itz K a' b') := ⟨a, b, xs, ys, rfl, ha, hb, h⟩
theorem rd_iEnum (h : ta σ H fun vs H1 => ∃ a xs, vs = [.ref a] ∧ SqL K H1 a xs ∧ Rr (Ite K a) H1) : iEnum K ta σ H Rr := h
theorem rd_enum1 {A : It → Prop} (ha : SqL K H a xs) (h : A (Ite K a)) : ∃ a' xs, [V.ref a] = [.ref a'] ∧ SqL K H a' xs ∧ A (Ite K a') := ⟨a, xs, rfl, ha, h⟩
variable {td ty tv te : TE} {nx ct bk : St → Hp → Prop} {rt : VK} {tc : TE} {R : Bool → Hp → Prop} {Q : VK}
theorem rd_dget (h : td σ H fun x H1 => ty σ H1 fun y H2 => ∃ a v, x = .ref a ∧ DGet H2 a y (some v) ∧ Q v H2) : tDGet td ty σ H Q := h
theorem rd_dput (h : tv σ H fun v H1 => td σ H1 fun x H2 => ty σ H2 fun y H3 => ∃ a H4, x = .ref a ∧ DPut H3 a y v H4 ∧ nx σ H4) : sDPut td ty tv ⟨nx, rt, bk, ct⟩ σ H := h
theorem rd_dnotin (h : ty σ H fun y H1 => td σ H1 fun x H2 => ∃ a o, x = .ref a ∧ DGet H2 a y o ∧ Q (.bl (!o.isSome)) H2) : tDNotIn ty td σ H Q := h
theorem rd_din (h : ty σ H fun y H1 => td σ H1 fun x H2 => ∃ a o, x = .ref a ∧ DGet H2 a y o ∧ Q (.bl o.isSome) H2) : tDIn ty td σ H Q := h
theorem rd_disp {trs : List (TE × TE)} (h : ∀ p, H p = none → tPairs trs σ (upd H p (.dK [])) fun ps H2 => H2 p = some (.dK []) ∧ ∃ kvs : List (Key × V), ps = kvs.map (fun kv => (kV kv.1, kv.2)) ∧ kvs.length ≤ 15 ∧ Q (.ref p) (upd H2 p (.dK (mergeK [] kvs)))) : tDisp trs σ H Q := h
theorem rd_pairsN {Q : List (V × V) → Hp → Prop} (h : Q [] H) : tPairs [] σ H Q := h
theorem rd_pairsC {tk tv : TE} {r : List (TE × TE)} {Q : List (V × V) → Hp → Prop} (h : tk σ H fun x H1 => tv σ H1 fun y H2 => tPairs r σ H2 fun ps H3 => Q ((x, y) :: ps) H3) : tPairs ((tk, tv) :: r) σ H Q := h
theorem rd_augSk {to ti te : TE} {tget : V → V → Hp → VK → Prop} {tip : TIp} {tset : TSet} (h : to σ H fun o H1 => ti σ H1 fun i H2 => tget o i H2 fun x H3 => te σ H3 fun y H4 => tip x y H4 fun z H5 => tset o i z H5 fun H6 => nx σ H6) : tAugS to ti te tget tip tset ⟨nx, rt, bk, ct⟩ σ H := h
theorem rd_par3 {i j l : Nat} (h : ta σ H fun vs H1 => ∃ v w u, vs = [v, w, u] ∧ nx (((σ.set i (some v)).set j (some w)).set l (some u)) H1) : tPar3 i j l ta ⟨nx, rt, bk, ct⟩ σ H := h
end
section
variable {K : PySem.W.Frag} {CT CP CC : Addr} {H H' : Hp} {a c d x : Addr} {ss : List Stp} {qs : List Nat} {dx : Addr} {fs : List (Str × V)} {av : Addr → Prop}
theorem TX.butI (h : TX K CT CP H a ss) (e : But c H H') (hc : H c = some (.ins CC dx fs)) (n1 : CT ≠ CC) (n2 : CP ≠ CC) : TX K CT CP H' a ss := by
  obtain ⟨t, T, q⟩ := h
  have ne : ∀ {b o}, (∀ D fs, o ≠ HO.ins CC D fs) → H b = some o → H' b = some o := fun {b o} ho hb => e b o (fun z => by subst z; rw [hc] at hb; cases hb; exact ho _ _ rfl) hb
  have f := free1_ins hc
  exact ⟨t, ⟨ne (fun D fs z => n1 (by cases z; rfl)) T.ins, e.tup f T.made, e.steps f T.stp, ne (fun D fs z => by cases z) T.pls, PartsAt.but e (fun dx fs z => n2 (by rw [hc] at z; cases z; rfl)) T.prt, T.ok, T.few⟩, q⟩
theorem natV_rep (k m : Nat) : (List.replicate k [V.int (m : Nat)]).flatten = natV (List.replicate k m) := by
  unfold natV
  rw [List.map_replicate]
  induction k with
  | zero => rfl
  | succ k ih => rw [List.replicate_succ, List.flatten_cons, ih, List.replicate_succ]; rfl
/-- a new counter of the text at a -/
theorem ct_new {H0 : Hp} {l : Addr} (hx : H c = some (.ins CC dx [])) (T : TX K CT CP H a ss) (n1 : CT ≠ CC) (n2 : CP ≠ CC) (e : But c H H0) (h0 : H0 c = some (.ins CC dx (counterF a d))) (hd : H0 d = some (.dK [((Sum.inl 0 : Key), V.ref l)])) (hl : H0 l = some (.lst (natV (cnt ss 0)))) (hv : ¬ av l) :
    CtAt K CT CP CC H0 c a d ss [] av :=
  ⟨⟨dx, h0⟩, T.butI e hx n1 n2, ⟨_, hd, by simp, ⟨_, rfl⟩, fun kv hkv => by
    cases List.mem_singleton.mp hkv
    exact ⟨0, l, rfl, Reach.mem (n := 0) ⟨0, List.mem_append_left _ List.mem_cons_self, 0, by omega, rfl⟩, hl, hv⟩⟩, by simp⟩
theorem mem_putK {kvs : List (Key × V)} {k : Key} {v : V} {kv : Key × V} (h : kv ∈ putK kvs k v) : kv ∈ kvs ∨ kv = (k, v) := by
  unfold putK at h
  split at h
  · obtain ⟨q, hq, rfl⟩ := List.mem_map.mp h
    split
    · rename_i e
      exact .inr (by rw [e])
    · exact .inl hq
  · rcases List.mem_append.mp h with h | h
    · exact .inl h
    · exact .inr (List.mem_singleton.mp h)
theorem nd_putK2 {kvs : List (Key × V)} {k : Key} (v : V) (hn : (kvs.map (·.1)).Nodup) : ((putK kvs k v).map (·.1)).Nodup := by
  cases e : valV kvs k with
  | none => exact nd_putK v hn e
  | some u =>
    unfold putK
    rw [if_pos (by rw [valV_any, e]; rfl), List.map_map]
    have : ((·.1) ∘ fun kv : Key × V => if kv.1 = k then (kv.1, v) else kv) = (·.1) := by
      funext kv
      simp only [Function.comp]
      split <;> rfl
    rw [this]
    exact hn
theorem CtAt.put2 {kvs : List (Key × V)} {x : Nat} {l : Addr} (h : CtAt K CT CP CC H c a d ss qs av) (hd : H d = some (.dK kvs)) (hx : x ∈ reachL ss qs) (hl : H l = some (.lst (natV (cnt ss x)))) (hv : ¬ av l) :
    CtAt K CT CP CC (upd H d (.dK (putK kvs (Sum.inl (x : Int)) (.ref l)))) c a d ss qs av := by
  have B : But d H (upd H d (.dK (putK kvs (Sum.inl (x : Int)) (.ref l)))) := But.at But.refl
  obtain ⟨⟨dx, h1⟩, h2, ⟨kvs', k1, k2, ⟨v, k3⟩, k4⟩, h4⟩ := h
  rw [hd] at k1; cases k1
  refine ⟨⟨dx, B _ _ (fun z => by subst z; rw [hd] at h1; cases h1) h1⟩, h2.but B hd, ⟨_, upd_same, nd_putK2 _ k2, ?_, fun kv hkv => ?_⟩, h4⟩
  · rw [valV_put]
    split
    · exact ⟨_, rfl⟩
    · exact ⟨v, k3⟩
  · rcases mem_putK hkv with hkv | rfl
    · obtain ⟨x', l', e1, e2, e3⟩ := k4 kv hkv
      exact ⟨x', l', e1, e2, but_lst B hd e3.1, e3.2⟩
    · exact ⟨x, l, rfl, hx, but_lst B hd hl, hv⟩
theorem but_any {kvs : List (Key × V)} {b : Addr} {o : HO} (e : But d H H') (hd : H d = some (.dK kvs)) (h : H b = some o) (no : ∀ k, o ≠ .dK k) : H' b = some o := e _ _ (fun z => by subst z; rw [hd] at h; cases h; exact no _ rfl) h
/-- any part's start -/
theorem PartAt.start {v : V} {n y : Nat} {s : Stp} (h : PartAt CP H v n y s) : ∃ p dx len ty f l, v = .ref p ∧ H p = some (.ins CP dx (partF n len ty f l)) := by
  cases s with
  | wr w => obtain ⟨p, dx, e, q⟩ := h; exact ⟨p, dx, _, _, _, _, e, q⟩
  | pa f l t => obtain ⟨p, dx, e, q⟩ := h; exact ⟨p, dx, _, _, _, _, e, q⟩
def cntW (ss : List Stp) (a y i : Nat) : List Nat := (List.range (tyL ss).length).map fun k => cn ss a k + if y ≤ k ∧ k < y + i then 1 else 0
theorem cntW_zero (ss : List Stp) (a y : Nat) : cntW ss a y 0 = cnt ss a := by
  unfold cntW cnt
  apply List.map_congr_left
  intro k _
  rw [if_neg (by omega)]; rfl
theorem cntW_get {ss : List Stp} {a y i : Nat} (h : y + i < (tyL ss).length) : (natV (cntW ss a y i))[y + i]? = some (.int (cn ss a (y + i) : Nat)) := by
  unfold natV cntW
  rw [List.getElem?_map, List.getElem?_map, List.getElem?_range h]
  simp only [Option.map_some]
  rw [if_neg (by omega), Nat.add_zero]
theorem cntW_set {ss : List Stp} {a y i : Nat} : (natV (cntW ss a y i)).set (y + i) (.int ((cn ss a (y + i) : Nat) + 1)) = natV (cntW ss a y (i + 1)) := by
  apply List.ext_getElem
  · simp [natV, cntW]
  · intro k h1 h2
    rw [List.getElem_set]
    simp only [natV, cntW, List.getElem_map, List.getElem_range]
    by_cases e : y + i = k
    · rw [if_pos e, if_pos (by omega), ← e]; rfl
    · rw [if_neg e]
      congr 2
      by_cases h : y ≤ k ∧ k < y + i
      · rw [if_pos h, if_pos (by omega)]
      · rw [if_neg h, if_neg (by omega)]
theorem cntW_end {ss : List Stp} {j x : Nat} {w : Str} (ok : okFrom 0 ss) (h : ss[j]? = some (.wr w)) (h1 : sz (ss.take j) ≤ x) (h2 : x ≤ sz (ss.take (j + 1))) : cntW ss (sz (ss.take j)) (tyL (ss.take j)).length (x - sz (ss.take j)) = cnt ss x := by
  unfold cntW cnt
  apply List.map_congr_left
  intro k _
  exact (cn_wr ok h h1 h2 k).symm
theorem cnt_nat {ss : List Stp} {x k : Nat} (h : k < (tyL ss).length) : (cnt ss x)[k]?.getD 0 = cn ss x k := by rw [cnt_get h]; rfl
theorem natV_snoc (L : List Nat) (m : Nat) : natV (L ++ [m]) = natV L ++ [V.int (m : Nat)] := by unfold natV; rw [List.map_append]; rfl
theorem natV_get {L : List Nat} {i : Nat} (h : i < L.length) : ((natV L)[i]?).getD .non = .int (L[i]?.getD 0 : Nat) := by
  unfold natV; rw [List.getElem?_map, List.getElem?_eq_getElem h]; rfl
theorem wmul {i j : Int} (h1 : i.natAbs ≤ 1000000000000000000) (h2 : j.natAbs ≤ 1000000000000000000) : CMulW i j := wide_mul (a := 60) (b := 60) (by omega) (by omega) (by decide) (by decide) (by decide)
theorem ixN_natx {n j : Nat} (hj : j < n) : ixN n (j : Int) = some j := by
  unfold ixN
  rw [if_pos (by omega), if_pos (by omega)]
  simp
theorem pairy_enumN {l : Addr} {L : List Nat} (h : H l = some (.lst (natV L))) : Pairy (Ite K l) L.length (fun i => [.int (i : Nat), .int (L[i]?.getD 0 : Nat)]) H := by
  have P := pairy_enum (K := K) (SqL.of h)
  rw [natV_len] at P
  exact ⟨P.stop, P.go, fun i H1 x H2 s hi y => by
    obtain ⟨T, a, b, c⟩ := P.yld i H1 x H2 s hi y
    rw [natV_get hi] at b
    exact ⟨T, a, b, c⟩⟩
theorem pairy_zipN {l m : Addr} {L M : List Nat} (h : H l = some (.lst (natV L))) (g : H m = some (.lst (natV M))) : Pairy (Itz K l m) (min L.length M.length) (fun i => [.int (L[i]?.getD 0 : Nat), .int (M[i]?.getD 0 : Nat)]) H := by
  have P := pairy_zip (K := K) (SqL.of h) (SqL.of g)
  rw [natV_len, natV_len] at P
  exact ⟨P.stop, P.go, fun i H1 x H2 s hi y => by
    obtain ⟨T, a, b, c⟩ := P.yld i H1 x H2 s hi y
    rw [natV_get (by omega), natV_get (by omega)] at b
    exact ⟨T, a, b, c⟩⟩
theorem but_some {kvs : List (Key × V)} {b : Addr} (e : But d H H') (hd : H' d = some (.dK kvs)) (h : H b ≠ none) : H' b ≠ none := by
  by_cases z : b = d
  · subst z; rw [hd]; exact fun q => by cases q
  · cases hb : H b with
    | none => exact absurd hb h
    | some o => rw [e _ _ z hb]; exact fun q => by cases q
theorem same_some {b : Addr} (e : Same H H') (h : H b ≠ none) : H' b ≠ none := by
  cases hb : H b with
  | none => exact absurd hb h
  | some o => rw [e _ _ hb]; exact fun q => by cases q
theorem none_back {b : Addr} (e : Same H H') (h : H' b = none) : H b = none := by
  cases hb : H b with
  | none => rfl
  | some o => rw [e _ _ hb] at h; cases h
theorem none_but {kvs : List (Key × V)} {b : Addr} (e : But d H H') (hd : H' d = some (.dK kvs)) (h : H' b = none) : H b = none := by
  cases hb : H b with
  | none => rfl
  | some o => exact absurd h (but_some e hd (by rw [hb]; exact fun q => by cases q))
theorem CtAt.dk {qs : List Nat} (h : CtAt K CT CP CC H c a d ss qs av) : ∃ kvs, H d = some (.dK kvs) := let ⟨kvs, e, _⟩ := h.kn.ex; ⟨kvs, e⟩
/-- counters where all but the dict stands as it stood, and what is remembered avoids av -/
theorem CtAt.re {qs qs' : List Nat} {av' : Addr → Prop} (h : CtAt K CT CP CC H c a d ss qs av) (e : But d H H') (k : Known H' d ss qs' av') (hq : qs'.length ≤ 10000) : CtAt K CT CP CC H' c a d ss qs' av' := by
  obtain ⟨kvs, hd⟩ := h.dk
  obtain ⟨dx, hc⟩ := h.ins
  exact ⟨⟨dx, but_any e hd hc (fun k z => by cases z)⟩, h.tx.but e hd, k, hq⟩
/-- what is remembered does not stand at D -/
theorem Known.upd {qs : List Nat} {D : Addr} {o : HO} (k : Known H d ss qs av) (hD : av D) (hd : D ≠ d) : Known (upd H D o) d ss qs av := by
  obtain ⟨kvs, k1, k2, k3, k4⟩ := k
  refine ⟨kvs, by rw [upd_ne (Ne.symm hd)]; exact k1, k2, k3, fun kv hkv => ?_⟩
  obtain ⟨x, l, e1, e2, e3, e4⟩ := k4 kv hkv
  exact ⟨x, l, e1, e2, by rw [upd_ne (fun z => e4 (by rw [z]; exact hD))]; exact e3, e4⟩
theorem Known.less {qs : List Nat} {av' : Addr → Prop} (k : Known H d ss qs av) (h : ∀ b, av' b → av b) : Known H d ss qs av' := by
  obtain ⟨kvs, k1, k2, k3, k4⟩ := k
  exact ⟨kvs, k1, k2, k3, fun kv hkv => let ⟨x, l, e1, e2, e3, e4⟩ := k4 kv hkv; ⟨x, l, e1, e2, e3, fun z => e4 (h l z)⟩⟩
/-- a new address is avoided -/
theorem Known.fresh {qs : List Nat} {D : Addr} (k : Known H d ss qs av) (hD : H D = none) : Known H d ss qs (fun b => b = D ∨ av b) := by
  obtain ⟨kvs, k1, k2, k3, k4⟩ := k
  refine ⟨kvs, k1, k2, k3, fun kv hkv => ?_⟩
  obtain ⟨x, l, e1, e2, e3, e4⟩ := k4 kv hkv
  exact ⟨x, l, e1, e2, e3, fun z => z.elim (fun z => by subst z; rw [hD] at e3; cases e3) e4⟩
end
section
variable {J : It} {n : Nat} {it : Nat → V} {H1 : Hp} {tt : TT} {te : TE} {vs : List Nat} {σ : St} {D : Addr} {Qd : Hp → Prop} {j : Nat}
/-- [f x for x in ..] where the elements change the heap: Ps holds throughout -/
theorem lc_st (Ps : Hp → Prop) (P : ∀ H, Ps H → Plain J n it H) (h0 : Ps (upd H1 D (.lst []))) (hn : n ≤ sizeLine) (hj : ∀ v, wipe ((wipe σ vs).set j (some v)) vs = wipe σ vs) (f : Nat → V)
    (hput : ∀ H ys zs, Ps H → H D = some (.lst ys) → Ps (upd H D (.lst zs)))
    (hs : ∀ i H ys (Q : VK), i < n → Ps H → H D = some (.lst ys) → (∀ H', Ps H' → H' D = some (.lst ys) → Q (f i) H') → te ((wipe σ vs).set j (some (it i))) H Q)
    (hd : ∀ H, Ps H → H D = some (.lst ((List.range n).map f)) → Qd H) : LcW J (gName j) tYes te vs σ H1 D Qd := by
  refine ⟨fun i m H => m = n - i ∧ i ≤ n ∧ Ps H ∧ H D = some (.lst ((List.range i).map f)), ⟨_, rfl, Nat.zero_le _, h0, upd_same⟩, ?_⟩
  rintro i m H ⟨rfl, hi, S, eD⟩
  have PP := P H S
  by_cases hlt : i < n
  · refine .inr ⟨PP.go i H (Same.refl _) hlt, fun H' => i + 1 ≤ n ∧ Ps H' ∧ H' D = some (.lst ((List.range (i + 1)).map f)), fun H' z => ⟨n - (i + 1), by omega, rfl, z⟩, fun x H' y => ?_⟩
    obtain ⟨e1, e2⟩ := PP.yld i H x H' (Same.refl _) hlt y
    subst e1 e2
    refine ⟨hj _, ?_⟩
    refine rd_yes (iteT ?_)
    refine hs i H' _ _ hlt S eD fun H2 S2 e2 => ⟨_, e2, by rw [List.length_map, List.length_range]; omega, hlt, hput _ _ _ S2 e2, ?_⟩
    rw [upd_same, List.range_succ, List.map_append]
    rfl
  · have e : i = n := by omega
    subst e
    exact .inl ⟨PP.stop H (Same.refl _), hd H S eD⟩
end
end L2.Px

set_option Elab.async false
set_option linter.all false
set_option maxRecDepth 100000
set_option maxHeartbeats 1000000
/-! places of keys; promises of counting.py -/
namespace L2.Px
open PySem PySem.Spec PyProof.Rows StX TL
/-- how often one of the keys stands ahead of p -/
def tot (ss : List Stp) (keys : List Nat) (p : Nat) : Nat := (keys.map (cn ss p)).sum
theorem tot_mono (ss : List Stp) (keys : List Nat) {a b : Nat} (h : a ≤ b) : tot ss keys a ≤ tot ss keys b := by
  unfold tot
  induction keys with
  | nil => simp
  | cons k r ih => simp only [List.map_cons, List.sum_cons]; have := cn_mono ss k h; omega
theorem tot_zero (ss : List Stp) (keys : List Nat) : tot ss keys 0 = 0 := by
  unfold tot
  induction keys with
  | nil => rfl
  | cons k r ih => simp only [List.map_cons, List.sum_cons, cn_zero]; omega
/-- p is the place at which one of the keys stands for the time n -/
def IsNth (ss : List Stp) (keys : List Nat) (n p : Nat) : Prop := p < sz ss ∧ tot ss keys p ≤ n ∧ n < tot ss keys (p + 1)
theorem half_lt {a b m : Nat} (h : a < b) (hb : b - a < 2 ^ (m + 1)) : (a + b) / 2 - a < 2 ^ m ∧ b - ((a + b) / 2 + 1) < 2 ^ m := by
  rw [Nat.pow_succ] at hb
  omega
section
variable {K : PySem.W.Frag} {CT CP CC : Addr} {H H' H1 : Hp} {Q : VK} {E : XK} {c a d l D : Addr} {ss : List Stp} {qs : List Nat} {av : Addr → Prop} {L : List Nat} {o : HO}
theorem natV_ints (L : List Nat) : natV L = (L.map fun m => ((m : Nat) : Int)).map V.int := by unfold natV; rw [List.map_map]; rfl
theorem sum_cast (L : List Nat) : (L.map fun m => ((m : Nat) : Int)).sum = ((L.sum : Nat) : Int) := by
  induction L with
  | nil => rfl
  | cons x L ih => simp only [List.map_cons, List.sum_cons, ih, Int.natCast_add]
theorem rd_sumN (h : H l = some (.lst (natV L))) (q : Q (.int (L.sum : Nat)) H) : rSum K [.ref l] H Q :=
  ⟨l, L.map fun m => ((m : Nat) : Int), rfl, SqL.of (by rw [h, natV_ints]), by rw [sum_cast]; exact q⟩
theorem but_put (e : But d H1 H) (hD : H1 D = none) : But d H1 (upd H D o) := fun b u hb h => by rw [upd_ne (ne_of_none h hD)]; exact e b u hb h
/-- throughout a comprehension that asks the counter -/
def Asks (H1 : Hp) (d D : Addr) (ss : List Stp) (qs : List Nat) (av : Addr → Prop) (H : Hp) : Prop := But d H1 H ∧ Known H d ss qs (fun b => b = D ∨ av b)
theorem Asks.start (ct : CtAt K CT CP CC H1 c a d ss qs av) (hD : H1 D = none) : Asks H1 d D ss qs av (upd H1 D (.lst [])) := by
  obtain ⟨kvs, hd⟩ := ct.dk
  have nd : D ≠ d := fun z => by subst z; rw [hd] at hD; cases hD
  exact ⟨But.new But.refl hD, (ct.kn.fresh hD).upd (.inl rfl) nd⟩
theorem Asks.put (ct : CtAt K CT CP CC H1 c a d ss qs av) (hD : H1 D = none) (h : Asks H1 d D ss qs av H) : Asks H1 d D ss qs av (upd H D o) := by
  obtain ⟨kvs, hd⟩ := ct.dk
  have nd : D ≠ d := fun z => by subst z; rw [hd] at hD; cases hD
  exact ⟨but_put h.1 hD, h.2.upd (.inl rfl) nd⟩
theorem Asks.ct (ct : CtAt K CT CP CC H1 c a d ss qs av) (h : Asks H1 d D ss qs av H) : CtAt K CT CP CC H c a d ss qs (fun b => b = D ∨ av b) := ct.re h.1 h.2 ct.few
theorem Asks.alloc (ct : CtAt K CT CP CC H1 c a d ss qs av) (hav : ∀ b, av b → H1 b ≠ none) (h : Asks H1 d D ss qs av H) (eD : H D = some o) : ∀ b, (b = D ∨ av b) → H b ≠ none := fun b z => by
  rcases z with rfl | z
  · rw [eD]; exact fun q => by cases q
  · exact but_some h.1 (h.ct ct).dk.choose_spec (hav b z)
theorem Asks.end (ct : CtAt K CT CP CC H1 c a d ss qs av) (h : Asks H1 d D ss qs av H) : CtAt K CT CP CC H c a d ss qs av := ct.re h.1 (h.2.less fun b z => .inr z) ct.few
variable (K CT CP CC)
def sp_Counter_place_of : Sp := fun vs H Q _ => ∃ c a d ss qs av lk keys, ∃ n : Nat, vs = [.ref c, .ref lk, .int n] ∧ CtAt K CT CP CC H c a d ss qs av ∧ (∀ b, av b → H b ≠ none) ∧ H lk = some (.lst (natV keys)) ∧ keys.length ≤ 1000 ∧ (∀ k ∈ keys, k < (tyL ss).length) ∧ qs.length + 64 ≤ 10000 ∧
  (tot ss keys (sz ss) ≤ n → ∀ H' qs', But d H H' → CtAt K CT CP CC H' c a d ss qs' av → qs'.length ≤ qs.length + 64 → Q .non H') ∧
  ∀ p H' qs', IsNth ss keys n p → But d H H' → CtAt K CT CP CC H' c a d ss qs' av → qs'.length ≤ qs.length + 64 → Q (.int (p : Nat)) H'
/-- first .. last, both included; empty: last = first - 1 -/
def sp_check_range : Sp := fun vs H Q _ => ∃ a ss, ∃ f e : Nat, vs = [.ref a, .int f, .int ((e : Int) - 1)] ∧ TX K CT CP H a ss ∧ f ≤ e ∧ e ≤ sz ss ∧ Q .non H
def sp_key_counts : Sp := fun vs H Q _ => ∃ a ss, ∃ f e : Nat, vs = [.ref a, .int f, .int ((e : Int) - 1)] ∧ TX K CT CP H a ss ∧ f ≤ e ∧ e ≤ sz ss ∧ ∀ H' l, Same H H' → H' l = some (.lst (natV ((List.range (tyL ss).length).map fun k => cn ss e k - cn ss f k))) → Q (.ref l) H'
def sp_nth_place_of_key : Sp := fun vs H Q _ => ∃ a ss, ∃ k n : Nat, vs = [.ref a, .int k, .int n] ∧ TX K CT CP H a ss ∧ k < (tyL ss).length ∧ n ≤ 1000000000000000000 ∧
  (cn ss (sz ss) k ≤ n → ∀ H', Same H H' → Q .non H') ∧ ∀ p H', IsNth ss [k] n p → Same H H' → Q (.int (p : Nat)) H'
end
end L2.Px

set_option Elab.async false
set_option linter.all false
set_option maxRecDepth 100000
set_option maxHeartbeats 1000000
/-! reading steps for counting.py -/
namespace L2.Px
open PySem PySem.Spec PyProof.Rows StX TL
section
variable {K : PySem.W.Frag} {CT CP CC : Addr} {H H' H1 : Hp} {Q : VK} {E : XK} {c a d l D : Addr} {ss : List Stp} {qs : List Nat} {av : Addr → Prop} {i lo hi : Int}
theorem rd_isIntT (h : lo ≤ i ∧ i ≤ hi) (q : Q (.bl true) H) : sp_is_integer [.int i, .int lo, .int hi] H Q E := ⟨_, _, _, rfl, trivial, by rw [show isInt lo hi (.int i) = true from decide_eq_true h]; exact q⟩
theorem rd_mkCounter (h : TX K CT CP H a ss) (q : ∀ c d H', Same H H' → CtAt K CT CP CC H' c a d ss [] (fun b => H b ≠ none) → H d = none → Q (.ref c) H') : rMk CC (sp_Counter_init K CT CP CC) E [.ref a] H Q := by
  intro x dx nx nd ne
  have S1 : Same H (upd (upd H dx (.own x)) x (.ins CC dx [])) := Same.mut (Same.mut (Same.refl _) nd) nx
  refine ⟨x, dx, a, ss, rfl, upd_same, h.kp (Kp.same S1), fun H' d B ct hd => ⟨rfl, q x d H' (fun b o e => B _ _ (ne_of_none e nx) (S1 _ _ e)) ?_ ?_⟩⟩
  · exact ⟨ct.ins, ct.tx, ct.kn.less fun b hb => same_some S1 hb, ct.few⟩
  · cases e : H d with
    | none => rfl
    | some o => rw [S1 _ _ e] at hd; cases hd
theorem rd_mCheckKey {k : Nat} (h : TX K CT CP H a ss) (hk : k < (tyL ss).length) (q : Q .non H) : sp_Text_check_key K CT CP [.ref a, .int (k : Nat)] H Q E := by
  obtain ⟨t, T, rfl⟩ := h
  exact ⟨a, t, _, rfl, T, trivial, decide_eq_true (by omega), q⟩
theorem CtAt.insM {m : Str} (h : CtAt K CT CP CC H c a d ss qs av) (hm : m ≠ "known" ∧ m ≠ "text" := by decide +kernel) : InsM H c CC m := let ⟨dx, e⟩ := h.ins; ⟨dx, _, e, counterF_no hm⟩
/-- before of the 30 parts: a new question -/
theorem rd_before {x : Nat} (ct : CtAt K CT CP CC H c a d ss qs av) (hav : ∀ b, av b → H b ≠ none) (hx : x ≤ sz ss) (hq : qs.length < 10000)
    (q : ∀ H' l, But d H H' → CtAt K CT CP CC H' c a d ss (x :: qs) av → H' l = some (.lst (natV (cnt ss x))) → Q (.ref l) H') : sp_Counter_before K CT CP CC 30 [.ref c, .int (x : Nat)] H Q E :=
  ⟨c, a, d, ss, x :: qs, av, x, rfl, ct.query hq, hav, by rw [List.take_of_length_le ct.tx.few]; exact hx, by decide, reach_q (by decide), q⟩
theorem same_but (e : But d H1 H') (S : Same H H1) (hd : H d = none) : Same H H' := fun b o h => e b o (ne_of_none h hd) (S b o h)
theorem kc_eq (ss : List Stp) (f e : Nat) (h : f ≤ e) (k : Nat) : ((cn ss e k : Nat) : Int) - (cn ss f k : Nat) = ((cn ss e k - cn ss f k : Nat) : Int) := by
  have := cn_mono ss k h
  omega
def kcs (ss : List Stp) (f e : Nat) : List Nat := (List.range (tyL ss).length).map fun k => cn ss e k - cn ss f k
theorem kcs_len (ss : List Stp) (f e : Nat) : (kcs ss f e).length = (tyL ss).length := by simp [kcs]
theorem kcs_get {ss : List Stp} {f e k : Nat} (h : k < (tyL ss).length) : (kcs ss f e)[k]?.getD 0 = cn ss e k - cn ss f k := by
  unfold kcs
  rw [List.getElem?_map, List.getElem?_range h]
  rfl
theorem rd_checkRange {i j : Int} (h : TX K CT CP H a ss) (h1 : 0 ≤ i) (h2 : i ≤ j + 1) (h3 : j + 1 ≤ sz ss) (q : Q .non H) : sp_check_range K CT CP [.ref a, .int i, .int j] H Q E :=
  ⟨a, ss, i.toNat, (j + 1).toNat, by rw [Int.toNat_of_nonneg h1, Int.toNat_of_nonneg (by omega), Int.add_sub_cancel], h, by omega, by omega, q⟩
theorem rd_keyCounts {i j : Int} (h : TX K CT CP H a ss) (h1 : 0 ≤ i) (h2 : i ≤ j + 1) (h3 : j + 1 ≤ sz ss) (q : ∀ l H', Same H H' → H' l = some (.lst (natV (kcs ss i.toNat (j + 1).toNat))) → Q (.ref l) H') : sp_key_counts K CT CP [.ref a, .int i, .int j] H Q E :=
  ⟨a, ss, i.toNat, (j + 1).toNat, by rw [Int.toNat_of_nonneg h1, Int.toNat_of_nonneg (by omega), Int.add_sub_cancel], h, by omega, by omega, fun H' l S e => q l H' S e⟩
theorem rd_insCt {m : Str} {A : Prop} (h : CtAt K CT CP CC H c a d ss qs av) (hm : m ≠ "known" ∧ m ≠ "text") (q : A) : InsM H c CC m ∧ A := ⟨h.insM hm, q⟩
variable (K CT CP)
def sp_letters_between : Sp := fun vs H Q _ => ∃ a ss, ∃ f e : Nat, vs = [.ref a, .int f, .int ((e : Int) - 1)] ∧ TX K CT CP H a ss ∧ f ≤ e ∧ e ≤ sz ss ∧ e ≤ f + 1000 ∧ ∀ H', Same H H' → Q (.str (mkS (((ls ss).take e).drop f))) H'
end
end L2.Px

set_option Elab.async false
set_option linter.all false
set_option maxRecDepth 100000
set_option maxHeartbeats 1000000
/-! for within a generator -/
namespace PySem
open Sem (wp)
section
variable {M : Model} {A : Around} {R : GenEnd} {Y : Protocol} {n : Nat} {s₀ : Shared} {c : Code} {fs : List Frame} {s : Shared} {env : Env}
  {K : Flow → Sem Fin} {H : Value → Sem Fin} {gd : Bool → Bool} {lv : List Value → List Value}
theorem px_seg_For {tg iter : Expr} {body : List Stmt} {pos : Pos} (hs : ∀ x, foldedSetIterable iter env x = pure x)
    (h : wpAny M (A.over c fs) (eval iter env) (fun x s1 => wpAny M (A.over c fs) (pyIter x) (fun it s2 => ∀ p, Seg M A R Y n s₀ (.forLoop tg it body [] env) (M.den (.forLoop tg it body [] env))
      (.ret (fun r => ((match r with | .ok f => (.pure f : Sem Flow) | .error e => .raise e).onRaise fun (x : Value) => do
        if (← field x 1) == Value.none then unsupported "frame.own-activation:exception-without-traceback"
        setFlight x env.frame).wrap K H gd lv) none (gd false) (lv []) c p [] :: fs) s2)
      (fun x s' => Seg M A R Y n s₀ c (H x) fs s') s1) (fun x s' => Seg M A R Y n s₀ c (H x) fs s') s) :
    Seg M A R Y n s₀ c ((exec (.For tg iter body [] pos) env).wrap K H gd lv) fs s := by
  rw [exec_For]
  show Seg M A R Y n s₀ c (.at pos fun _ => (eval iter env >>= fun a => foldedSetIterable iter env a >>= fun x => standAt iter.pos >>= fun _ => holding [x] (pyIter x) >>= fun it => runOwn (.forLoop tg it body [] env) env).wrap K H gd lv) fs s
  refine seg_at ?_
  rw [Sem.bind_eq_wrap', Sem.wrap_wrap]
  refine seg_wrap (wpAny_mono h (fun x s1 h1 => ?_) fun _ _ e => e)
  rw [hs x]
  show Seg M A R Y n s₀ c (.at iter.pos fun _ => (holding [x] (pyIter x) >>= fun it => runOwn (.forLoop tg it body [] env) env).wrap K H gd lv) fs s1
  refine seg_at ?_
  rw [Sem.bind_eq_wrap', Sem.wrap_wrap]
  refine seg_wrap (wpAny_holding (wpAny_mono h1 (fun it s2 h2 => ?_) fun _ _ e => e))
  exact seg_call h2
end
section
variable {prog : Program} {w : World} {A : Around} {R : GenEnd} {Y : Protocol} {n : Nat} {s₀ : Shared} {fs : List Frame} {s : Shared} {env : Env}
/-- what a raise in a loop's turn does -/
def pxE (env : Env) (e : Value) : Sem Fin := (do noteFrame e env; theTreesLotGoes e : Sem Unit).wrap (fun _ => .raise e) .raise id id
theorem px_seg_forLoop {tg : Expr} {it : Value} {body : List Stmt}
    (h : wpAny (model prog w) (A.over (.forLoop tg it body [] env) fs) (pyNext it) (fun r s1 => match r with
      | none => Seg (model prog w) A R Y n s₀ (.forLoop tg it body [] env) (.pure (.again (.block [] env))) fs s1
      | some v => wpAny (model prog w) (A.over (.forLoop tg it body [] env) fs) (letOwnedTupleGo tg it v) (fun _ s2 => wpAny (model prog w) (A.over (.forLoop tg it body [] env) fs) (assign tg env v) (fun _ s3 =>
          Seg (model prog w) A R Y n s₀ (.forLoop tg it body [] env) ((execs body env).wrap (fun f => match f with
            | .next | .cont => .pure (.again (.forLoop tg it body [] env))
            | .brk => .pure (.done .next)
            | .ret v => .pure (.done (.ret v))) (pxE env) id id) fs s3)
          (fun x s' => Seg (model prog w) A R Y n s₀ (.forLoop tg it body [] env) (pxE env x) fs s') s2)
          (fun x s' => Seg (model prog w) A R Y n s₀ (.forLoop tg it body [] env) (pxE env x) fs s') s1)
      (fun x s' => Seg (model prog w) A R Y n s₀ (.forLoop tg it body [] env) (pxE env x) fs s') s) :
    Seg (model prog w) A R Y n s₀ (.forLoop tg it body [] env) ((model prog w).den (.forLoop tg it body [] env)) fs s := by
  have hE : ∀ (x : Value) (s' : Shared), Seg (model prog w) A R Y n s₀ (.forLoop tg it body [] env) (pxE env x) fs s' → Seg (model prog w) A R Y n s₀ (.forLoop tg it body [] env) ((do noteFrame x env; theTreesLotGoes x : Sem Unit).bind fun _ => .raise x) fs s' := fun x s' q => by
    rw [Sem.bind_eq_wrap]; exact q
  show Seg _ A R Y n s₀ _ ((forTurn tg it body [] env).onRaise (fun x => do noteFrame x env; theTreesLotGoes x)) fs s
  unfold forTurn
  rw [Sem.onRaise_eq_wrap]
  refine seg_at ?_
  show Seg _ A R Y n s₀ _ (((pyNext it).onRaise (fun _ => standAt { tg.pos with line := 0 }) >>= _).wrap _ _ _ _) fs s
  rw [Sem.bind_eq_wrap', Sem.wrap_wrap]
  refine seg_wrap (wpAny_onRaise (wpAny_mono h (fun r s1 h1 => ?_) fun x s' e => wpAny_standAt (hE x s' e)))
  cases r with
  | none => exact h1
  | some v =>
    show Seg _ A R Y n s₀ _ ((letOwnedTupleGo tg it v >>= _).wrap _ _ _ _) fs s1
    rw [Sem.bind_eq_wrap', Sem.wrap_wrap]
    refine seg_wrap (wpAny_mono h1 (fun _ s2 h2 => ?_) fun x s' e => hE x s' e)
    show Seg _ A R Y n s₀ _ ((assign tg env v >>= _).wrap _ _ _ _) fs s2
    rw [Sem.bind_eq_wrap', Sem.wrap_wrap]
    refine seg_wrap (wpAny_mono h2 (fun _ s3 h3 => ?_) fun x s' e => hE x s' e)
    show Seg _ A R Y n s₀ _ ((execs body env >>= _).wrap _ _ _ _) fs s3
    rw [Sem.bind_eq_wrap', Sem.wrap_wrap]
    rw [Sem.wrap_congr (execs body env) _ _ (K' := fun f => match f with
            | .next | .cont => .pure (.again (.forLoop tg it body [] env))
            | .brk => .pure (.done .next)
            | .ret v => .pure (.done (.ret v))) (H' := pxE env) (fun f => by cases f <;> rfl) (fun e => by
              show ((do noteFrame e env; theTreesLotGoes e : Sem Unit).bind fun _ => .raise e) = pxE env e
              rw [Sem.bind_eq_wrap]; rfl)]
    exact h3
/-- the loop's end: the empty block -/
theorem px_seg_block {c : Code} (h : Seg (model prog w) A R Y n s₀ (.block [] env) (.pure (.done .next)) fs s) : Seg (model prog w) A R Y n s₀ c (.pure (.again (.block [] env))) fs s := by
  refine seg_again rfl ?_
  exact h
end
end PySem
namespace L2.Px
open PySem PySem.Spec PyProof.Rows StX TL
section
variable {X : Cx}
def tGFor (wi : TI) (g : TG) (tb : TGn) : TGn := fun D ys σ H => wi σ H fun J H1 => ∃ W : Nat → Nat → List V → St → Hp → Prop, (∃ m, W 0 m ys σ H1) ∧ ∀ i m ys σ H, W i m ys σ H →
  (J.stop i H ∧ D.nx ys σ H) ∨ (J.go i H ∧ ∃ N : List V → St → Hp → Prop, (∀ ys' σ' H', N ys' σ' H' → ∃ m', m' < m ∧ W (i + 1) m' ys' σ' H') ∧ ∀ x H', J.yld i H x H' → g x σ H' fun σ2 H2 => tb { D with nx := N, ct := N, bk := D.nx } ys σ2 H2)
theorem gs_for {tg iter : Expr} {body : List Stmt} {pos : Pos} {wi : TI} {g : TG} {tb : TGn} (hp : PassesOwn (model X.prog X.w) X.A X.env X.xe) (hc : X.calm = true) (hi : PI X tg iter wi) (hg : PG X tg g) (hb : GSs X body tb)
    (hs : ∀ x, foldedSetIterable iter X.env x = pure x := by intro _; rfl) : GS X (.For tg iter body [] pos) (tGFor wi g tb) := by
  refine ⟨fun A S ip R n ys s₀ c fs K J gd lv s σ H D g0 hn k hI ht => ?_⟩
  obtain ⟨acc, cc, r, I⟩ := hI
  refine px_seg_For hs ?_
  rw [g0.over]
  refine wpAny_mono (hi.run _ s σ H _ I ht) (fun v s1 h1 => wpAny_mono h1 (fun itv s2 h2 => ?_) fun x s' hx => k.exc n s₀ x s' hx) fun x s' hx => k.exc n s₀ x s' hx
  obtain ⟨it, fp, tn, Jt, H2, e, I2, T, st2, f2, W, ⟨m0, w0⟩, turn⟩ := h2
  subst e
  intro p
  have gl := fun (kk : Result → Sem PySem.Fin) => gc_loop (k := kk) (c' := .forLoop tg (.ref it) body [] X.env) (l := lv []) (kp := []) (p := p) g0 rfl rfl
  have hbS : ∀ b ∈ fp, b ≠ S := fun b hb z => (f2 b hb).2.2.2.2.2 (S, lstObj acc cc) (List.mem_append_right _ List.mem_cons_self) z.symm
  have stat : ∀ {H' : Hp} {acc' : Array Value} {c' : Nat}, (∀ b ∈ fp, H' b = none) → ∀ b ∈ fp, FpOk X ((S, lstObj acc' c') :: ip) H' b := fun hn b hb => by
    obtain ⟨_, a1, a2, a3, a4, a5⟩ := f2 b hb
    refine ⟨hn b hb, a1, a2, a3, a4, fun q hq => ?_⟩
    rcases List.mem_append.mp hq with hq | hq
    · exact a5 q (List.mem_append_left _ hq)
    · rcases List.mem_cons.mp hq with e | hq
      · rw [e]; exact fun z => hbS b hb z.symm
      · exact a5 q (List.mem_append_right _ (List.mem_cons_of_mem _ hq))
  have ee : ∀ (n : Nat) (s₀ : Shared) (x : Value) (s' : Shared), X.xe x s' → Seg (model X.prog X.w) A R (GY X S) n s₀ (.forLoop tg (.ref it) body [] X.env) (pxE X.env x)
      (.ret (fun r => ((match r with | .ok f => (.pure f : Sem Flow) | .error e => .raise e).onRaise (cameBack X.env)).wrap K J gd lv) none (gd false) (lv []) c p [] :: fs) s' := fun n s₀ x s' hx => by
    unfold pxE
    refine seg_wrap ?_
    rw [(gl _).over]
    refine wpAny_bind (wpAny_mono (hp x s' hx) (fun _ s'' hcb => wpAny_theTreesLotGoes ?_) fun y s'' hcb => ?_)
    · exact seg_leaf (.error x) (seg_cameBack g0 k hcb)
    · exact seg_leaf (.error y) (seg_cameBack g0 k hcb)
  have loop : ∀ (m i n : Nat) (ys : List V) (s₀ s : Shared) (σ : St) (H : Hp), n + ys.length = sizeLine → W i m ys σ H → GI X S ip ys σ H s → tn i s.heap → (∀ b ∈ fp, H b = none) →
      Seg (model X.prog X.w) A R (GY X S) n s₀ (.forLoop tg (.ref it) body [] X.env) ((model X.prog X.w).den (.forLoop tg (.ref it) body [] X.env))
        (.ret (fun r => ((match r with | .ok f => (.pure f : Sem Flow) | .error e => .raise e).onRaise (cameBack X.env)).wrap K J gd lv) none (gd false) (lv []) c p [] :: fs) s := by
    intro m
    induction m using Nat.strongRecOn with
    | ind m ih =>
      intro i n ys s₀ s σ H hn w hI st fr
      refine px_seg_forLoop ?_
      rw [(gl _).over]
      obtain ⟨acc, cc, r, I⟩ := hI
      rcases turn i m ys σ H w with ⟨stop, qn⟩ | ⟨go, N, hN, step⟩
      · refine wpAny_mono (T.done X rfl rfl rfl hc i _ s σ H X.xe I (stat fr) st stop) (fun r' s4 h4 => ?_) fun x s' hx => ee n s₀ x s' hx
        obtain ⟨hr, I4⟩ := h4
        subst hr
        exact px_seg_block (seg_leaf (.ok .next) (k.ok n ys s₀ s4 .next hn ⟨σ, H, ⟨acc, cc, r, I4⟩, qn⟩))
      · refine wpAny_mono (T.item X rfl rfl rfl hc i _ s σ H X.xe I (stat fr) st go) (fun r' s4 h4 => ?_) fun x s' hx => ee n s₀ x s' hx
        obtain ⟨u, hr, h4⟩ := h4
        subst hr
        refine wpAny_mono h4 (fun _ s5 h5 => ?_) fun x s' hx => ee n s₀ x s' hx
        obtain ⟨x, H5, I5, r5, y5, st5, fr5⟩ := h5
        have I5' := I5.pinned (stat fr5) (T.obj _ _ st5)
        refine wpAny_mono (hg.run _ s5 σ H5 x u _ I5' r5 (step x H5 y5)) (fun _ s6 h6 => ?_) fun x s' hx => ee n s₀ x s' hx
        obtain ⟨σ6, H6, I6, q6⟩ := h6
        have gl' : GC X S (ip ++ pinsAt fp s5.heap) A (.forLoop tg (.ref it) body [] X.env) (.ret (fun r => ((match r with | .ok f => (.pure f : Sem Flow) | .error e => .raise e).onRaise (cameBack X.env)).wrap K J gd lv) none (gd false) (lv []) c p [] :: fs) id :=
          ⟨(gl (fun r => ((match r with | .ok f => (.pure f : Sem Flow) | .error e => .raise e).onRaise (cameBack X.env)).wrap K J gd lv)).pn, fun q hq => by
            rcases List.mem_append.mp hq with hq | hq
            · exact g0.ip q hq
            · exact hbS q.1 (of_pinsAt hq).1, g0.apart, (gl _).over, (gl _).split, (gl _).guard, rfl⟩
        refine hb.run A S (ip ++ pinsAt fp s5.heap) R n ys s₀ _ _ _ _ id id s6 σ6 H6 { D with nx := N, ct := N, bk := D.nx } gl' hn ⟨fun n' ys' s₀' s7 f hn' hs7 => ?_, fun n' s₀' x s7 hx => ee n' s₀' x s7 hx⟩ ⟨acc, cc, r, I6⟩ q6
        have again : ∀ {σ7 : St} {H7 : Hp}, GI X S (ip ++ pinsAt fp s5.heap) ys' σ7 H7 s7 → N ys' σ7 H7 → Seg (model X.prog X.w) A R (GY X S) n' s₀' (.forLoop tg (.ref it) body [] X.env) (.pure (.again (.forLoop tg (.ref it) body [] X.env)))
            (.ret (fun r => ((match r with | .ok f => (.pure f : Sem Flow) | .error e => .raise e).onRaise (cameBack X.env)).wrap K J gd lv) none (gd false) (lv []) c p [] :: fs) s7 := fun {σ7 H7} hI7 n7 => by
          obtain ⟨m', hm, w7⟩ := hN ys' σ7 H7 n7
          obtain ⟨acc7, cc7, r7, I7⟩ := hI7
          have I7' : Inv X (((S, lstObj acc7 cc7) :: ip) ++ pinsAt fp s5.heap) σ7 H7 s7 := I7
          refine seg_again rfl (ih m' hm (i + 1) n' ys' s₀' s7 σ7 H7 hn' w7 ⟨acc7, cc7, r7, I7'.unpinned⟩ (T.keep _ _ _ st5 fun b hb o e => (I7'.pin (b, o) (List.mem_append_right _ (List.mem_append_right _ (mem_pinsAt hb e)))).1) fun b hb => ?_)
          obtain ⟨o, e, d⟩ := T.obj _ _ st5 b hb
          exact (I7'.pin (b, o) (List.mem_append_right _ (List.mem_append_right _ (mem_pinsAt hb e)))).2.1
        cases f with
        | next => obtain ⟨σ7, H7, hI7, n7⟩ := hs7; exact again hI7 n7
        | cont => obtain ⟨σ7, H7, hI7, n7⟩ := hs7; exact again hI7 n7
        | brk =>
          obtain ⟨σ7, H7, ⟨acc7, cc7, r7, I7⟩, q7⟩ := hs7
          have I7' : Inv X (((S, lstObj acc7 cc7) :: ip) ++ pinsAt fp s5.heap) σ7 H7 s7 := I7
          exact seg_leaf (.ok .next) (k.ok n' ys' s₀' s7 .next hn' ⟨σ7, H7, ⟨acc7, cc7, r7, I7'.unpinned⟩, q7⟩)
        | ret v =>
          obtain ⟨x7, σ7, H7, ⟨acc7, cc7, r7, I7⟩, rv7, q7⟩ := hs7
          have I7' : Inv X (((S, lstObj acc7 cc7) :: ip) ++ pinsAt fp s5.heap) σ7 H7 s7 := I7
          exact seg_leaf (.ok (.ret v)) (k.ok n' ys' s₀' s7 (.ret v) hn' ⟨x7, σ7, H7, ⟨acc7, cc7, r7, I7'.unpinned⟩, rv7, q7⟩)
  exact loop m0 0 n ys s₀ s2 σ H2 hn w0 ⟨acc, cc, r, I2⟩ st2 fun b hb => (f2 b hb).1
end
end L2.Px

set_option Elab.async false
set_option linter.all false
set_option maxRecDepth 100000
set_option maxHeartbeats 1000000
/-! generator defs by name; places of a key -/
namespace L2.Px
open PySem PySem.Spec PyProof.Rows StX TL
/-- the generator def named x keeps the promise sp -/
def GenOk (P : Program) (w : World) (K : PySem.W.Frag) (mg : Str → Option Value) (base : Heap) (k : Nat) (x : Str) (sp : SpG) : Prop :=
  ∃ f fd ps, GFn P w K mg base k f fd ps sp ∧ mg x = some (.ref f) ∧ PySem.W.keepIn K (.ref f) = true ∧ Binds K fd ps []
def NoX : XK := fun _ _ _ => False
section
variable {P : Program} {w : World} {K : PySem.W.Frag} {mg : Str → Option Value} {base : Heap} {k : Nat} {ps : List Str} {sp : SpG} {x : Str} {st : Stmt}
theorem DefG.gen {N : List Str} (D : DefG K mg x st ps) (S : GScope N ps (defScope st)) (len : ∀ vs H Q E, sp vs H Q E → vs.length = ps.length)
    (hbody : ∀ (f : Addr) (cdv : Value) (A : Around) (outer : List Env) (s : Shared) (H : Hp) (vs : List V) (Q : List V → Hp → Prop) (E : XK) (pn : List (Addr × Obj)), Room k (A.deeper (envOfC x (defScope st) s.heap.objs.size f cdv)) → sp vs H Q E →
      ∃ t, GSs (gcxOf P w K mg base N x (defScope st) f cdv A outer s H E pn) (defBody st) t ∧ t { nx := fun ys _ H' => Q ys H', rt := fun ys v H' => v = .non ∧ Q ys H' } [] (start N vs) H) : GenOk P w K mg base (k + 1) x sp := by
  obtain ⟨f, fd, F, a, b⟩ := D
  have kp := F.kp
  obtain ⟨oc, od, kV, doc, pm, an, cdv, ct, osl, rfl, lk, hcd⟩ := F.ex
  exact ⟨f, _, ps, gfn_of lk hcd S len fun A outer s H vs Q E pn hr h => hbody f cdv A outer s H vs Q E pn hr h, a, kp, b⟩
end
section
variable {X : Cx} {k : Nat} {sp : SpG} {x : Str} {e : Expr} {es : List Expr} {t : TA} {p p' pos pos' : Pos}
/-- list(x(e, ..)) of a generator def that no error leaves -/
def tLGen (sp : SpG) (t : TA) : TE := fun σ H Q => t σ H fun vs H1 => sp vs H1 (fun out H2 => ∀ p, H2 p = none → Q (.ref p) (upd H2 p (.lst out))) NoX
theorem pe_lgen (G : GenOk X.prog X.w X.K X.mg X.base k x sp) (hr : Room (k + 3) X.A) (hmg : X.mg "list" = none) (ha : PA X (e :: es) t) (hg : Gl X x := by rfl) (hgl : Gl X "list" := by rfl) (hd : (x == ("__debug__" : Str)) = false := by decide)
    (he : starEach (e :: es) X.env = (false, eval e X.env) :: starEach es X.env := by rfl) (hpl : (backTo pos' (starEach es X.env)).any (·.1) = false := by rfl) :
    PE X (.Call (.Name "list" p) [.Call (.Name x p') (e :: es) [] pos'] [] pos) (tLGen sp t) := by
  obtain ⟨f, fd, ps, F, hm, hk, hb⟩ := G
  refine ⟨fun pins s σ H Q I h => ?_⟩
  refine (pe_listG (E := NoX) (pgen_call (dvs := []) (ds := []) F (hr.mono (by omega)) hg hm hk hb .nil ha hd he hpl) (fun _ _ _ _ _ _ _ ⟨_, _, _, _, _, _, _, _, _, _, _, _, q⟩ => q.elim) (fun _ _ _ q => q.elim) hr hgl hmg rfl).run pins s σ H Q I ?_
  show t σ H fun vs H1 => sp (vs ++ []) H1 _ NoX
  simp only [List.append_nil]
  exact h
theorem rd_lgen {σ : St} {H : Hp} {Q : VK} (h : t σ H fun vs H1 => sp vs H1 (fun out H2 => ∀ p, H2 p = none → Q (.ref p) (upd H2 p (.lst out))) NoX) : tLGen sp t σ H Q := h
end
section
variable {D : GEnds} {ys : List V} {σ : St} {H : Hp} {t : TS} {a b : TGn} {wi : TI} {g : TG} {te : TE}
theorem rd_gthen (h : a { D with nx := fun ys' σ' H' => b D ys' σ' H' } ys σ H) : tGThen a b D ys σ H := h
theorem rd_gplain (h : t { nx := D.nx ys, rt := D.rt ys, bk := D.bk ys, ct := D.ct ys } σ H) : tPlain t D ys σ H := h
theorem rd_gstart {N : List Str} {vs : List V} {σ' : St} {t : TGn} (e : start N vs = σ') (h : t D ys σ' H) : t D ys (start N vs) H := by subst e; exact h
theorem rd_g0 (h : D.nx ys σ H) : tG0 D ys σ H := h
theorem rd_gyield (hz : ys.length < sizeLine) (h : te σ H fun x H1 => D.nx (ys ++ [x]) σ H1) : tGYield te D ys σ H := ⟨hz, h⟩
theorem rd_gfor (h : wi σ H fun J H1 => ∃ W : Nat → Nat → List V → St → Hp → Prop, (∃ m, W 0 m ys σ H1) ∧ ∀ i m ys σ H, W i m ys σ H →
  (J.stop i H ∧ D.nx ys σ H) ∨ (J.go i H ∧ ∃ N : List V → St → Hp → Prop, (∀ ys' σ' H', N ys' σ' H' → ∃ m', m' < m ∧ W (i + 1) m' ys' σ' H') ∧ ∀ x H', J.yld i H x H' → g x σ H' fun σ2 H2 => b { D with nx := N, ct := N, bk := D.nx } ys σ2 H2)) : tGFor wi g b D ys σ H := h
end
section
variable {D : GEnds} {ys : List V} {σ : St} {H1 : Hp} {b : TGn} {g : TG}
/-- for .. in range: W holds throughout -/
theorem gfor_range {a : Int} {n : Nat} (W : Nat → List V → St → Hp → Prop) (h0 : W 0 ys σ H1)
    (hs : ∀ i ys σ H, i < n → W i ys σ H → g (.int (a + i)) σ H fun σ2 H2 => b { D with nx := W (i + 1), ct := W (i + 1), bk := D.nx } ys σ2 H2) (hd : ∀ ys σ H, W n ys σ H → D.nx ys σ H) :
    ∃ W : Nat → Nat → List V → St → Hp → Prop, (∃ m, W 0 m ys σ H1) ∧ ∀ i m ys σ H, W i m ys σ H →
  ((Itr a n).stop i H ∧ D.nx ys σ H) ∨ ((Itr a n).go i H ∧ ∃ N : List V → St → Hp → Prop, (∀ ys' σ' H', N ys' σ' H' → ∃ m', m' < m ∧ W (i + 1) m' ys' σ' H') ∧ ∀ x H', (Itr a n).yld i H x H' → g x σ H' fun σ2 H2 => b { D with nx := N, ct := N, bk := D.nx } ys σ2 H2) := by
  refine ⟨fun i m ys σ H => m = n - i ∧ i ≤ n ∧ W i ys σ H, ⟨_, rfl, Nat.zero_le _, h0⟩, ?_⟩
  rintro i m ys σ H ⟨rfl, hi, w⟩
  by_cases h : i < n
  · refine .inr ⟨h, W (i + 1), fun ys' σ' H' z => ⟨n - (i + 1), by omega, rfl, by omega, z⟩, fun x H' y => ?_⟩
    obtain ⟨e1, e2⟩ := y
    subst e1 e2
    exact hs i ys σ H' h w
  · have e : i = n := by omega
    subst e
    exact .inl ⟨Nat.le_refl _, hd ys σ H w⟩
end
/-- the places of k from f on, at most 100 -/
structure IsPl (ss : List Stp) (k f : Nat) (L : List Nat) : Prop where
  le : L.length ≤ 100
  nth : ∀ j, j < L.length → IsNth ss [k] (cn ss f k + j) (L[j]?.getD 0)
  all : L.length = 100 ∨ cn ss (sz ss) k ≤ cn ss f k + L.length
theorem tot_one (ss : List Stp) (k p : Nat) : tot ss [k] p = cn ss p k := by simp [tot]
/-- throughout the generator -/
def PlG (K : PySem.W.Frag) (CT CP CC : Addr) (H1 : Hp) (c a d : Addr) (ss : List Stp) (av : Addr → Prop) (k f i : Nat) (ys : List V) (σ : St) (H : Hp) : Prop :=
  ∃ v5 v6 qs, ∃ L : List Nat, σ = [some (.ref a), some (.int k), some (.int f), some (.ref c), some (.int (cn ss f k : Nat)), v5, v6] ∧ ys = natV L ∧ L.length = i ∧ (∀ j, j < i → IsNth ss [k] (cn ss f k + j) (L[j]?.getD 0)) ∧
    But d H1 H ∧ CtAt K CT CP CC H c a d ss qs av ∧ qs.length ≤ 1 + 64 * i
section
variable (K : PySem.W.Frag) (CT CP : Addr)
def spg_places_of_key : SpG := fun vs H Q _ => ∃ a ss, ∃ k f : Nat, vs = [.ref a, .int k, .int f] ∧ TX K CT CP H a ss ∧ k < (tyL ss).length ∧ f ≤ sz ss ∧ ∀ H' L, Same H H' → IsPl ss k f L → Q (natV L) H'
end
end L2.Px

set_option Elab.async false
set_option linter.all false
set_option maxRecDepth 100000
set_option maxHeartbeats 1000000
/-! zip of a text and a list; enumerate of a text -/
namespace L2.Px
open PySem PySem.Spec PyProof.Rows StX TL
/-- the text x and the list at a, in new pairs -/
def Itzs (K : PySem.W.Frag) (x : Str) (a : Addr) : It :=
  ⟨fun i H => ∃ (ys : List V) (c : Nat) (y : V), SqL K H a ys ∧ x.cps[i]? = some c ∧ ys[i]? = some y,
    fun i H v H' => ∃ T c y, v = .ref T ∧ H T = none ∧ H' = upd H T (.tup [.str ⟨#[c]⟩, y]) ∧ x.cps[i]? = some c ∧ ∀ ys, SqL K H a ys → ys[i]? = some y,
    fun i H => ∃ ys : List V, SqL K H a ys ∧ i ≤ x.cps.size ∧ i ≤ ys.length ∧ (i = x.cps.size ∨ i = ys.length)⟩
theorem turn_zs {P : Program} {w : World} {K : PySem.W.Frag} {elts : List Expr} {kk : Nat} {tpos : Pos} {x : Str} {t : Tok} {a z TI TO i1 i2 : Addr} (D : ZipSep2 z TI TO i1 i2 [i1] [i2, a]) (hne : a ≠ i2) :
    Turn P w K (.Tuple elts kk tpos) (Itzs K x a) [z, TI, TO, i1, i2] z (fun i h => IsZip h z TI TO .none ∧ IsTupOf2 h TI (.ref i1) (.ref i2) ∧ (∃ x y, IsTupOf2 h TO x y) ∧ h.IsStrIter i1 (strIterType x) x t i ∧ h.IsListIter i2 a i) where
  mem := by simp
  obj := fun i h st c hc => by
    obtain ⟨hz, hTI, ⟨x, y, hTO⟩, ⟨o1, e1, _, d1⟩, ⟨o2, e2, _, d2⟩⟩ := st
    have e' : c = z ∨ c = TI ∨ c = TO ∨ c = i1 ∨ c = i2 := by simpa using hc
    rcases e' with q | q | q | q | q
    · rw [q]; exact ⟨_, hz, fun v q => nomatch q⟩
    · rw [q]; exact ⟨_, hTI, fun v q => nomatch q⟩
    · rw [q]; exact ⟨_, hTO, fun v q => nomatch q⟩
    · rw [q]; exact ⟨o1, e1, fun v q => by rw [d1] at q; cases q⟩
    · rw [q]; exact ⟨o2, e2, fun v q => by rw [d2] at q; cases q⟩
  keep := fun i h h' st k => by
    obtain ⟨hz, hTI, ⟨x, y, hTO⟩, ⟨o1, e1, h1⟩, h2⟩ := st
    exact ⟨k z (by simp) _ hz, k TI (by simp) _ hTI, ⟨x, y, k TO (by simp) _ hTO⟩, ⟨o1, k i1 (by simp) _ e1, h1⟩, h2.at fun o q => k i2 (by simp) o q⟩
  item := by
    intro X hP hw hK hc i pins s σ H E I hf st hg
    subst hP hw hK
    obtain ⟨hz, hTI, ⟨x0, y0, hTO⟩, h1, h2⟩ := st
    obtain ⟨ys, c, y, hqy, hx, hy⟩ := hg
    obtain ⟨its2, rv2, p2, _⟩ := I.list hqy
    obtain ⟨u2, hu2, ru2⟩ := rv2.get hy
    have hzl : z < s.heap.objs.size := Heap.lt_size hz
    have hh : X.A.handled = none := I.ok.hd hc
    have hi2 : i < its2.toArray.size := by
      rw [List.size_toArray]
      exact (List.getElem?_eq_some_iff.mp hu2).1
    have hi1 : i < x.cps.size := (Array.getElem?_eq_some_iff.mp hx).1
    refine wpAny_pyNext_zipD2_item D (Draws.text (A := X.A.in1) hh i1 x t) (Draws.list (A := X.A.in1) hh i2 a hne its2.toArray) hz hTI hTO h1 ⟨h2, p2.isList⟩ hi1 hi2 fun x1 x2 h' tk hx1 hx2 z' TO' h1' h2' hT hsz hk => ?_
    obtain ⟨c', u1, hc', rfl⟩ := hx1
    rw [hx] at hc'
    cases hc'
    have eu : x2 = u2 := by
      have q : its2[i]? = some x2 := by simpa using hx2
      rw [hu2] at q; exact (Option.some.inj q).symm
    subst eu
    refine ⟨_, rfl, wpAny_letOwnedTupleGo_zip (s := { s with heap := h', toks := tk }) z' fun h'' z'' sb => ?_⟩
    have hT2 : h''.get? s.heap.objs.size = some { cls := .type "tuple", data := .seq #[.str ⟨#[c]⟩ u1, x2] } := (sb.2 _ (Nat.ne_of_gt hzl)).trans hT
    have new : ObjOk X.prog X.w (upd H s.heap.objs.size (.tup [.str ⟨#[c]⟩, y])) h'' s.heap.objs.size (.tup [.str ⟨#[c]⟩, y]) :=
      ⟨by show 2 ≤ sizeLine; decide, [.str ⟨#[c]⟩ u1, x2], .cons ⟨_, rfl⟩ (.cons ru2 .nil), ⟨_, hT2, rfl, _, rfl⟩⟩
    have I1 : Inv X pins σ (upd H s.heap.objs.size (.tup [.str ⟨#[c]⟩, y])) { s with heap := h'', toks := tk } :=
      I.turnedNew (t' := tk) (ch := [z, TI, TO, i1, i2]) (fun c o hb q => (sb.2 c (fun q' => hb (by simp [q']))).trans (hk c o (fun q' => hb (by simp [q'])) (fun q' => hb (by simp [q'])) (fun q' => hb (by simp [q'])) (fun q' => hb (by simp [q'])) q)) hf (Nat.le_refl _) new
    refine ⟨.ref s.heap.objs.size, _, I1, rfl, ⟨_, c, y, rfl, I.hok.fresh (Nat.le_refl _), rfl, hx, fun l hl => by rw [I.list_inj hl hqy]; exact hy⟩, ⟨z'', ?_, ⟨.str ⟨#[c]⟩ u1, x2, ?_⟩, ?_, ?_⟩, fun c hcm => ?_⟩
    · exact (sb.2 _ D.TIz).trans (hk _ _ D.TIz D.TITO D.TIi1 D.TIi2 hTI)
    · exact (sb.2 _ D.TOz).trans TO'
    · obtain ⟨o1, e1, r1⟩ := h1'
      exact ⟨o1, (sb.2 _ (Ne.symm D.zi1)).trans e1, r1⟩
    · exact h2'.1.at fun o q => (sb.2 _ (Ne.symm D.zi2)).trans q
    · have hlt : c < s.heap.objs.size := by
        have e' : c = z ∨ c = TI ∨ c = TO ∨ c = i1 ∨ c = i2 := by simpa using hcm
        rcases e' with q | q | q | q | q
        · rw [q]; exact hzl
        · rw [q]; exact Heap.lt_size hTI
        · rw [q]; exact Heap.lt_size hTO
        · rw [q]; obtain ⟨_, e1, _⟩ := h1; exact Heap.lt_size e1
        · rw [q]; obtain ⟨_, e2, _⟩ := h2; exact Heap.lt_size e2
      rw [upd_ne (Nat.ne_of_lt hlt)]
      exact (hf c hcm).1
  done := by
    intro X hP hw hK hc i pins s σ H E I hf st hg
    subst hP hw hK
    obtain ⟨hz, hTI, ⟨x0, y0, hTO⟩, h1, h2⟩ := st
    obtain ⟨ys, hqy, l1, l2, hend⟩ := hg
    obtain ⟨its2, rv2, p2, _⟩ := I.list hqy
    have hh : X.A.handled = none := I.ok.hd hc
    have hl : its2.toArray.size = ys.length := by rw [List.size_toArray]; exact rv2.length.symm
    exact wpAny_pyNext_zipD2_end D (Draws.text (A := X.A.in1) hh i1 x t) (Draws.list (A := X.A.in1) hh i2 a hne its2.toArray) hz hTI hTO h1 ⟨h2, p2.isList⟩ l1 (by rw [hl]; exact l2) (by rw [hl]; exact hend)
      fun h' tk hk => ⟨rfl, I.turnedL (t' := tk) (ch := [z, TI, TO, i1, i2]) (fun c o hb q =>
      hk c o (fun q' => hb (by simp [q'])) (fun q' => hb (by simp [q'])) (fun q' => hb (by simp [q'])) (fun q' => hb (by simp [q'])) q) hf⟩
  self := fun A i s Q E st h => wpAny_pyIter_zip st.1 h
theorem sep2 (n a : Nat) (h : a < n) : ZipSep2 (n + 4 : Nat) (n + 2 : Nat) (n + 3 : Nat) n (n + 1 : Nat) [n] [(n + 1 : Nat), a] := by
  have ne : ∀ {x y : Nat}, x ≠ y → (show Addr from x) ≠ (show Addr from y) := fun h => h
  refine ⟨ne (by omega), ne (by omega), ne (by omega), ne (by omega), by simp, fun z => ?_, fun z => ?_, ne (by omega), by simp, fun z => ?_, fun z => ?_, fun z => ?_, fun z => ?_⟩
  all_goals
    have z : _ := List.mem_cons.mp z
    rcases z with z | z
    · exact absurd z (ne (by omega))
  all_goals
    first
    | exact absurd z (List.not_mem_nil)
    | (rcases List.mem_cons.mp z with z | z
       · exact absurd z (ne (by omega))
       · exact absurd z (List.not_mem_nil))
def iZipS (K : PySem.W.Frag) (ta : TA) : TI := fun σ H R => ta σ H fun vs H1 => ∃ x a ys, vs = [.str x, .ref a] ∧ SqL K H1 a ys ∧ R (Itzs K x a) H1
theorem pi_zipS {K : PySem.W.Frag} {X : Cx} {e e2 : Expr} {ta : TA} {p pos tpos : Pos} {elts : List Expr} {kk : Nat} (hK : X.K = K) (hg : Gl X "zip") (hm : X.mg "zip" = none) (ha : PA X [e, e2] ta)
    (hs : starEach [e, e2] X.env = (false, eval e X.env) :: starEach [e2] X.env := by rfl) (hpl : (backTo pos (starEach [e2] X.env)).any (·.1) = false := by rfl) :
    PI X (.Tuple elts kk tpos) (.Call (.Name "zip" p) [e, e2] [] pos) (iZipS K ta) := by
  subst hK
  refine ⟨fun pins s σ H R I h => ?_⟩
  refine Call_ (ld_blt I hg hm PyProof.Rows.boot_zip (PyProof.Rows.callWith_type1 (thn (ha.run pos pins s σ H _ I h) fun us s1 ⟨vs, H1, I1, r1, q1⟩ => ?_) hs hpl))
  obtain ⟨x, a, ys, ex, hqy, q⟩ := q1
  subst ex
  cases r1 with
  | cons r rr =>
    cases rr with
    | cons r' rr =>
      cases rr
      obtain ⟨t, rfl⟩ := r
      cases r'
      obtain ⟨its2, rv2, p2, _⟩ := I1.list hqy
      have lb : a < s1.heap.objs.size := p2.lt
      refine zip_begins2 (begins_text x t) (begins_list a its2.toArray) trivial p2.isList fun h' hz hTI hTO g1 g2 hsz hk => wpAny_pyIter_zip hz ?_
      have I2 : Inv X pins σ H1 { s1 with heap := h' } := I1.kept (t' := s1.toks) hk
      have D : ZipSep2 (s1.heap.objs.size + 4) (s1.heap.objs.size + 2) (s1.heap.objs.size + 3) s1.heap.objs.size (s1.heap.objs.size + 1) [s1.heap.objs.size] [s1.heap.objs.size + 1, a] := sep2 _ _ lb
      have hne : a ≠ s1.heap.objs.size + 1 := Nat.ne_of_lt (Nat.lt_succ_of_lt lb)
      refine ⟨s1.heap.objs.size + 4, [s1.heap.objs.size + 4, s1.heap.objs.size + 2, s1.heap.objs.size + 3, s1.heap.objs.size, s1.heap.objs.size + 1], _, _, H1, rfl, I2, turn_zs (t := t) D hne, ⟨hz, hTI, ⟨_, _, hTO⟩, ⟨_, g1, rfl, rfl⟩, ⟨_, g2, rfl, rfl⟩⟩, fun c hcm => ?_, q⟩
      have e' : c = s1.heap.objs.size + 4 ∨ c = s1.heap.objs.size + 2 ∨ c = s1.heap.objs.size + 3 ∨ c = s1.heap.objs.size ∨ c = s1.heap.objs.size + 1 := by simpa using hcm
      have hle : s1.heap.objs.size ≤ c := by
        rcases e' with z | z | z | z | z
        · rw [z]; exact Nat.le_add_right _ _
        · rw [z]; exact Nat.le_add_right _ _
        · rw [z]; exact Nat.le_add_right _ _
        · rw [z]; exact Nat.le_refl _
        · rw [z]; exact Nat.le_add_right _ _
      exact I1.fpOk hle (I1.hok.fresh hle)
theorem rd_iZipS {K : PySem.W.Frag} {ta : TA} {σ : St} {H : Hp} {Rr : It → Hp → Prop} (h : ta σ H fun vs H1 => ∃ x a ys, vs = [.str x, .ref a] ∧ SqL K H1 a ys ∧ Rr (Itzs K x a) H1) : iZipS K ta σ H Rr := h
theorem pairy_zs {K : PySem.W.Frag} {L M : List Nat} {m : Addr} {H : Hp} (g : H m = some (.lst (natV M))) (hl : L.length = M.length) : Pairy (Itzs K (mkS L) m) L.length (fun i => [.str ⟨#[L[i]?.getD 0]⟩, .int (M[i]?.getD 0 : Nat)]) H where
  stop := fun H s => ⟨_, s.seq (SqL.of g), by simp [mkS], by rw [natV_len]; omega, .inl (by simp [mkS])⟩
  go := fun i H s hi => ⟨_, L[i], _, s.seq (SqL.of g), by simp [mkS, hi], List.getElem?_eq_getElem (by rw [natV_len]; omega)⟩
  yld := fun i H x H' s hi y => by
    obtain ⟨T, c, u, e1, e2, e3, e4, e5⟩ := y
    have h5 := e5 _ (s.seq (SqL.of g))
    have e4' : L[i]? = some c := by simpa [mkS] using e4
    refine ⟨T, e2, ?_, e1⟩
    rw [e3, e4']
    have : u = .int (M[i]?.getD 0 : Nat) := by
      unfold natV at h5
      rw [List.getElem?_map] at h5
      have hM : M[i]? = some M[i] := List.getElem?_eq_getElem (by omega)
      rw [hM] at h5 ⊢
      exact (Option.some.inj h5).symm
    rw [this]; rfl
end L2.Px

set_option Elab.async false
set_option linter.all false
set_option maxRecDepth 100000
set_option maxHeartbeats 1000000
/-! dicts from letters to counts; dict comprehensions -/
namespace L2.Px
open PySem PySem.Spec PyProof.Rows StX TL
def lsum (L M : List Nat) (c : Nat) : Nat := ((L.zip M).map fun p => if p.1 = c then p.2 else 0).sum
theorem lsum_snoc {L M : List Nat} {i c : Nat} (h1 : i < L.length) (h2 : i < M.length) : lsum (L.take (i + 1)) (M.take (i + 1)) c = lsum (L.take i) (M.take i) c + if L[i]?.getD 0 = c then M[i]?.getD 0 else 0 := by
  unfold lsum
  rw [List.take_succ_eq_append_getElem h1, List.take_succ_eq_append_getElem h2, List.zip_append (by simp; omega), List.map_append, List.sum_append]
  simp [List.getElem?_eq_getElem h1, List.getElem?_eq_getElem h2]
theorem lsum_none : ∀ {L M : List Nat} {c : Nat}, c ∉ L → lsum L M c = 0
  | [], _, _, _ => rfl
  | _ :: _, [], _, _ => rfl
  | a :: L, b :: M, c, h => by
    have h1 := lsum_none (L := L) (M := M) (c := c) fun z => h (List.mem_cons_of_mem _ z)
    have h2 : ¬ a = c := fun z => h (z ▸ List.mem_cons_self)
    unfold lsum at h1 ⊢
    simp [h2, h1]
/-- the dict from some letters to numbers -/
def kvL (f : Nat → Nat) (cs : List Nat) : List (Key × V) := cs.map fun c => ((Sum.inr ⟨#[c]⟩ : Key), V.int (f c : Nat))
theorem key_inj {c d : Nat} : ((Sum.inr ⟨#[c]⟩ : Key) = Sum.inr ⟨#[d]⟩) ↔ c = d := by
  constructor
  · intro h
    have h1 := Sum.inr.inj h
    have h2 := congrArg Str.cps h1
    simpa using h2
  · rintro rfl; rfl
theorem kvL_val (f : Nat → Nat) (cs : List Nat) (c : Nat) : valV (kvL f cs) (Sum.inr ⟨#[c]⟩ : Key) = if c ∈ cs then some (.int (f c : Nat)) else none := by
  unfold valV kvL
  induction cs with
  | nil => rfl
  | cons d r ih =>
    rw [List.map_cons, List.find?_cons]
    by_cases h : d = c
    · subst h
      simp
    · have : decide ((Sum.inr ⟨#[d]⟩ : Key) = Sum.inr ⟨#[c]⟩) = false := decide_eq_false fun z => h (key_inj.mp z)
      rw [this]
      have e : (c ∈ d :: r) = (c ∈ r) := propext (by simp [Ne.symm h])
      simp only [e]
      exact ih
theorem kvL_get {f : Nat → Nat} {cs : List Nat} {c : Nat} (h : c ∉ cs → f c = 0) : (valV (kvL f cs) (Sum.inr ⟨#[c]⟩ : Key)).getD (.int 0) = .int (f c : Nat) := by
  rw [kvL_val]
  split
  · rfl
  · rename_i z; rw [h z]; rfl
theorem kvL_put (f g : Nat → Nat) (cs : List Nat) (c n : Nat) (hg : ∀ x, g x = if x = c then n else f x) : putK (kvL f cs) (Sum.inr ⟨#[c]⟩ : Key) (.int (n : Nat)) = kvL g (if c ∈ cs then cs else cs ++ [c]) := by
  by_cases h : c ∈ cs
  · rw [if_pos h]
    unfold putK
    have : (kvL f cs).any (fun kv => decide (kv.1 = (Sum.inr ⟨#[c]⟩ : Key))) = true := by
      rw [List.any_eq_true]
      exact ⟨_, List.mem_map.mpr ⟨c, h, rfl⟩, decide_eq_true rfl⟩
    rw [if_pos this]
    unfold kvL
    rw [List.map_map]
    refine List.map_congr_left fun x _ => ?_
    show (if (Sum.inr ⟨#[x]⟩ : Key) = Sum.inr ⟨#[c]⟩ then ((Sum.inr ⟨#[x]⟩ : Key), V.int (n : Nat)) else (Sum.inr ⟨#[x]⟩, V.int (f x : Nat))) = (Sum.inr ⟨#[x]⟩, V.int (g x : Nat))
    rw [hg]
    by_cases e : x = c
    · rw [if_pos (key_inj.mpr e), if_pos e]
    · rw [if_neg fun z => e (key_inj.mp z), if_neg e]
  · rw [if_neg h, putK_new _ (by rw [kvL_val, if_neg h])]
    unfold kvL
    rw [List.map_append]
    congr 1
    · refine List.map_congr_left fun x hx => ?_
      rw [hg, if_neg (fun z : x = c => h (z ▸ hx))]
    · simp [hg]
theorem kvL_keys (f : Nat → Nat) (cs : List Nat) : (kvL f cs).map (·.1) = (cs.map sgn).map Sum.inr := by
  unfold kvL sgn
  rw [List.map_map, List.map_map]; rfl
theorem kvL_len (f : Nat → Nat) (cs : List Nat) : (kvL f cs).length = cs.length := List.length_map _
theorem kvL_congr {f g : Nat → Nat} {cs : List Nat} (h : ∀ c ∈ cs, f c = g c) : kvL f cs = kvL g cs := List.map_congr_left fun c hc => by rw [h c hc]
/-- sorted single letters -/
theorem rising_head : ∀ {l : List Nat} {p : Nat}, risingS (sgn p) (l.map sgn) = true → ∀ x ∈ l, p ≤ x
  | [], _, _, x, hx => absurd hx (List.not_mem_nil)
  | y :: r, p, h, x, hx => by
    have h : (!ltCps [y] [p] && risingS (sgn y) (r.map sgn)) = true := h
    rw [Bool.and_eq_true] at h
    have h1 : p ≤ y := by
      have := h.1
      simp only [ltCps, Bool.not_eq_true', Bool.or_eq_false_iff, decide_eq_false_iff_not] at this
      omega
    rcases List.mem_cons.mp hx with rfl | hx
    · exact h1
    · exact Nat.le_trans h1 (rising_head h.2 x hx)
theorem rising_all : ∀ {l : List Nat} {p : Nat}, risingS (sgn p) (l.map sgn) = true → (p :: l).Pairwise (· ≤ ·)
  | [], p, _ => List.pairwise_singleton ..
  | y :: r, p, h => by
    have h0 := h
    have h : (!ltCps [y] [p] && risingS (sgn y) (r.map sgn)) = true := h
    rw [Bool.and_eq_true] at h
    exact List.pairwise_cons.mpr ⟨rising_head h0, rising_all h.2⟩
theorem sorted_letters {ds : List Nat} {ys : List Str} (hp : ys.Perm (ds.map sgn)) (hs : sortedS ys = true) (hn : ds.Nodup) : ∃ cs : List Nat, ys = cs.map sgn ∧ cs.Pairwise (· < ·) ∧ ∀ c, c ∈ cs ↔ c ∈ ds := by
  have hy : ys = (ys.map fun y => y.cps[0]?.getD 0).map sgn := by
    rw [List.map_map]
    refine (List.map_id ys).symm.trans (List.map_congr_left fun y hy => ?_)
    obtain ⟨c, _, rfl⟩ := List.mem_map.mp (hp.mem_iff.mp hy)
    rfl
  generalize ys.map (fun y => y.cps[0]?.getD 0) = cs at hy
  subst hy
  have hinj : ∀ a b, sgn a = sgn b → a = b := fun a b h => by simpa [sgn] using h
  have hm : ∀ c, c ∈ cs ↔ c ∈ ds := fun c => by
    have := hp.mem_iff (a := sgn c)
    simp only [List.mem_map] at this
    constructor
    · intro z
      obtain ⟨d, hd, e⟩ := this.mp ⟨c, z, rfl⟩
      exact hinj _ _ e ▸ hd
    · intro z
      obtain ⟨d, hd, e⟩ := this.mpr ⟨c, z, rfl⟩
      exact hinj _ _ e ▸ hd
  have hcn : cs.Nodup := by
    have h1 : (ds.map sgn).Nodup := List.pairwise_map.mpr (hn.imp fun h z => h (hinj _ _ z))
    have h2 := hp.nodup_iff.mpr h1
    exact (List.pairwise_map.mp h2).imp fun {a b} (h : sgn a ≠ sgn b) (z : a = b) => h (by rw [z])
  have hle : cs.Pairwise (· ≤ ·) := by
    cases cs with
    | nil => exact List.Pairwise.nil
    | cons p l => exact rising_all hs
  exact ⟨cs, rfl, (List.pairwise_and_iff.mpr ⟨hle, hcn⟩ |>.imp fun h => Nat.lt_of_le_of_ne h.1 h.2), hm⟩
theorem asc_26 {cs : List Nat} (h : cs.Nodup) (hb : ∀ c ∈ cs, 97 ≤ c ∧ c ≤ 122) : cs.length ≤ 26 := by
  have := nodup_len (m := (List.range 26).map (97 + ·)) h fun c hc => List.mem_map.mpr ⟨c - 97, List.mem_range.mpr (by have := hb c hc; omega), by have := hb c hc; omega⟩
  simpa using this
section
variable {wi : TI} {g : TG} {tt : TT} {tk tv : TE} {ws : List Nat} {σ : St} {H : Hp} {Q : VK}
def DcW (J : It) (g : TG) (tt : TT) (tk tv : TE) (vs : List Nat) (σ : St) (H1 : Hp) (D : Addr) (Qd : Hp → Prop) : Prop := ∃ W : Nat → Nat → Hp → Prop, (∃ m, W 0 m (upd H1 D (.dK []))) ∧ ∀ i m H, W i m H →
  (J.stop i H ∧ Qd H) ∨ (J.go i H ∧ ∃ Nx : Hp → Prop, (∀ H', Nx H' → ∃ m', m' < m ∧ W (i + 1) m' H') ∧ ∀ x H', J.yld i H x H' → g x (wipe σ vs) H' fun σ2 H2 => wipe σ2 vs = wipe σ vs ∧ tt σ2 H2 fun b H3 =>
    if b = true then tk σ2 H3 fun y H4 => tv σ2 H4 fun z H5 => ∃ kvs k, y = kV k ∧ H5 D = some (.dK kvs) ∧ kvs.length < sizeLine ∧ Nx (upd H5 D (.dK (putK kvs k z))) else Nx H3)
theorem rd_dc (h : wi σ H fun J H1 => ∀ D, H1 D = none → DcW J g tt tk tv ws σ H1 D fun H' => Q (.ref D) H') : tDc wi g tt tk tv ws σ H Q := h
theorem rd_dget2 {td ty tx : TE} (h : td σ H fun x H1 => ∃ a, x = .ref a ∧ IsD H1 a ∧ ty σ H1 fun y H2 => tx σ H2 fun z H3 => ∃ o, DGet H3 a y o ∧ Q (o.getD z) H3) : tDGet2 td ty tx σ H Q := h
end
section
variable {J : It} {n : Nat} {it : Nat → V} {H1 : Hp} {tt : TT} {tk tv : TE} {vs : List Nat} {σ : St} {D : Addr} {Qd : Hp → Prop} {j : Nat}
/-- {kf x: vf x for x in .. if p x}, the keys all unlike -/
theorem dc_filt (P : Plain J n it H1) (hD : H1 D = none) (hn : n < sizeLine) (hj : ∀ v, wipe ((wipe σ vs).set j (some v)) vs = wipe σ vs) (kf : Nat → Key) (vf : Nat → V) (p : Nat → Bool) (hk : ∀ i k, i < k → k < n → kf i ≠ kf k)
    (ht : ∀ i H (R : Bool → Hp → Prop), i < n → Same H1 H → (∀ H', Same H H' → R (p i) H') → tt ((wipe σ vs).set j (some (it i))) H R)
    (hs : ∀ i H (Q : VK), i < n → p i = true → Same H1 H → (∀ H', Same H H' → Q (kV (kf i)) H') → tk ((wipe σ vs).set j (some (it i))) H Q)
    (hv : ∀ i H (Q : VK), i < n → p i = true → Same H1 H → (∀ H', Same H H' → Q (vf i) H') → tv ((wipe σ vs).set j (some (it i))) H Q)
    (hd : ∀ H, Same H1 H → H D = some (.dK (((List.range n).filter p).map fun i => (kf i, vf i))) → Qd H) : DcW J (gName j) tt tk tv vs σ H1 D Qd := by
  refine ⟨fun i m H => m = n - i ∧ i ≤ n ∧ Same H1 H ∧ H D = some (.dK (((List.range i).filter p).map fun i => (kf i, vf i))), ⟨_, rfl, Nat.zero_le _, Same.new (Same.refl _) hD, upd_same⟩, ?_⟩
  rintro i m H ⟨rfl, hi, S, eD⟩
  by_cases hlt : i < n
  · refine .inr ⟨P.go i H S hlt, fun H' => i + 1 ≤ n ∧ Same H1 H' ∧ H' D = some (.dK (((List.range (i + 1)).filter p).map fun i => (kf i, vf i))), fun H' z => ⟨n - (i + 1), by omega, rfl, z⟩, fun x H' y => ?_⟩
    obtain ⟨e1, e2⟩ := P.yld i H x H' S hlt y
    subst e1 e2
    refine ⟨hj _, ht i H' _ hlt S fun H2 S2 => ?_⟩
    by_cases hp : p i = true
    · rw [if_pos hp]
      refine hs i H2 _ hlt hp (S.trans S2) fun H3 S3 => hv i H3 _ hlt hp ((S.trans S2).trans S3) fun H4 S4 => ⟨_, kf i, rfl, S4 _ _ (S3 _ _ (S2 _ _ eD)), ?_, hlt, Same.mut (((S.trans S2).trans S3).trans S4) hD, ?_⟩
      · have := List.length_filter_le p (List.range i)
        rw [List.length_range] at this
        rw [List.length_map]; omega
      · rw [upd_same, putK_new, List.range_succ, List.filter_append, List.map_append]
        · simp [hp]
        · unfold valV
          rw [List.find?_eq_none.mpr]
          · rfl
          · intro kv hkv
            obtain ⟨q, hq, rfl⟩ := List.mem_map.mp hkv
            have := List.mem_range.mp (List.mem_filter.mp hq).1
            simpa using hk q i this hlt
    · rw [if_neg hp]
      refine ⟨hlt, S.trans S2, ?_⟩
      rw [S2 _ _ eD, List.range_succ, List.filter_append, List.map_append]
      simp [hp]
  · have e : i = n := by omega
    subst e
    exact .inl ⟨P.stop H S, hd H S eD⟩
end
theorem plain_sg {K : PySem.W.Frag} {H : Hp} {l : Addr} {cs : List Nat} (h : H l = some (.lst ((cs.map sgn).map V.str))) : Plain (Itl K l) cs.length (fun i => .str ⟨#[cs[i]?.getD 0]⟩) H := by
  have P := plain_list (K := K) (SqL.of h)
  have hl : ((cs.map sgn).map V.str).length = cs.length := by simp
  rw [hl] at P
  refine ⟨P.stop, P.go, fun i H x H' S hi y => ?_⟩
  obtain ⟨e1, e2⟩ := P.yld i H x H' S hi y
  refine ⟨e1, e2.trans ?_⟩
  rw [List.getElem?_map, List.getElem?_map, List.getElem?_eq_getElem hi]
  rfl
theorem range_pick {α : Type} (cs : List Nat) (q : Nat → Bool) (h : Nat → α) : ((List.range cs.length).filter fun i => q (cs[i]?.getD 0)).map (fun i => h (cs[i]?.getD 0)) = (cs.filter q).map h := by
  have e : (List.range cs.length).map (fun i => cs[i]?.getD 0) = cs := by
    apply List.ext_getElem
    · simp
    · intro i h1 h2
      rw [List.getElem_map, List.getElem_range, List.getElem?_eq_getElem h2]; rfl
  conv => rhs; rw [← e]
  rw [List.filter_map, List.map_map]
  rfl
/-- how often the letter c stands in f .. e - 1 -/
def lcn (ss : List Stp) (f e c : Nat) : Nat := lsum (tyL ss) (kcs ss f e) c
section
variable (K : PySem.W.Frag) (CT CP : Addr)
def sp_letter_counts : Sp := fun vs H Q _ => ∃ a ss, ∃ f e : Nat, vs = [.ref a, .int f, .int ((e : Int) - 1)] ∧ TX K CT CP H a ss ∧ f ≤ e ∧ e ≤ sz ss ∧
  ∀ H' D cs, Same H H' → H' D = some (.dK (kvL (lcn ss f e) cs)) → cs.Pairwise (· < ·) → (∀ c, c ∈ cs ↔ 0 < lcn ss f e c) → Q (.ref D) H'
end
end L2.Px

set_option Elab.async false
set_option linter.all false
set_option maxRecDepth 100000
set_option maxHeartbeats 1000000
/-! enumerate of a text -/
namespace L2.Px
open PySem PySem.Spec PyProof.Rows StX TL
/-- the text x, each sign in a new pair -/
def Ites (x : Str) : It :=
  ⟨fun i _ => i < x.cps.size, fun i H v H' => ∃ T c, v = .ref T ∧ H T = none ∧ H' = upd H T (.tup [.int (i : Nat), .str ⟨#[c]⟩]) ∧ x.cps[i]? = some c, fun i _ => i = x.cps.size⟩
theorem turn_es {P : Program} {w : World} {K : PySem.W.Frag} {elts : List Expr} {kk : Nat} {tpos : Pos} {x : Str} {t : Tok} (e it : Addr) :
    Turn P w K (.Tuple elts kk tpos) (Ites x) [e, it] e (fun i h => (∃ old, IsEnum h e it ((i : Nat) : Int) old) ∧ h.IsStrIter it (strIterType x) x t i ∧ e ≠ it) where
  mem := by simp
  obj := fun i h st b hb => by
    obtain ⟨⟨old, he⟩, ⟨o, ho, hc, hd⟩, _⟩ := st
    have e' : b = e ∨ b = it := by simpa using hb
    rcases e' with z | z
    · rw [z]; exact ⟨_, he, fun v q => nomatch q⟩
    · rw [z]; exact ⟨o, ho, fun v q => by rw [hd] at q; cases q⟩
  keep := fun i h h' st k => let ⟨⟨old, he⟩, ⟨o, ho, r⟩, hne⟩ := st; ⟨⟨old, k e (by simp) _ he⟩, ⟨o, k it (by simp) _ ho, r⟩, hne⟩
  item := by
    intro X hP hw hK hc i pins s σ H E I hf st hg
    subst hP hw hK
    obtain ⟨⟨old, he⟩, hit, hne⟩ := st
    have hel : e < s.heap.objs.size := Heap.lt_size he
    have hil : it < s.heap.objs.size := by obtain ⟨_, q, _⟩ := hit; exact Heap.lt_size q
    have hh : X.A.handled = none := I.ok.hd hc
    refine wpAny_pyNext_enum_itemD (Draws.text (A := X.A.in1) hh it x t) he hit hg hne (by simp [hne]) fun u' h' tk hu' ho hit' hT hsz hk => ?_
    obtain ⟨c, u, hcx, rfl⟩ := hu'
    refine ⟨_, rfl, wpAny_letOwnedTupleGo_enum (s := { s with heap := h', toks := tk + 1 }) ho fun h'' he' sb => ?_⟩
    have hT2 : h''.get? s.heap.objs.size = some { cls := .type "tuple", data := .seq #[.int i tk, .str ⟨#[c]⟩ u] } := (sb.2 _ (Nat.ne_of_gt hel)).trans hT
    have new : ObjOk X.prog X.w (upd H s.heap.objs.size (.tup [.int (i : Nat), .str ⟨#[c]⟩])) h'' s.heap.objs.size (.tup [.int (i : Nat), .str ⟨#[c]⟩]) :=
      ⟨by show 2 ≤ sizeLine; decide, [.int i tk, .str ⟨#[c]⟩ u], .cons ⟨_, rfl⟩ (.cons ⟨_, rfl⟩ .nil), ⟨_, hT2, rfl, _, rfl⟩⟩
    have I1 : Inv X pins σ (upd H s.heap.objs.size (.tup [.int (i : Nat), .str ⟨#[c]⟩])) { s with heap := h'', toks := tk + 1 } :=
      I.turnedNew (ch := [e, it]) (fun b ob hb q => (sb.2 b (fun z => hb (by simp [z]))).trans (hk b ob (fun z => hb (by simp [z])) (fun z => hb (by simp [z])) q)) hf (Nat.le_refl _) new
    refine ⟨.ref s.heap.objs.size, _, I1, rfl, ⟨_, c, rfl, I.hok.fresh (Nat.le_refl _), rfl, hcx⟩, ⟨⟨.str ⟨#[c]⟩ u, ?_⟩, ?_, hne⟩, fun b hb => ?_⟩
    · have e1 : ((i + 1 : Nat) : Int) = (i : Int) + 1 := by omega
      rw [e1]; exact he'
    · obtain ⟨o1, q1, r1⟩ := hit'
      exact ⟨o1, (sb.2 it (Ne.symm hne)).trans q1, r1⟩
    · have hb' : b < s.heap.objs.size := by
        have e' : b = e ∨ b = it := by simpa using hb
        rcases e' with z | z
        · rw [z]; exact hel
        · rw [z]; exact hil
      rw [upd_ne (Nat.ne_of_lt hb')]
      exact (hf b hb).1
  done := by
    intro X hP hw hK hc i pins s σ H E I hf st hg
    subst hP hw hK
    obtain ⟨⟨old, he⟩, hit, hne⟩ := st
    obtain ⟨f0, f1, f2, f3, f4, f5⟩ := hf it (by simp)
    have hh : X.A.handled = none := I.ok.hd hc
    have hg : i = x.cps.size := hg
    subst hg
    exact wpAny_pyNext_enum_endD (Draws.text (A := X.A.in1) hh it x t) he hit fun h' eb => ⟨rfl, I.turned (t' := s.toks) (fun b o hb q => eb b o hb q) f0 f1 f3 f4 f5⟩
  self := fun A i s Q E st h => let ⟨⟨_, he⟩, _⟩ := st; wpAny_pyIter_enum he h
def iEnumS (ta : TA) : TI := fun σ H R => ta σ H fun vs H1 => ∃ x, vs = [.str x] ∧ R (Ites x) H1
theorem pi_enumS {X : Cx} {e : Expr} {ta : TA} {p pos tpos : Pos} {elts : List Expr} {kk : Nat} (hg : Gl X "enumerate") (hm : X.mg "enumerate" = none) (ha : PA X [e] ta) (hs : starEach [e] X.env = [(false, eval e X.env)] := by rfl) :
    PI X (.Tuple elts kk tpos) (.Call (.Name "enumerate" p) [e] [] pos) (iEnumS ta) := by
  refine ⟨fun pins s σ H R I h => ?_⟩
  refine Call_ (ld_blt I hg hm boot_enumerate (PyProof.Rows.callWith_type1 (thn (ha.run pos pins s σ H _ I h) fun us s1 ⟨vs, H1, I1, r1, q1⟩ => ?_) hs rfl))
  obtain ⟨x, ex, q⟩ := q1
  subst ex
  cases r1 with
  | cons r rr =>
    cases rr
    obtain ⟨t, rfl⟩ := r
    refine call_enumerate_str fun h' he hit hsz hk => wpAny_pyIter_enum he ?_
    have I2 : Inv X pins σ H1 { s1 with heap := h' } := I1.kept (t' := s1.toks) hk
    refine ⟨s1.heap.objs.size + 1, [s1.heap.objs.size + 1, s1.heap.objs.size], _, _, H1, rfl, I2, turn_es (t := t) (s1.heap.objs.size + 1) s1.heap.objs.size, ⟨⟨.none, he⟩, hit, Nat.succ_ne_self _⟩, fun b hb => ?_, q⟩
    have e' : b = s1.heap.objs.size + 1 ∨ b = s1.heap.objs.size := by simpa using hb
    have hle : s1.heap.objs.size ≤ b := by
      rcases e' with z | z
      · rw [z]; exact Nat.le_add_right _ _
      · rw [z]; exact Nat.le_refl _
    exact I1.fpOk hle (I1.hok.fresh hle)
theorem rd_iEnumS {ta : TA} {σ : St} {H : Hp} {Rr : It → Hp → Prop} (h : ta σ H fun vs H1 => ∃ x, vs = [.str x] ∧ Rr (Ites x) H1) : iEnumS ta σ H Rr := h
theorem pairy_es {L : List Nat} {H : Hp} : Pairy (Ites (mkS L)) L.length (fun i => [.int (i : Nat), .str ⟨#[L[i]?.getD 0]⟩]) H where
  stop := fun H s => by show L.length = _; simp [mkS]
  go := fun i H s hi => by show i < _; simpa [mkS] using hi
  yld := fun i H x H' s hi y => by
    obtain ⟨T, c, e1, e2, e3, e4⟩ := y
    have e4' : L[i]? = some c := by simpa [mkS] using e4
    exact ⟨T, e2, by rw [e3, e4']; rfl, e1⟩
/-- [e for a, b in .. if ..] -/
theorem lc_pairF {K : PySem.W.Frag} {J : It} {n m : Nat} {it : Nat → List V} {H1 : Hp} {tt : TT} {te : TE} {vs : List Nat} {σ : St} {D : Addr} {Qd : Hp → Prop} {j1 j2 : Nat} (x y : Nat → V) (P : Pairy J n it H1) (hD : H1 D = none) (hn : n ≤ sizeLine) (h2 : m = 2) (hit : ∀ i, i < n → it i = [x i, y i])
    (hj : ∀ v u, wipe (((wipe σ vs).set j1 (some v)).set j2 (some u)) vs = wipe σ vs) (f : Nat → V) (p : Nat → Bool)
    (ht : ∀ i H (R : Bool → Hp → Prop), i < n → Same H1 H → (∀ H', Same H H' → R (p i) H') → tt (((wipe σ vs).set j1 (some (x i))).set j2 (some (y i))) H R)
    (hs : ∀ i H (Q : VK), i < n → p i = true → Same H1 H → (∀ H', Same H H' → Q (f i) H') → te (((wipe σ vs).set j1 (some (x i))).set j2 (some (y i))) H Q)
    (hd : ∀ H, Same H1 H → H D = some (.lst (((List.range n).filter p).map f)) → Qd H) : LcW J (gTup K m (gCons (gName j1) (gCons (gName j2) gNil))) tt te vs σ H1 D Qd := by
  refine ⟨fun i m H => m = n - i ∧ i ≤ n ∧ Same H1 H ∧ H D = some (.lst (((List.range i).filter p).map f)), ⟨_, rfl, Nat.zero_le _, Same.new (Same.refl _) hD, upd_same⟩, ?_⟩
  rintro i m H ⟨rfl, hi, S, eD⟩
  by_cases hlt : i < n
  · refine .inr ⟨P.go i H S hlt, fun H' => i + 1 ≤ n ∧ Same H1 H' ∧ H' D = some (.lst (((List.range (i + 1)).filter p).map f)), fun H' z => ⟨n - (i + 1), by omega, rfl, z⟩, fun z H' q => ?_⟩
    obtain ⟨T, hT, e1, e2⟩ := P.yld i H z H' S hlt q
    subst e1 e2
    rw [hit i hlt]
    have S1 : Same H (upd H T (.tup [x i, y i])) := Same.new (Same.refl _) hT
    refine rd_gtup (SqT.of upd_same) h2.symm (rd_gcons (rd_name (rd_gcons (rd_name (rd_gnil ⟨hj _ _, ht i _ _ hlt (S.trans S1) fun H2 S2 => ?_⟩)))))
    have e2 := S2 _ _ (S1 _ _ eD)
    by_cases hp : p i = true
    · rw [if_pos hp]
      refine hs i _ _ hlt hp ((S.trans S1).trans S2) fun H3 S3 => ⟨_, S3 _ _ e2, ?_, hlt, Same.mut (((S.trans S1).trans S2).trans S3) hD, ?_⟩
      · have := List.length_filter_le p (List.range i)
        rw [List.length_range] at this
        rw [List.length_map]; omega
      · rw [upd_same, List.range_succ, List.filter_append, List.map_append]
        simp [hp]
    · rw [if_neg hp]
      refine ⟨hlt, (S.trans S1).trans S2, ?_⟩
      rw [e2, List.range_succ, List.filter_append, List.map_append]
      simp [hp]
  · have e : i = n := by omega
    subst e
    exact .inl ⟨P.stop H S, hd H S eD⟩
theorem rd_isLetter {c : Nat} {H : Hp} {Q : VK} {E : XK} (h : 97 ≤ c ∧ c ≤ 122) (q : Q (.bl true) H) : sp_is_letter [.str ⟨#[c]⟩] H Q E :=
  ⟨_, rfl, trivial, fun x e => by cases e; rw [sizeLine_eq]; exact (by decide : 1 ≤ 16777216), by rw [show isLet (.str ⟨#[c]⟩) = true from by simp [isLet, h.1, h.2]]; exact q⟩
/-- the keys that were typed as the letter c -/
def keysL (ss : List Stp) (c : Nat) : List Nat := (List.range (tyL ss).length).filter fun k => decide ((tyL ss)[k]?.getD 0 = c)
section
variable (K : PySem.W.Frag) (CT CP : Addr)
def sp_nth_place_of_letter : Sp := fun vs H Q _ => ∃ a ss, ∃ c n : Nat, vs = [.ref a, .str ⟨#[c]⟩, .int n] ∧ TX K CT CP H a ss ∧ 97 ≤ c ∧ c ≤ 122 ∧ n ≤ 1000000000000000000 ∧
  (tot ss (keysL ss c) (sz ss) ≤ n → ∀ H', Same H H' → Q .non H') ∧ ∀ p H', IsNth ss (keysL ss c) n p → Same H H' → Q (.int (p : Nat)) H'
end
end L2.Px

set_option Elab.async false
set_option linter.all false
set_option maxRecDepth 100000
set_option maxHeartbeats 1000000
/-! drawn long texts and great numbers -/
namespace L2.Px
open PySem PySem.Spec PyProof.Rows StX TL
section
variable (K : PySem.W.Frag) (CT CP : Addr)
def sp_x_law_long : Sp := fun vs H Q _ => ∃ r : Addr, vs = [.ref r] ∧ RowAt K H r ∧ ∀ a ss H', Kp H H' → RowAt K H' r → TX K CT CP H' a ss → 1 ≤ sz ss → sz ss ≤ 100000000000000040 → ss.length ≤ 15 → okLs ss → Q (.ref a) H'
def sp_x_law_great : Sp := fun vs H Q _ => ∃ (r : Addr) (m : Nat), vs = [.ref r, .int m] ∧ RowAt K H r ∧ 1 ≤ m ∧ m ≤ 1000000000000000000 ∧ ∀ n H', n < m → Kp H H' → RowAt K H' r → Q (.int (n : Nat)) H'
end
section
variable {K : PySem.W.Frag} {CT CP : Addr} {H : Hp} {Q : VK} {E : XK} {r : Addr} {i : Int}
theorem rd_long (row : RowAt K H r) (q : ∀ a ss H', Kp H H' → RowAt K H' r → TX K CT CP H' a ss → 1 ≤ sz ss → sz ss ≤ 100000000000000040 → ss.length ≤ 15 → okLs ss → Q (.ref a) H') : sp_x_law_long K CT CP [.ref r] H Q E := ⟨r, rfl, row, q⟩
theorem rd_great (row : RowAt K H r) (h1 : 1 ≤ i) (h2 : i ≤ 1000000000000000000) (q : ∀ (n : Nat) H', (n : Int) < i → Kp H H' → RowAt K H' r → Q (.int n) H') : sp_x_law_great K [.ref r, .int i] H Q E :=
  ⟨r, i.toNat, by rw [Int.toNat_of_nonneg (by omega)], row, by omega, by omega, fun n H' hn k w => q n H' (by omega) k w⟩
theorem rd_p6 (q : Q (.int 1000000) H) : rI CPow (fun i j => V.int (i ^ j.toNat)) (.int 10) (.int 6) H Q := rd_I ⟨by decide, by decide, by decide⟩ (by rw [show (10 : Int) ^ (6 : Int).toNat = 1000000 from by decide +kernel]; exact q)
theorem rd_p9 (q : Q (.int 1000000000) H) : rI CPow (fun i j => V.int (i ^ j.toNat)) (.int 10) (.int 9) H Q := rd_I ⟨by decide, by decide, by decide⟩ (by rw [show (10 : Int) ^ (9 : Int).toNat = 1000000000 from by decide +kernel]; exact q)
theorem rd_p17 (q : ∀ B : Int, B = 100000000000000000 → Q (.int B) H) : rI CPow (fun i j => V.int (i ^ j.toNat)) (.int 10) (.int 17) H Q := rd_I ⟨by decide, by decide, by decide⟩ (q _ (by decide +kernel))
theorem okLs.join {a b : List Stp} (h : okLs a) (g : okLs b) : okLs (joinS a b) := fun c hc => by
  rw [tyL_join] at hc
  exact (List.mem_append.mp hc).elim (h c) (g c)
theorem okLs.mul {a : List Stp} {n : Nat} (h : okLs a) : okLs (mulS a n) := fun c hc => h c (by rwa [tyL_mul] at hc)
end
end L2.Px

set_option Elab.async false
set_option linter.all false
set_option maxRecDepth 100000
set_option maxHeartbeats 1000000
/-! the mathematics of counts, for the laws -/
namespace L2.Px
open PySem PySem.Spec PyProof.Rows StX TL
theorem sum_map_add (L : List Nat) (f g : Nat → Nat) : (L.map fun k => f k + g k).sum = (L.map f).sum + (L.map g).sum := by
  induction L with
  | nil => rfl
  | cons x L ih => simp only [List.map_cons, List.sum_cons, ih]; omega
theorem sum_ind (x : Nat) : ∀ n : Nat, ((List.range n).map fun k => if x = k then 1 else 0).sum = if x < n then 1 else 0
  | 0 => rfl
  | n + 1 => by
    rw [List.range_succ, List.map_append, List.sum_append, sum_ind x n]
    simp only [List.map_cons, List.map_nil, List.sum_cons, List.sum_nil, Nat.add_zero]
    split <;> split <;> split <;> omega
theorem sum_zeros (L : List Nat) : (L.map fun _ => 0).sum = 0 := by
  induction L with
  | nil => rfl
  | cons x L ih => simp only [List.map_cons, List.sum_cons, ih]
theorem sum_count {n : Nat} : ∀ {l : List Nat}, (∀ x ∈ l, x < n) → ((List.range n).map fun k => l.count k).sum = l.length
  | [], _ => sum_zeros _
  | x :: l, h => by
    have e : ((List.range n).map fun k => (x :: l).count k) = (List.range n).map fun k => l.count k + if x = k then 1 else 0 := List.map_congr_left fun k _ => by
      rw [List.count_cons]; simp [beq_iff_eq]
    rw [e, sum_map_add, sum_count fun y hy => h y (List.mem_cons_of_mem _ hy), sum_ind, if_pos (h x List.mem_cons_self), List.length_cons]
theorem sum_cn {ss : List Stp} (ok : okFrom 0 ss) {p : Nat} (h : p ≤ sz ss) : ((List.range (tyL ss).length).map (cn ss p)).sum = p := by
  have e : (List.range (tyL ss).length).map (cn ss p) = (List.range (tyL ss).length).map fun k => ((ks ss).take p).count k := rfl
  rw [e, sum_count fun x hx => ks_lt (List.mem_of_mem_take hx), List.length_take, ks_len ok]
  omega
theorem kcs_zero (ss : List Stp) (p : Nat) : kcs ss 0 p = (List.range (tyL ss).length).map (cn ss p) := by
  unfold kcs
  refine List.map_congr_left fun k _ => by rw [cn_zero, Nat.sub_zero]
theorem sum_sub (L : List Nat) (f g : Nat → Nat) (h : ∀ k ∈ L, g k ≤ f k) : (L.map fun k => f k - g k).sum = (L.map f).sum - (L.map g).sum ∧ (L.map g).sum ≤ (L.map f).sum := by
  induction L with
  | nil => exact ⟨rfl, Nat.le_refl _⟩
  | cons x L ih =>
    have := ih fun k hk => h k (List.mem_cons_of_mem _ hk)
    have := h x List.mem_cons_self
    simp only [List.map_cons, List.sum_cons]
    omega
theorem sum_kcs {ss : List Stp} (ok : okFrom 0 ss) {f e : Nat} (h : f ≤ e) (he : e ≤ sz ss) : (kcs ss f e).sum = e - f := by
  unfold kcs
  rw [(sum_sub _ (cn ss e) (cn ss f) fun k _ => cn_mono ss k h).1, sum_cn ok he, sum_cn ok (by omega)]
theorem kcs_split (ss : List Stp) {f m e : Nat} (h1 : f ≤ m) (h2 : m ≤ e) (k : Nat) : cn ss m k - cn ss f k + (cn ss e k - cn ss m k) = cn ss e k - cn ss f k := by
  have := cn_mono ss k h1
  have := cn_mono ss k h2
  omega
/-- the step that types the key k -/
theorem step_of {ss : List Stp} : ∀ {n k : Nat}, k < (tyL (ss.take n)).length → ∃ j w, ss[j]? = some (.wr w) ∧ (tyL (ss.take j)).length ≤ k ∧ k < (tyL (ss.take j)).length + w.length
  | 0, k, h => by simp [tyL] at h
  | n + 1, k, h => by
    by_cases z : k < (tyL (ss.take n)).length
    · exact step_of z
    · cases hs : ss[n]? with
      | none =>
        have : ss.length ≤ n := List.getElem?_eq_none_iff.mp hs
        rw [List.take_of_length_le (by omega)] at h z
        exact absurd h z
      | some s =>
        rw [tyL_take hs, List.length_append] at h
        cases s with
        | wr w => exact ⟨n, w, hs, by omega, by have := len_tl w; simp only [ty1] at h; omega⟩
        | pa f l t => simp [ty1] at h; omega
theorem key_stands {ss : List Stp} (ok : okFrom 0 ss) {k : Nat} (h : k < (tyL ss).length) : 1 ≤ cn ss (sz ss) k := by
  obtain ⟨j, w, hs, h1, h2⟩ := step_of (n := ss.length) (by rwa [List.take_length])
  have e := sz_take hs
  simp only [len1] at e
  have := ks_wr ok hs (p := sz (ss.take j) + (k - (tyL (ss.take j)).length)) (by omega) (by omega)
  have hm : k ∈ ks ss := by
    have e2 : (tyL (ss.take j)).length + (sz (ss.take j) + (k - (tyL (ss.take j)).length) - sz (ss.take j)) = k := by omega
    rw [e2] at this
    exact List.mem_of_getElem? this
  unfold cn
  rw [List.take_of_length_le (by rw [ks_len ok]; exact Nat.le_refl _)]
  exact List.count_pos_iff.mpr hm
theorem nth_unique {ss : List Stp} {keys : List Nat} {n p q : Nat} (h : IsNth ss keys n p) (g : IsNth ss keys n q) : p = q := by
  rcases Nat.lt_trichotomy p q with z | z | z
  · have := tot_mono ss keys (show p + 1 ≤ q from z)
    have := h.2.2; have := g.2.1; omega
  · exact z
  · have := tot_mono ss keys (show q + 1 ≤ p from z)
    have := g.2.2; have := h.2.1; omega
theorem nth_lt {ss : List Stp} {keys : List Nat} {n p : Nat} (h : IsNth ss keys n p) : n < tot ss keys (sz ss) := Nat.lt_of_lt_of_le h.2.2 (tot_mono ss keys h.1)
theorem tot_ind (keys : List Nat) (k : Nat) : (keys.map fun j => if k = j then 1 else 0).sum = keys.count k := by
  induction keys with
  | nil => rfl
  | cons x r ih => rw [List.map_cons, List.sum_cons, ih, List.count_cons]; simp only [beq_iff_eq]; by_cases z : k = x <;> simp [z, eq_comm, Nat.add_comm]
theorem tot_succ {ss : List Stp} (ok : okFrom 0 ss) (keys : List Nat) {p : Nat} (h : p < sz ss) : tot ss keys (p + 1) = tot ss keys p + keys.count (kat ss p) := by
  unfold tot
  rw [← tot_ind, ← sum_map_add]
  congr 1
  refine List.map_congr_left fun k _ => cn_succ ok h k
/-- the place itself -/
theorem nth_at {ss : List Stp} (ok : okFrom 0 ss) {keys : List Nat} (hk : keys.Nodup) {p : Nat} (h : p < sz ss) (hm : kat ss p ∈ keys) : IsNth ss keys (tot ss keys (p + 1) - 1) p := by
  have e := tot_succ ok keys h
  have hc : keys.count (kat ss p) = 1 := Nat.le_antisymm (List.nodup_iff_count.mp hk _) (List.count_pos_iff.mpr hm)
  exact ⟨h, by omega, by omega⟩
theorem nth_key {ss : List Stp} (ok : okFrom 0 ss) {k n p : Nat} (h : IsNth ss [k] n p) : kat ss p = k := by
  have e := tot_succ ok [k] h.1
  have h1 := h.2.1
  have h2 := h.2.2
  by_cases z : kat ss p = k
  · exact z
  · rw [List.count_cons] at e
    have : (k == kat ss p) = false := by simp [Ne.symm z]
    simp [this] at e
    omega
theorem lsum_range (L : List Nat) (g : Nat → Nat) (c : Nat) : lsum L ((List.range L.length).map g) c = (((List.range L.length).filter fun k => decide (L[k]?.getD 0 = c)).map g).sum := by
  have key : ∀ n, n ≤ L.length → lsum (L.take n) (((List.range L.length).map g).take n) c = (((List.range n).filter fun k => decide (L[k]?.getD 0 = c)).map g).sum := by
    intro n
    induction n with
    | zero => intro _; rfl
    | succ n ih =>
      intro hn
      rw [lsum_snoc (by omega) (by simp; omega), ih (by omega), List.range_succ, List.filter_append, List.map_append, List.sum_append]
      congr 1
      have : ((List.range L.length).map g)[n]?.getD 0 = g n := by
        rw [List.getElem?_map, List.getElem?_range (by omega)]; rfl
      rw [this]
      by_cases z : L[n]?.getD 0 = c
      · simp [z]
      · simp [z]
  have := key L.length (Nat.le_refl _)
  rwa [List.take_of_length_le (Nat.le_refl _), List.take_of_length_le (by simp)] at this
theorem lcn_tot (ss : List Stp) (p c : Nat) : lcn ss 0 p c = tot ss (keysL ss c) p := by
  unfold lcn tot keysL
  rw [kcs_zero, lsum_range]
theorem lsum_set : ∀ {L M : List Nat} {k c : Nat}, c ∉ L → k < L.length → k < M.length → lsum (L.set k c) M c = M[k]?.getD 0
  | [], _, _, _, _, h, _ => by simp at h
  | _ :: _, [], _, _, _, _, h => by simp at h
  | a :: L, b :: M, 0, c, h, _, _ => by
    have := lsum_none (L := L) (M := M) (c := c) fun z => h (List.mem_cons_of_mem _ z)
    unfold lsum at this ⊢
    simp [this]
  | a :: L, b :: M, k + 1, c, h, h1, h2 => by
    have h3 : ¬ a = c := fun z => h (z ▸ List.mem_cons_self)
    have := lsum_set (L := L) (M := M) (k := k) (c := c) (fun z => h (List.mem_cons_of_mem _ z)) (by simpa using h1) (by simpa using h2)
    unfold lsum at this ⊢
    simp [h3, this]
theorem cn_rt (ss : List Stp) (k c p j : Nat) : cn (rt k c 0 ss) p j = cn ss p j := by unfold cn; rw [ks_rt]
theorem kat_rt (ss : List Stp) (k c p : Nat) : kat (rt k c 0 ss) p = kat ss p := by unfold kat; rw [ks_rt]
theorem tyL_rt0 (ss : List Stp) (k c : Nat) : tyL (rt k c 0 ss) = (tyL ss).set k c := by rw [tyL_rt, if_pos (Nat.zero_le _), Nat.sub_zero]
theorem lcn_rt {ss : List Stp} {k c f e : Nat} (h : c ∉ tyL ss) (hk : k < (tyL ss).length) : lcn (rt k c 0 ss) f e c = cn ss e k - cn ss f k := by
  unfold lcn
  rw [tyL_rt0, show kcs (rt k c 0 ss) f e = kcs ss f e from ?_, lsum_set h hk (by rw [kcs_len]; exact hk), kcs_get hk]
  unfold kcs
  rw [tyL_rt0, List.length_set]
  exact List.map_congr_left fun j _ => by rw [cn_rt, cn_rt]
/-! sums, multiples -/
theorem cn_all {ss : List Stp} (ok : okFrom 0 ss) (k : Nat) : cn ss (sz ss) k = (ks ss).count k := by
  unfold cn; rw [List.take_of_length_le (by rw [ks_len ok]; exact Nat.le_refl _)]
theorem count_shift (n : Nat) : ∀ (l : List Nat) (k : Nat), (l.map (· + n)).count k = if n ≤ k then l.count (k - n) else 0
  | [], k => by simp
  | x :: l, k => by
    rw [List.map_cons, List.count_cons, count_shift n l k, List.count_cons]
    simp only [beq_iff_eq]
    by_cases h : n ≤ k
    · simp only [h, if_true]
      congr 1
      have : (x + n = k) = (x = k - n) := propext (by omega)
      simp only [this]
    · simp only [h, if_false]
      rw [if_neg (by omega)]
theorem cn_join {a b : List Stp} (ha : okFrom 0 a) (hb : okFrom 0 b) (hz : sz a + sz b ≤ 1000000000000000000) (k : Nat) : cn (joinS a b) (sz a + sz b) k = if k < (tyL a).length then cn a (sz a) k else cn b (sz b) (k - (tyL a).length) := by
  have := cn_all (ok_join ha hb hz) k
  rw [sz_join] at this
  rw [this, ks_join b ha, List.count_append, count_shift, cn_all ha, cn_all hb]
  by_cases h : k < (tyL a).length
  · rw [if_pos h, if_neg (by omega), Nat.add_zero]
  · rw [if_neg h, if_pos (by omega), List.count_eq_zero.mpr fun z => h (ks_lt z), Nat.zero_add]
theorem kcs_join {a b : List Stp} (ha : okFrom 0 a) (hb : okFrom 0 b) (hz : sz a + sz b ≤ 1000000000000000000) : kcs (joinS a b) 0 (sz a + sz b) = kcs a 0 (sz a) ++ kcs b 0 (sz b) := by
  rw [kcs_zero, kcs_zero, kcs_zero, tyL_join, List.length_append, List.range_add, List.map_append, List.map_map]
  congr 1
  · exact List.map_congr_left fun k hk => by rw [cn_join ha hb hz, if_pos (List.mem_range.mp hk)]
  · exact List.map_congr_left fun k hk => by
      simp only [Function.comp]
      rw [cn_join ha hb hz, if_neg (by omega), Nat.add_sub_cancel_left]
theorem count_rep (l : List Nat) (k : Nat) : ∀ n : Nat, (List.replicate n l).flatten.count k = n * l.count k
  | 0 => by simp
  | n + 1 => by rw [List.replicate_succ, List.flatten_cons, List.count_append, count_rep l k n, Nat.succ_mul]; omega
theorem kcs_mul {a : List Stp} {n : Nat} (ha : okFrom 0 a) (h1 : 1 ≤ n) (h2 : n ≤ 1000000000) (hz : sz a * n ≤ 1000000000000000000) : kcs (mulS a n) 0 (sz a * n) = (kcs a 0 (sz a)).map (n * ·) := by
  rw [kcs_zero, kcs_zero, tyL_mul, List.map_map]
  refine List.map_congr_left fun k _ => ?_
  have := cn_all (ok_mul ha h1 h2 hz) k
  rw [sz_mul h1] at this
  rw [this, ks_mul ha h1, count_rep]
  simp only [Function.comp]
  rw [cn_all ha]
theorem kat_join {a : List Stp} (b : List Stp) (ha : okFrom 0 a) {p : Nat} (h : p < sz a) : kat (joinS a b) p = kat a p := by
  unfold kat
  rw [ks_join b ha, List.getElem?_append_left (by rw [ks_len ha]; exact h)]
theorem kat_mul {a : List Stp} {n p : Nat} (ha : okFrom 0 a) (hn : 2 ≤ n) (h : p < sz a) : kat (mulS a n) (p + sz a) = kat a p := by
  obtain ⟨m, rfl⟩ : ∃ m, n = m + 2 := ⟨n - 2, by omega⟩
  have hl := ks_len ha
  unfold kat
  rw [ks_mul ha (by omega), List.replicate_succ, List.replicate_succ, List.flatten_cons, List.flatten_cons, List.getElem?_append_right (by omega), List.getElem?_append_left (by omega), hl, Nat.add_sub_cancel]
theorem join_ne {a b : List Stp} (h : 1 ≤ sz b) : joinS a b ≠ a := fun e => by
  have := congrArg sz e
  rw [sz_join] at this
  omega
end L2.Px

set_option Elab.async false
set_option linter.all false
set_option maxRecDepth 100000
set_option maxHeartbeats 1000000
/-! reading steps for the laws that count -/
namespace L2.Px
open PySem PySem.Spec PyProof.Rows StX TL
section
variable {K : PySem.W.Frag} {CT CP CC : Addr} {H H' H1 : Hp} {Q : VK} {E : XK} {a l : Addr} {ss : List Stp} {i j : Int} {L M : List Nat}
theorem rd_nthKey (h : TX K CT CP H a ss) (h1 : 0 ≤ i) (h2 : i < (tyL ss).length) (h3 : 0 ≤ j) (h4 : j ≤ 1000000000000000000)
    (kN : cn ss (sz ss) i.toNat ≤ j.toNat → ∀ H', Same H H' → Q .non H') (kP : ∀ p H', IsNth ss [i.toNat] j.toNat p → Same H H' → Q (.int (p : Nat)) H') : sp_nth_place_of_key K CT CP [.ref a, .int i, .int j] H Q E :=
  ⟨a, ss, i.toNat, j.toNat, by rw [Int.toNat_of_nonneg h1, Int.toNat_of_nonneg h3], h, by omega, by omega, kN, kP⟩
theorem rd_nthLet {c : Nat} (h : TX K CT CP H a ss) (h1 : 97 ≤ c ∧ c ≤ 122) (h3 : 0 ≤ j) (h4 : j ≤ 1000000000000000000)
    (kN : tot ss (keysL ss c) (sz ss) ≤ j.toNat → ∀ H', Same H H' → Q .non H') (kP : ∀ p H', IsNth ss (keysL ss c) j.toNat p → Same H H' → Q (.int (p : Nat)) H') : sp_nth_place_of_letter K CT CP [.ref a, .str ⟨#[c]⟩, .int j] H Q E :=
  ⟨a, ss, c, j.toNat, by rw [Int.toNat_of_nonneg h3], h, h1.1, h1.2, by omega, kN, kP⟩
theorem rd_letterCounts (h : TX K CT CP H a ss) (h1 : 0 ≤ i) (h2 : i ≤ j + 1) (h3 : j + 1 ≤ sz ss)
    (q : ∀ D cs H', Same H H' → H' D = some (.dK (kvL (lcn ss i.toNat (j + 1).toNat) cs)) → cs.Pairwise (· < ·) → (∀ c, c ∈ cs ↔ 0 < lcn ss i.toNat (j + 1).toNat c) → Q (.ref D) H') : sp_letter_counts K CT CP [.ref a, .int i, .int j] H Q E :=
  ⟨a, ss, i.toNat, (j + 1).toNat, by rw [Int.toNat_of_nonneg h1, Int.toNat_of_nonneg (by omega), Int.add_sub_cancel], h, by omega, by omega, fun H' D cs S e p m => q D cs H' S e p m⟩
theorem rd_places {cont : List V → Hp → Prop} (h : TX K CT CP H a ss) (h1 : 0 ≤ i) (h2 : i < (tyL ss).length) (h3 : 0 ≤ j) (h4 : j ≤ sz ss)
    (q : ∀ L H', Same H H' → IsPl ss i.toNat j.toNat L → cont (natV L) H') : spg_places_of_key K CT CP [.ref a, .int i, .int j] H cont NoX :=
  ⟨a, ss, i.toNat, j.toNat, by rw [Int.toNat_of_nonneg h1, Int.toNat_of_nonneg h3], h, by omega, by omega, fun H' L S pl => q L H' S pl⟩
theorem rd_minN (h : H l = some (.lst (natV L))) (h0 : L ≠ []) (q : ∀ m, m ∈ L → Q (.int (m : Nat)) H) : rMin K [.ref l] H Q :=
  ⟨l, L.map fun m => ((m : Nat) : Int), rfl, SqL.of (by rw [h, natV_ints]), by rw [List.length_map]; exact List.length_pos_iff.mpr h0, fun m hm _ => by
    obtain ⟨x, hx, rfl⟩ := List.mem_map.mp hm
    exact q x hx⟩
theorem rd_addNN {m : Addr} (h : H l = some (.lst (natV L))) (g : H m = some (.lst (natV M))) (hz : L.length + M.length ≤ 16777216) (q : ∀ p H', Same H H' → H' p = some (.lst (natV (L ++ M))) → Q (.ref p) H') : rAddA K (.ref l) (.ref m) H Q := by
  refine rd_add_lst h g (by rw [natV_len, natV_len, sizeLine_eq]; exact hz) fun p hp => q p _ (Same.new (Same.refl _) hp) ?_
  rw [upd_same]; unfold natV; rw [List.map_append]
theorem lit_let {c : Nat} (h : c = 97 ∨ c = 98 ∨ c = 99 ∨ c = 122) : 97 ≤ c ∧ c ≤ 122 ∧ c ≠ 113 := by omega
theorem okLs.lat {k : Nat} (h : okLs ss) (hk : k < (tyL ss).length) : 97 ≤ lat ss k ∧ lat ss k ≤ 122 ∧ lat ss k ≠ 113 := lit_let (h _ (List.mem_of_getElem? (lat_some hk)))
theorem okLs.noq (h : okLs ss) : 113 ∉ tyL ss := fun z => by have := lit_let (h _ z); omega
theorem mem_keysL {c k : Nat} : k ∈ keysL ss c ↔ k < (tyL ss).length ∧ lat ss k = c := by
  unfold keysL lat
  rw [List.mem_filter, List.mem_range, decide_eq_true_iff]
theorem keysL_nodup (c : Nat) : (keysL ss c).Nodup := List.nodup_range.filter _
theorem tot_le (ok : okFrom 0 ss) {keys : List Nat} (hk : keys.Nodup) : ∀ {p : Nat}, p ≤ sz ss → tot ss keys p ≤ p
  | 0, _ => by rw [tot_zero]; exact Nat.le_refl _
  | p + 1, h => by
    rw [tot_succ ok keys (by omega)]
    have := tot_le ok hk (p := p) (by omega)
    have := List.nodup_iff_count.mp hk (kat ss p)
    omega
theorem IsPl.key {k f : Nat} (ok : okFrom 0 ss) (h : IsPl ss k f L) {j : Nat} (hj : j < L.length) : kat ss (L[j]?.getD 0) = k ∧ L[j]?.getD 0 < sz ss := ⟨nth_key ok (h.nth j hj), (h.nth j hj).1⟩
theorem IsPl.head {k f : Nat} (ok : okFrom 0 ss) (h : IsPl ss k f L) (hf : f < sz ss) (hk : kat ss f = k) : L[0]?.getD 0 = f ∧ 0 < L.length := by
  have e := tot_succ ok [k] hf
  rw [tot_one, tot_one, hk] at e
  simp at e
  have := cn_mono ss k (show f + 1 ≤ sz ss from hf)
  have hl : 0 < L.length := by have := h.all; omega
  refine ⟨nth_unique (h.nth 0 hl) ⟨hf, ?_, ?_⟩, hl⟩
  · rw [tot_one]; exact Nat.le_refl _
  · rw [tot_one]; omega
variable (K CT CP)
def sp_x_law_is_counted : Sp := fun vs H Q _ => ∃ r a ss, vs = [.ref r, .ref a] ∧ RowAt K H r ∧ TX K CT CP H a ss ∧ 1 ≤ sz ss ∧ sz ss ≤ 100000000000000040 ∧ okLs ss ∧ ∀ H', Kp H H' → RowAt K H' r → Q (.bl true) H'
end
end L2.Px

set_option Elab.async false
set_option linter.all false
set_option maxRecDepth 100000
set_option maxHeartbeats 4000000
/-! sets of ints made of a list; sorted of such, any number of them -/
namespace L2.Px
open PySem PySem.Spec PyProof.Rows
/-- the object that set(..) begins with -/
def ob0 (w : World) : Obj := { cls := .type "set", dict := none, data := .set #[] 0 (.fresh 0 0 (!w.params.followText "set-order")) }
section
variable {P : Program} {w : World} {A : Around} {E : Value → Shared → Prop} {s : Shared}
theorem set_of_list {l : Addr} {items : Array Value} (ns : List Int) {Q : Value → Shared → Prop} (hh : A.handled = none) (hl : s.heap.IsList l items) (hit : IntsAre items.toList ns) (hb : ns.length + 1 < scanBound)
    (h : ∀ (h' : Heap) (tk c : Nat), SetR w h' s.heap.objs.size (fun j => decide (j ∈ ns)) c → c ≤ ns.length → (∀ b o, s.heap.get? b = some o → h'.get? b = some o) → Q (.ref s.heap.objs.size) { s with heap := h', toks := tk }) :
    wpAny (model P w) A (call (.type "set") [.ref l]) Q E s := by
  have hisz : items.size = ns.length := (Array.length_toList (xs := items)).symm.trans (IntsAre.length hit)
  obtain ⟨c, tl, hmro⟩ := F.called_set.mro
  have hmade := F.called_set.made
  have hsub := F.called_set.sub
  refine wpAny_call (codeAny_of_tree ?_)
  show wpAny _ _ (callAny (.type "set") _) _ _ _
  refine wpAny_pure ⟨Code.quiet_builtin _ (by decide +kernel), codeAny_builtin F.entry_type_call ?_⟩
  rw [Around.under_plain (weight_type_call_type "set" [.ref l] []) rfl]
  have h1 := F.called_set.notType
  have h2 := F.called_set.canCreate
  have hct := F.typeCall_set_1 (.ref l)
  repeat (any_goals (first | assumption | wp_step))
  refine codeAny_mono (code_set_led1 (.ref l) (E := E) (Q₁ := fun obj s₁ => obj = .ref s.heap.objs.size ∧ s₁ = { s with heap := s.heap.push (ob0 w) }) ⟨rfl, rfl⟩) fun r s₁ hr => ?_
  cases r with
  | error e => exact hr
  | ok fl =>
    cases fl with
    | ret obj =>
      obtain ⟨rfl, rfl⟩ := hr
      have hS : (s.heap.push (ob0 w)).get? s.heap.objs.size = some (ob0 w) := Heap.get?_push_size _ rfl
      have hT : Shared.TypeIs { s with heap := s.heap.push (ob0 w) } (.ref s.heap.objs.size) "set" := ⟨_, hS, rfl⟩
      have hli := F.called_set.init.lookup
      have hbi := F.called_set.init.bind (.ref s.heap.objs.size)
      repeat (any_goals (first | assumption | wp_step))
      refine codeAny_mono (codeAny_call_builtin (R := wants (fun r s₂ => r = .none ∧ ∃ h' tk c, s₂ = { s with heap := h', toks := tk } ∧ SetR w h' s.heap.objs.size (fun j => decide (j ∈ ns)) c ∧ c ≤ ns.length ∧ ∀ b o, s.heap.get? b = some o → h'.get? b = some o) E)
        F.called_set.init.plain F.entry_set_init (check_set_init_1 hT ?_)) fun r₂ s₂ hr₂ => ?_
      · obtain ⟨ol, hol, hcl, nl, hdl⟩ := hl
        obtain ⟨ocls, odict, odata, oslots⟩ := ol
        simp only at hcl hdl
        subst hcl; subst hdl
        have hol' : (s.heap.push (ob0 w)).get? l = some { cls := .type "list", dict := odict, data := .seq items nl, slots := oslots } := Heap.get?_push_of_some _ hol
        have hsls := F.sub_list_set
        have hslf := F.sub_list_frozenset
        have hne : (Value.type "list" == Value.type "dict") = false := by decide
        have hl1 : (s.heap.push (ob0 w)).IsList l items := ⟨_, hol', rfl, nl, rfl⟩
        unfold Builtin.«set.__init__» noKeywords Builtin.Frozenset.updateFrom
        generalize hPI : pyIter = PI
        wp_walk
        subst hPI
        refine wpAny_pyIter_list hl1 ?_
        refine wpAny_bind (wpAny_runValue ?_)
        have hlS : l < s.heap.objs.size := Heap.lt_size hol
        have hh3 : A.in1.in1.in1.handled = none := by simp [hh]
        have hneI : l ≠ (s.heap.push (ob0 w)).objs.size := by
          rw [Heap.size_push]; exact Nat.ne_of_lt (Nat.lt_succ_of_lt hlS)
        have hSf : s.heap.objs.size ∉ [(s.heap.push (ob0 w)).objs.size, l] := fun z => by
          rw [Heap.size_push] at z
          rcases List.mem_cons.mp z with z | z
          · exact Nat.ne_of_lt (Nat.lt_succ_self _) z
          · exact Nat.ne_of_gt hlS (List.mem_singleton.mp z)
        have hval : ∀ (i : Nat) (v : Value), items[i]? = some v → ∃ k t, ns[i]? = some k ∧ v = .int k t := fun i v hv => by
          have hi : i < ns.length := by rw [← hisz]; exact (Array.getElem?_eq_some_iff.mp hv).1
          obtain ⟨t, e⟩ := PyProof.Rows.IntsAre.int_at hit i v (by rw [Array.getElem?_toList]; exact hv)
          exact ⟨ns[i], t, List.getElem?_eq_getElem hi, by rw [e, List.getD_eq_getElem?_getD, List.getElem?_eq_getElem hi]; rfl⟩
        refine set_update_ints ((Walks.list hh3 _ l hneI items).toS) s.heap.objs.size hSf ns hisz hb hval (items.size - 0) 0 _ (by omega) (Nat.zero_le _) ⟨⟨_, Heap.get?_push_size _ rfl, rfl, rfl⟩, (hl1.push _)⟩ ?hS0 ?hR
        case hS0 => exact ⟨0, Nat.le_refl 0, setR_new_at (Heap.get?_push_of_some _ hS)⟩
        case hR =>
          intro s' c' hm hc' hS'
          obtain ⟨h', g2, d', tk', os'⟩ := s'
          obtain rfl : g2 = s.gens := hm.gens
          obtain rfl : d' = s.drawn := hm.drawn
          obtain rfl : os' = s.os := hm.os
          show wpAny _ _ _ _ _ _
          refine wpAny_pure ?_
          show wpAny _ _ (ret Value.none) _ _ _
          rw [hisz] at hc'
          refine wpAny_pure ⟨rfl, h', tk', c', rfl, hS', hc', fun b o e => ?_⟩
          have hb0 : b < s.heap.objs.size := Heap.lt_size e
          refine hm.heap b o (fun z => ?_) (Heap.get?_push_of_some _ (Heap.get?_push_of_some _ e))
          rcases List.mem_cons.mp z with z | z
          · exact Nat.ne_of_lt hb0 z
          · rw [Heap.size_push] at z
            exact Nat.ne_of_lt (Nat.lt_succ_of_lt hb0) (List.mem_singleton.mp z)
      · cases r₂ with
        | error e => exact hr₂
        | ok fl₂ =>
          cases fl₂ with
          | ret r =>
            obtain ⟨rfl, h', tk, c', rfl, hS', hc', hk'⟩ := hr₂
            repeat (any_goals (first | assumption | wp_step))
            exact h _ _ _ hS' hc' hk'
          | _ => exact hr₂.elim
    | _ => exact hr.elim
/-- sorted(..) of a set of ints, any number of them -/
theorem sorted_setI {a : Addr} {S : Int → Bool} {n : Nat} {Q : Value → Shared → Prop} (R : SetR w s.heap a S n) (hh : A.handled = none) (hz : n ≤ sizeLine)
    (hQ : ∀ s' p (out : List Value) (c : Nat) (ns : List Int), (∀ b o, s.heap.get? b = some o → s'.heap.get? b = some o) → s'.gens = s.gens → s'.os = s.os → s.heap.objs.size ≤ p →
      s'.heap.get? p = some (seqObj "list" out.toArray c) → IntsAre out ns → ns.Pairwise (· < ·) → (∀ k, k ∈ ns ↔ S k = true) → ns.length = n → Q (.ref p) s') :
    wpAny (model P w) A (call (.builtin "sorted") [.ref a]) Q E s := by
  obtain ⟨o, es, ep, t, ho, hex, hd, g, nd, hm, hb, hf, hn, hr, hl⟩ := R
  refine Calls.call_function_entry kind_sorted plain_sorted entry_sorted (args_sorted1 _) ?_
  unfold Builtin.«sorted»
  refine wpAny_bind (m := checkCount "sorted" 1 1 _) (wpAny_pure ?_)
  refine wpAny_bind (collect_set (A := A.in1) hh ⟨o, ho, hex.1, hd⟩ hf hb hr hl fun s1 vs k1 hz1 g1 o1 pm => ?_)
  have hvl : vs.length = n := by rw [pm.length_eq, List.length_map, Array.length_toList]; exact hn
  have hI : IntsAre vs (vs.map Builtin.Re.reRawOf) := ints_of vs fun v hv => by
    obtain ⟨e, he, q⟩ := List.mem_map.mp (pm.mem_iff.mp hv)
    obtain ⟨k, tk, h1, _⟩ := g e he
    exact ⟨k, tk, by rw [← q]; exact h1⟩
  have pk : (vs.map Builtin.Re.reRawOf).Perm (es.toList.map keyOf) := by
    have q := pm.map Builtin.Re.reRawOf
    rw [List.map_map] at q
    exact q
  refine wpAny_bind (wpAny_newList ?_ (by rw [hvl]; exact hz))
  have hoL : (s1.heap.push (seqObj "list" vs.toArray 0)).get? s1.heap.objs.size = some (seqObj "list" vs.toArray 0) := Heap.get?_push_size _ rfl
  refine wpAny_bind (wpAny_holding (wpAny_call_entry slot_list_sort ⟨_, hoL, rfl⟩ entry_list_sort
    (SrtO.list_sort_ord SrtO.swo_int hoL (by rw [hvl]; exact hz) (fun h2 => SrtO.ints_sortable hI h2) fun out h1 h2 => ⟨_, rfl, ?_⟩) (args_list_sort _)))
  obtain ⟨a1, a2, a3⟩ := SrtO.ints_out hI h1 h2
  obtain ⟨c, hc⟩ := sortedHeap_at (vs := vs) (out := out.toArray) hoL
  have pn : (out.map SrtO.iv).Perm (es.toList.map keyOf) := a2.trans pk
  refine wpAny_pure ⟨_, rfl, hQ _ s1.heap.objs.size out c _ (fun b u e => ?_) g1 o1 hz1 hc a1 (lt_of_le_nodup _ a3 (pn.nodup_iff.mpr nd)) (fun k => by rw [pn.mem_iff, ← hm k]) ?_⟩
  · have q := k1 b u e
    have hlt := Heap.lt_size q
    show (sortedHeap (s1.heap.push (seqObj "list" vs.toArray 0)) s1.heap.objs.size vs out.toArray).get? b = some u
    rw [sortedHeap_old (Nat.ne_of_lt hlt) (by rw [size_push']; exact Nat.lt_succ_of_lt hlt)]
    exact Heap.get?_push_of_some _ q
  · rw [pn.length_eq, List.length_map, Array.length_toList]; exact hn
end
section
variable {X : Cx}
/-- set(xs), xs a list of ints -/
def rSetI (K : PySem.W.Frag) (w : World) : List V → Hp → VK → Prop := fun vs H Q => ∃ (a : Addr) (ns : List Int), vs = [V.ref a] ∧ SqL K H a (ns.map V.int) ∧ ns.length + 1 < scanBound ∧
  ∀ p c, H p = none → c ≤ ns.length → Q (.ref p) (upd H p (SetO w p (fun j => decide (j ∈ ns)) c))
theorem cr_setI (hc : X.calm = true) : CallR X (.type "set") (rSetI X.K X.w) := by
  intro pins s σ H vs us Q I r h
  obtain ⟨a, ns, rfl, hs, hb, q⟩ := h
  obtain ⟨its, rv, hl, hz⟩ := I.list hs
  rw [Vals.ref1 r]
  refine set_of_list ns (I.ok.hd hc) hl.isList (by simpa using rv.ints) hb fun h' tk c R hc' k => ?_
  exact ⟨.ref _, upd H s.heap.objs.size (SetO X.w s.heap.objs.size (fun j => decide (j ∈ ns)) c), I.laid (t' := tk) k (Nat.le_refl _) (setO_new R), rfl, q _ c (I.hok.fresh (Nat.le_refl _)) hc'⟩
def rSortSI (w : World) : List V → Hp → VK → Prop := fun vs H Q => ∃ (a : Addr) (S : Int → Bool) (n : Nat), vs = [V.ref a] ∧ H a = some (SetO w a S n) ∧ n ≤ sizeLine ∧
  ∀ (ns : List Int) (p : Addr), ns.Pairwise (· < ·) → (∀ k : Int, k ∈ ns ↔ S k = true) → H p = none → Q (.ref p) (upd H p (.lst (ns.map V.int)))
theorem cr_sortSI (hc : X.calm = true) : CallR X (.builtin "sorted") (rSortSI X.w) := by
  intro pins s σ H vs us Q I r h
  obtain ⟨a, S, n, rfl, ha, hz, q⟩ := h
  have R := setO_get I ha
  rw [Vals.ref1 r]
  refine sorted_setI R (I.ok.hd hc) hz fun s' p out c ns k g o hp hg hi hs hm hl => ?_
  have hlen : (ns.map V.int).length ≤ sizeLine := by rw [List.length_map, hl]; exact hz
  have hn : H p = none := I.hok.fresh hp
  have J : Inv X pins σ (upd H p (.lst (ns.map V.int))) { s with heap := s'.heap, gens := s'.gens, drawn := s'.drawn, toks := s'.toks } :=
    I.call (ch := []) (Un.laid k hp hn) (I.hok.laid k hp ⟨hlen, out, c, vals_of_ints hi, hg⟩) (by rw [g]; exact I.bare) (fun _ z => nomatch z)
  have e : s' = { s with heap := s'.heap, gens := s'.gens, drawn := s'.drawn, toks := s'.toks } := by
    cases s'; cases s; cases o; rfl
  rw [e]
  exact ⟨.ref p, _, J, rfl, q ns p hs hm hn⟩
end
end L2.Px
namespace L2.Px
open PySem PySem.Spec PyProof.Rows
theorem preSum_take (l : List Int) : ∀ n, n ≤ l.length → preSum (fun i => l.getD i 0) n = (l.take n).sum
  | 0, _ => rfl
  | n + 1, h => by
    rw [List.take_add_one, List.sum_append, ← preSum_take l n (by omega), List.getElem?_eq_getElem (by omega)]
    show preSum _ n + l.getD n 0 = _
    rw [List.getD_eq_getElem?_getD, List.getElem?_eq_getElem (by omega)]
    simp
section
variable {X : Cx} {o : Expr} {p pos apos mpos : Pos} {td : TE}
/-- sum(o.values()), a dict with int values -/
def tSumVals (td : TE) : TE := fun σ H Q => td σ H fun x H1 => ∃ (a : Addr) (kvs : List (Key × V)) (is : List Int), x = V.ref a ∧ H1 a = some (.dK kvs) ∧ kvs.map (·.2) = is.map V.int ∧ Q (.int is.sum) H1
theorem pe_sumVals (hc : X.calm = true) (hg : Gl X "sum") (hm : X.mg "sum" = none) (hd : PE X o td) (hbase : attributeBase o "values" X.env (eval o X.env) = eval o X.env := by rfl) (hline : (apos.endLine == mpos.line) = true := by rfl)
    (hse : starEach [Expr.Call (.Attribute o "values" apos) [] [] mpos] X.env = [(false, eval (Expr.Call (.Attribute o "values" apos) [] [] mpos) X.env)] := by rfl) :
    PE X (.Call (.Name "sum" p) [.Call (.Attribute o "values" apos) [] [] mpos] [] pos) (tSumVals td) := by
  refine ⟨fun pins s σ H Q I h => ?_⟩
  refine wpAny_Call_Name_kw (ld_blt I hg hm (u := .builtin "sum") (by first | rfl | decide +kernel) ?_ (by first | decide +kernel | decide) (by first | decide +kernel | decide))
  rw [hse]
  refine PySem.callWith_builtin1 (wpAny_Call_method0_late hbase hline (thn (hd.run pins s σ H _ I h) fun v s1 ⟨x, H1, I1, r1, a, kvs, is, ex, ha, hv, q⟩ => ?_))
  subst ex
  obtain rfl : v = Value.ref a := r1
  obtain ⟨_, hsys, vs, rel, dof⟩ := dk_of I1.hok ha
  obtain ⟨ep, dat⟩ := dof.dictAt
  have dat' := dat
  obtain ⟨ob, es, ho, ex, hdat, hko, hpr, hnd⟩ := dat'
  refine ⟨"dict", "dict.values", F.plainAttrs_dict, F.slot_dict_values, F.type_dict_values, ⟨ob, ho, ex.1⟩, fun b e => ?_, Calls.callWith_builtin rfl (PySem.evalArgs_none ?_)⟩
  · cases e; exact ⟨ob, ho, ex.2.1⟩
  refine call_meetsIn F.slot_dict_values ⟨ob, ho, ex.1⟩ F.entry_dict_values (F.args_dict_values_1 _) (meets_dict_values (mixKind X.prog X.w) a hsys) ⟨⟨vs, dof⟩, ?_⟩
  generalize hB : s1.heap.push { cls := .type "dict_values", data := .fields #[.ref a] } = B
  have hsz : B.objs.size = s1.heap.objs.size + 1 := by rw [← hB]; exact Heap.size_push _ _
  have k1 : ∀ b u, s1.heap.get? b = some u → B.get? b = some u := fun b u e => by rw [← hB]; exact Heap.get?_push_of_some _ e
  have dat1 : B.DictAt (mixKind X.prog X.w) a vs ep := dat.keep k1
  have hval : ∀ (i : Nat) (v : Value), (∃ k, vs[i]? = some (k, v)) → ∃ t, v = Value.int (is.getD i 0) t := fun i v ⟨k, hk⟩ => by
    obtain ⟨x, h1, h2⟩ := KV.at' rel hk
    have e1 : (kvs.map (·.2))[i]? = some x := by rw [List.getElem?_map, h1]; rfl
    rw [hv, List.getElem?_map] at e1
    obtain ⟨j, hj, e2⟩ := Option.map_eq_some_iff.mp e1
    subst e2
    obtain ⟨t, e3⟩ := h2
    exact ⟨t, by rw [e3, List.getD_eq_getElem?_getD, hj]; rfl⟩
  have hl : vs.length = is.length := by
    have e1 := congrArg List.length hv
    rw [List.length_map, List.length_map] at e1
    rw [← e1]; exact (KV.length rel).symm
  have hlt : a < s1.heap.objs.size := Heap.lt_size ho
  refine call_sum_walkG (wpAny_pyIter_values (v := s1.heap.objs.size) (d := a) ⟨_, by rw [← hB]; exact Heap.get?_push_size _ rfl, rfl, rfl⟩ dat1 ?_)
  refine ⟨_, _, _, _, _, _, _, rfl, Walks.dictValues (knd := mixKind X.prog X.w) (A := X.A.in1) (I.ok.hd hc) B.objs.size a (by rw [hsz]; exact Nat.ne_of_lt (Nat.lt_succ_of_lt hlt)) vs ep,
    ⟨⟨_, Heap.get?_push_size _ rfl, rfl, rfl⟩, dat1.keep fun b u e => Heap.get?_push_of_some _ e⟩, fun b hb => ?_, hval, fun h' tk t' hk => ?_⟩
  · show b < (B.push _).objs.size
    rw [Heap.size_push, hsz]
    rcases List.mem_cons.mp hb with e | hb
    · rw [e, hsz]; exact Nat.lt_succ_self _
    · rw [List.mem_singleton.mp hb]; exact Nat.lt_succ_of_lt (Nat.lt_succ_of_lt hlt)
  · refine ⟨.int _, H1, I1.kept (t' := tk) fun b u e => hk b u (fun hmem => ?_) (Heap.get?_push_of_some _ (k1 b u e)), ⟨t', rfl⟩, ?_⟩
    · have e1 : b = B.objs.size := List.mem_singleton.mp hmem
      have e2 := Heap.lt_size e
      rw [e1, hsz] at e2
      exact absurd e2 (Nat.not_lt.mpr (Nat.le_succ _))
    · rw [hl, preSum_take is _ (Nat.le_refl _), List.take_length]
      exact q
end
end L2.Px

set_option Elab.async false
set_option linter.all false
set_option maxRecDepth 100000
set_option maxHeartbeats 1000000
/-! one more step that pastes: the mathematics; reading steps for k18, k20 -/
namespace L2.Px
open PySem PySem.Spec PyProof.Rows StX TL
section
variable {ss : List Stp} {f l t : Nat}
theorem tyL_app_pa (ss : List Stp) (f l t : Nat) : tyL (ss ++ [.pa f l t]) = tyL ss := by rw [tyL_append]; simp [tyL, ty1]
theorem sz_app_pa (ss : List Stp) (f l t : Nat) : sz (ss ++ [.pa f l t]) = sz ss + (l - f + 1) * t := by rw [sz_append]; simp [sz, len1]
theorem app_get (ss : List Stp) (s : Stp) : (ss ++ [s])[ss.length]? = some s := by simp
theorem app_take (ss : List Stp) (s : Stp) : (ss ++ [s]).take ss.length = ss := by simp
theorem cn_low {s : Stp} (ok : okFrom 0 (ss ++ [s])) {p : Nat} (h : p ≤ sz ss) (k : Nat) : cn (ss ++ [s]) p k = cn ss p k := by
  have := cn_take (j := ss.length) ok (p := p) (by rw [app_take]; exact h) k
  rwa [app_take] at this
theorem kat_low {s : Stp} (ok : okFrom 0 (ss ++ [s])) {p : Nat} (h : p < sz ss) : kat (ss ++ [s]) p = kat ss p := by
  have := ks_take (ss := ss ++ [s]) ok ss.length (p := p) (by rw [app_take]; exact h)
  unfold kat
  rw [this, app_take]
theorem app_ok (ok : okFrom 0 (ss ++ [.pa f l t])) : okFrom 0 ss ∧ f ≤ l ∧ l < sz ss ∧ 1 ≤ t := by
  rw [okFrom_append, Nat.zero_add] at ok
  obtain ⟨a, ⟨b, c, d, e⟩, _⟩ := ok
  exact ⟨a, b, c, d⟩
theorem cn_more (ok : okFrom 0 (ss ++ [.pa f l t])) {d : Nat} (hd : d ≤ (l - f + 1) * t) (k : Nat) :
    cn (ss ++ [.pa f l t]) (sz ss + d) k = cn ss (sz ss) k + (d / (l - f + 1)) * (cn ss (l + 1) k - cn ss f k) + (cn ss (f + d % (l - f + 1)) k - cn ss f k) := by
  obtain ⟨o, h1, h2, h3⟩ := app_ok ok
  have hs := sz_take (app_get ss (.pa f l t))
  rw [app_take] at hs
  have := cn_pa (j := ss.length) ok (app_get ss _) (p := sz ss + d) (by rw [app_take]; omega) (by rw [hs]; simp only [len1]; omega) k
  rw [app_take, Nat.add_sub_cancel_left] at this
  have hm : d % (l - f + 1) < l - f + 1 := Nat.mod_lt _ (by omega)
  rw [cn_low ok (Nat.le_refl _), cn_low ok (show l + 1 ≤ sz ss by omega), cn_low ok (show f ≤ sz ss by omega), cn_low ok (show f + d % (l - f + 1) ≤ sz ss by omega)] at this
  have m1 := cn_mono ss k (show f ≤ l + 1 by omega)
  have m2 := cn_mono ss k (show f ≤ f + d % (l - f + 1) by omega)
  have e : ((cn ss (l + 1) k : Nat) : Int) - (cn ss f k : Nat) = ((cn ss (l + 1) k - cn ss f k : Nat) : Int) := by omega
  rw [e, ← Int.natCast_mul] at this
  omega
theorem kat_more (ok : okFrom 0 (ss ++ [.pa f l t])) {d : Nat} (hd : d < (l - f + 1) * t) : kat (ss ++ [.pa f l t]) (sz ss + d) = kat ss (f + d % (l - f + 1)) := by
  obtain ⟨o, h1, h2, h3⟩ := app_ok ok
  have hs := sz_take (app_get ss (.pa f l t))
  rw [app_take] at hs
  obtain ⟨a, b⟩ := ks_pa (j := ss.length) ok (app_get ss _) (p := sz ss + d) (by rw [app_take]; omega) (by rw [hs]; simp only [len1]; omega)
  rw [app_take, Nat.add_sub_cancel_left] at a b
  rw [← kat_low ok a]
  unfold kat
  rw [b]
theorem kcs_more (ok : okFrom 0 (ss ++ [.pa f l t])) : kcs (ss ++ [.pa f l t]) (sz ss) (sz ss + (l - f + 1) * t) = (kcs ss f (l + 1)).map (t * ·) := by
  obtain ⟨o, h1, h2, h3⟩ := app_ok ok
  unfold kcs
  rw [tyL_app_pa, List.map_map]
  refine List.map_congr_left fun k _ => ?_
  rw [cn_more ok (Nat.le_refl _), cn_low ok (Nat.le_refl _), Nat.mul_div_cancel_left _ (by omega), Nat.mul_mod_right]
  simp only [Function.comp, Nat.add_zero]
  omega
theorem kcs_part (ok : okFrom 0 (ss ++ [.pa f l t])) {d : Nat} (hd : d ≤ (l - f + 1) * t) :
    kcs (ss ++ [.pa f l t]) (sz ss) (sz ss + d) = (List.range (tyL ss).length).map fun k => d / (l - f + 1) * (cn ss (l + 1) k - cn ss f k) + (cn ss (f + d % (l - f + 1)) k - cn ss f k) := by
  unfold kcs
  rw [tyL_app_pa]
  refine List.map_congr_left fun k _ => ?_
  rw [cn_more ok hd, cn_low ok (Nat.le_refl _)]
  omega
theorem kcs_low (ok : okFrom 0 (ss ++ [.pa f l t])) : kcs (ss ++ [.pa f l t]) 0 (sz ss) = kcs ss 0 (sz ss) := by
  unfold kcs
  rw [tyL_app_pa]
  exact List.map_congr_left fun k _ => by rw [cn_low ok (Nat.le_refl _), cn_zero, cn_zero]
/-- the place of a key in what is pasted -/
theorem nth_more (ok : okFrom 0 (ss ++ [.pa f l t])) {k n q : Nat} (hc : cn ss f k < cn ss (l + 1) k) (hn : n < t * (cn ss (l + 1) k - cn ss f k))
    (hq : IsNth ss [k] (cn ss f k + n % (cn ss (l + 1) k - cn ss f k)) q) :
    f ≤ q ∧ q ≤ l ∧ IsNth (ss ++ [.pa f l t]) [k] (cn ss (sz ss) k + n) (sz ss + n / (cn ss (l + 1) k - cn ss f k) * (l - f + 1) + (q - f)) := by
  obtain ⟨o, h1, h2, h3⟩ := app_ok ok
  generalize hC : cn ss (l + 1) k - cn ss f k = c at *
  have hr := Nat.mod_lt n (show 0 < c by omega)
  have hdm := Nat.div_add_mod n c
  have hkq := nth_key o hq
  obtain ⟨q1, q2, q3⟩ := hq
  rw [tot_one] at q2 q3
  have hf : f ≤ q := by
    rcases Nat.lt_or_ge q f with z | z
    · have := cn_mono ss k (show q + 1 ≤ f from z); omega
    · exact z
  have hl : q ≤ l := by
    rcases Nat.lt_or_ge l q with z | z
    · have := cn_mono ss k (show l + 1 ≤ q from z); omega
    · exact z
  have hb : n / c < t := (Nat.div_lt_iff_lt_mul (show 0 < c by omega)).mpr hn
  have hd : n / c * (l - f + 1) + (q - f) < (l - f + 1) * t := by
    have : (n / c + 1) * (l - f + 1) ≤ t * (l - f + 1) := Nat.mul_le_mul_right _ hb
    rw [Nat.succ_mul] at this
    rw [Nat.mul_comm (l - f + 1) t]
    omega
  refine ⟨hf, hl, ?_⟩
  have hN := sz_app_pa ss f l t
  have e1 : (n / c * (l - f + 1) + (q - f)) / (l - f + 1) = n / c := by
    rw [Nat.mul_comm, Nat.mul_add_div (by omega), Nat.div_eq_of_lt (show q - f < l - f + 1 by omega), Nat.add_zero]
  have e2 : (n / c * (l - f + 1) + (q - f)) % (l - f + 1) = q - f := by
    rw [Nat.mul_comm, Nat.mul_add_mod, Nat.mod_eq_of_lt (show q - f < l - f + 1 by omega)]
  have hcn := cn_more ok (d := n / c * (l - f + 1) + (q - f)) (by omega) k
  rw [e1, e2, show f + (q - f) = q by omega, hC, ← Nat.add_assoc] at hcn
  have hk := kat_more ok hd
  rw [e2, show f + (q - f) = q by omega, hkq, ← Nat.add_assoc] at hk
  have hP : sz ss + n / c * (l - f + 1) + (q - f) < sz (ss ++ [.pa f l t]) := by omega
  have hsucc := cn_succ ok hP k
  rw [hk, if_pos rfl] at hsucc
  have hq1 := cn_succ o q1 k
  rw [hkq, if_pos rfl] at hq1
  have m := cn_mono ss k hf
  rw [Nat.mul_comm c] at hdm
  refine ⟨hP, ?_, ?_⟩
  · rw [tot_one, hcn]; omega
  · rw [tot_one, hsucc, hcn]; omega
end
theorem cn_le_len (ss : List Stp) (k : Nat) {a b : Nat} (h : a ≤ b) : cn ss b k - cn ss a k ≤ b - a := by
  unfold cn
  rw [count_take_split _ _ h]
  have : (((ks ss).drop a).take (b - a)).count k ≤ b - a := Nat.le_trans List.count_le_length (by rw [List.length_take]; omega)
  omega
/-- the place at which a key stands for a time -/
theorem nth_ex {ss : List Stp} (ok : okFrom 0 ss) {k n : Nat} (h : n < cn ss (sz ss) k) : ∃ q, IsNth ss [k] n q := by
  have key : ∀ p, p ≤ sz ss → n < cn ss p k → ∃ q, IsNth ss [k] n q := by
    intro p
    induction p with
    | zero => intro _ h; rw [cn_zero] at h; omega
    | succ p ih =>
      intro hp h
      by_cases z : n < cn ss p k
      · exact ih (by omega) z
      · exact ⟨p, by omega, by rw [tot_one]; omega, by rw [tot_one]; omega⟩
  exact key _ (Nat.le_refl _) h
/-- a list of the steps ss -/
def LX (K : PySem.W.Frag) (H : Hp) (a : Addr) (ss : List Stp) : Prop := ∃ ms, H a = some (.lst ms) ∧ StepsAt K H ms ss
section
variable {K : PySem.W.Frag} {CT CP : Addr} {H H' : Hp} {Q : VK} {E : XK} {a b r p : Addr} {ss : List Stp} {L M : List Nat}
theorem LX.sx (h : LX K H a ss) : SX K H a ss := let ⟨ms, q, s⟩ := h; ⟨ms, .inr q, s⟩
theorem LX.mono (h : LX K H a ss) (e : Same H H') : LX K H' a ss := let ⟨ms, q, s⟩ := h; ⟨ms, e _ _ q, s.mono e⟩
theorem rd_listLX (h : TS' K H a ss) (q : ∀ p H', Same H H' → LX K H' p ss → Q (.ref p) H') : rListA K [.ref a] H Q := by
  obtain ⟨ms, q1, st⟩ := h
  exact rd_list_tup q1 fun l hl => q l _ (Same.new (Same.refl _) hl) ⟨ms, upd_same, st.mono (Same.new (Same.refl _) hl)⟩
theorem rd_addLX {s : Stp} (h : LX K H a ss) (hb : H b = some (.lst [.ref p])) (hp : H p = some (.tup (stV s))) (hz : ss.length ≤ 1000) (q : ∀ p H', Same H H' → LX K H' p (ss ++ [s]) → Q (.ref p) H') : rAddA K (.ref a) (.ref b) H Q := by
  obtain ⟨ms, q1, st⟩ := h
  refine rd_add_lst q1 hb (by rw [st.1, sizeLine_eq]; simp; omega) fun l hl => q l _ (Same.new (Same.refl _) hl) ⟨_, upd_same, (st.mono (Same.new (Same.refl _) hl)).snoc ⟨p, rfl, SqT.of (lk_new hl hp)⟩⟩
end
/-! sums of letters' counts -/
theorem lsum_cover {cs : List Nat} (hn : cs.Nodup) : ∀ (L M : List Nat), L.length = M.length → (∀ i, i < L.length → 0 < M[i]?.getD 0 → L[i]?.getD 0 ∈ cs) → (cs.map (lsum L M)).sum = M.sum
  | [], M, hl, _ => by
    have : M = [] := List.eq_nil_of_length_eq_zero hl.symm
    subst this
    have : cs.map (lsum [] []) = cs.map fun _ => 0 := List.map_congr_left fun c _ => rfl
    rw [this, sum_zeros]; rfl
  | a :: L, [], hl, _ => by simp at hl
  | a :: L, b :: M, hl, h => by
    have ih := lsum_cover hn L M (by simpa using hl) fun i hi hp => by simpa using h (i + 1) (by simpa using hi) (by simpa using hp)
    have e : cs.map (lsum (a :: L) (b :: M)) = cs.map fun c => (if a = c then b else 0) + lsum L M c := List.map_congr_left fun c _ => by unfold lsum; simp
    rw [e, sum_map_add, ih, List.sum_cons]
    congr 1
    have h0 := h 0 (by simp)
    simp only [List.getElem?_cons_zero, Option.getD_some] at h0
    clear e ih h
    induction cs with
    | nil =>
      rcases Nat.eq_zero_or_pos b with z | z
      · rw [z]; rfl
      · simpa using h0 z
    | cons c r ihc =>
      obtain ⟨n1, n2⟩ := List.nodup_cons.mp hn
      simp only [List.map_cons, List.sum_cons]
      by_cases z : a = c
      · rw [if_pos z]
        have : (r.map fun c => if a = c then b else 0) = r.map fun _ => 0 := List.map_congr_left fun x hx => if_neg fun y => n1 (by rw [← z, y]; exact hx)
        rw [this, sum_zeros, Nat.add_zero]
      · rw [if_neg z, Nat.zero_add]
        rcases Nat.eq_zero_or_pos b with y | y
        · subst y
          simp [sum_zeros]
        · exact ihc n2 fun hb => (List.mem_cons.mp (h0 hb)).resolve_left z
theorem zip_at : ∀ (n : Nat) (L M : List Nat), L.zip M = (L.take n).zip (M.take n) ++ (L.drop n).zip (M.drop n)
  | 0, _, _ => rfl
  | _ + 1, [], _ => rfl
  | _ + 1, _ :: _, [] => by simp
  | n + 1, a :: L, b :: M => by simp only [List.zip_cons_cons, List.take_succ_cons, List.drop_succ_cons, List.cons_append]; rw [← zip_at n L M]
theorem lsum_ge {L M : List Nat} {i : Nat} (h1 : i < L.length) (h2 : i < M.length) : M[i]?.getD 0 ≤ lsum L M (L[i]?.getD 0) := by
  have := lsum_snoc (c := L[i]?.getD 0) h1 h2
  rw [if_pos rfl] at this
  have m : ∀ n, lsum (L.take n) (M.take n) (L[i]?.getD 0) ≤ lsum L M (L[i]?.getD 0) := fun n => by
    have e : lsum L M (L[i]?.getD 0) = lsum (L.take n) (M.take n) (L[i]?.getD 0) + lsum (L.drop n) (M.drop n) (L[i]?.getD 0) := by
      unfold lsum
      rw [← List.sum_append, ← List.map_append, ← zip_at]
    omega
  have := m (i + 1)
  omega
theorem lcn_sum {ss : List Stp} (ok : okFrom 0 ss) {f e : Nat} (h : f ≤ e) (he : e ≤ sz ss) {cs : List Nat} (hn : cs.Nodup) (hm : ∀ c, c ∈ cs ↔ 0 < lcn ss f e c) : (cs.map (lcn ss f e)).sum = e - f := by
  unfold lcn at *
  rw [lsum_cover hn _ _ (kcs_len ss f e).symm fun i hi hp => (hm _).mpr (Nat.lt_of_lt_of_le hp (lsum_ge hi (by rw [kcs_len]; exact hi))), sum_kcs ok h he]
end L2.Px
namespace L2.Px
open PySem PySem.Spec PyProof.Rows StX TL
def sp_x_law_is_pasted (K : PySem.W.Frag) (CT CP : Addr) : Sp := fun vs H Q _ => ∃ r a ss, ∃ f l t : Nat, vs = [.ref r, .ref a, .int f, .int l, .int t] ∧ RowAt K H r ∧ TX K CT CP H a ss ∧ f ≤ l ∧ l < sz ss ∧ 1 ≤ t ∧ l - f < 100000000 ∧ t ≤ 100000000 ∧ sz ss ≤ 100000000000000040 ∧ ss.length ≤ 15 ∧
  ∀ H', Kp H H' → RowAt K H' r → Q (.bl true) H'
end L2.Px
namespace L2.Px
open PySem PySem.Spec PyProof.Rows StX TL
theorem rd_p8 {H : Hp} {Q : VK} (q : Q (.int 100000000) H) : rI CPow (fun i j => V.int (i ^ j.toNat)) (.int 10) (.int 8) H Q := rd_I ⟨by decide, by decide, by decide⟩ (by rw [show (10 : Int) ^ (8 : Int).toNat = 100000000 from by decide +kernel]; exact q)
end L2.Px
namespace L2.Px
open PySem PySem.Spec PyProof.Rows StX TL
theorem pick_mem {L : List Nat} {n : Nat} (h : n < L.length) : ∃ m, L[(n : Int).toNat]?.getD 0 = m ∧ m ∈ L := ⟨_, rfl, by
  rw [Int.toNat_natCast, List.getElem?_eq_getElem h]; exact List.getElem_mem h⟩
/-- rising lists of the same members are equal -/
theorem rising_unique {α : Type} {lt : α → α → Prop} (ir : ∀ a, ¬ lt a a) (tr : ∀ a b c, lt a b → lt b c → lt a c) : ∀ {l m : List α}, l.Pairwise lt → m.Pairwise lt → (∀ x, x ∈ l ↔ x ∈ m) → l = m
  | [], [], _, _, _ => rfl
  | [], y :: m, _, _, h => absurd ((h y).mpr List.mem_cons_self) (List.not_mem_nil)
  | x :: l, [], _, _, h => absurd ((h x).mp List.mem_cons_self) (List.not_mem_nil)
  | x :: l, y :: m, h1, h2, h => by
    obtain ⟨a1, a2⟩ := List.pairwise_cons.mp h1
    obtain ⟨b1, b2⟩ := List.pairwise_cons.mp h2
    have e : x = y := by
      rcases List.mem_cons.mp ((h x).mp List.mem_cons_self) with z | z
      · exact z
      · rcases List.mem_cons.mp ((h y).mpr List.mem_cons_self) with u | u
        · exact u.symm
        · exact absurd (tr _ _ _ (a1 _ u) (b1 _ z)) (ir x)
    subst e
    rw [rising_unique ir tr a2 b2 fun z => ⟨fun hz => ((List.mem_cons.mp ((h z).mp (List.mem_cons_of_mem _ hz))).resolve_left fun e => ir x (by have := a1 _ hz; rwa [e] at this)),
      fun hz => ((List.mem_cons.mp ((h z).mpr (List.mem_cons_of_mem _ hz))).resolve_left fun e => ir x (by have := b1 _ hz; rwa [e] at this))⟩]
theorem IsPl.ge {ss : List Stp} {k f : Nat} {L : List Nat} (h : IsPl ss k f L) {j : Nat} (hj : j < L.length) : f ≤ L[j]?.getD 0 := by
  have q := (h.nth j hj).2.2
  rw [tot_one] at q
  rcases Nat.lt_or_ge (L[j]?.getD 0) f with z | z
  · have := cn_mono ss k (show L[j]?.getD 0 + 1 ≤ f from z); omega
  · exact z
theorem nth_lt_nth {ss : List Stp} {keys : List Nat} {n m p q : Nat} (h : IsNth ss keys n p) (g : IsNth ss keys m q) (hlt : n < m) (h1 : tot ss keys (p + 1) ≤ n + 1) : p < q := by
  rcases Nat.lt_or_ge p q with z | z
  · exact z
  · have := tot_mono ss keys (show q + 1 ≤ p + 1 by omega)
    have := g.2.2; omega
theorem IsPl.rising {ss : List Stp} {k f : Nat} {L : List Nat} (ok : okFrom 0 ss) (h : IsPl ss k f L) : L.Pairwise (· < ·) := by
  rw [List.pairwise_iff_getElem]
  intro i j hi hj hij
  have a := h.nth i hi
  have b := h.nth j hj
  rw [List.getElem?_eq_getElem hi] at a
  rw [List.getElem?_eq_getElem hj] at b
  have e := cn_succ ok a.1 k
  have a2 := a.2.1
  rw [tot_one] at a2
  refine nth_lt_nth a b (by omega) ?_
  rw [tot_one]
  split at e
  · simp only [Option.getD_some] at *; omega
  · simp only [Option.getD_some] at *; omega
theorem rising_nats {L : List Nat} {ns : List Int} (h : L.Pairwise (· < ·)) (g : ns.Pairwise (· < ·)) (hm : ∀ k : Int, k ∈ ns ↔ decide (k ∈ L.map fun m => ((m : Nat) : Int)) = true) : ns = L.map fun m => ((m : Nat) : Int) :=
  rising_unique (lt := fun a b : Int => a < b) (fun a z => by omega) (fun a b c x y => by omega) g (List.pairwise_map.mpr (h.imp fun z => by omega)) fun x => by rw [hm, decide_eq_true_iff]
section
variable {K : PySem.W.Frag} {w : World} {CT CP : Addr} {H H' : Hp} {Q : VK} {E : XK} {a r : Addr} {ss : List Stp} {i j k : Int} {L : List Nat}
theorem rd_pasted (row : RowAt K H r) (h : TX K CT CP H a ss) (h1 : 0 ≤ i) (h2 : i ≤ j) (h3 : j < sz ss) (h4 : 1 ≤ k) (h5 : j - i < 100000000) (h6 : k ≤ 100000000) (h7 : sz ss ≤ 100000000000000040) (h8 : ss.length ≤ 15)
    (q : ∀ H', Kp H H' → RowAt K H' r → Q (.bl true) H') : sp_x_law_is_pasted K CT CP [.ref r, .ref a, .int i, .int j, .int k] H Q E :=
  ⟨r, a, ss, i.toNat, j.toNat, k.toNat, by rw [Int.toNat_of_nonneg h1, Int.toNat_of_nonneg (by omega), Int.toNat_of_nonneg (by omega)], row, h, by omega, by omega, by omega, by omega, by omega, h7, h8, q⟩
/-- set(L), then sorted of it, of a rising list -/
theorem rd_setN (h : H a = some (.lst (natV L))) (hz : L.length ≤ 1000) (q : ∀ p H', Same H H' → (∃ c, c ≤ 1000 ∧ H' p = some (SetO w p (fun j => decide (j ∈ L.map fun m => ((m : Nat) : Int))) c)) → Q (.ref p) H') : rSetI K w [.ref a] H Q :=
  ⟨a, L.map fun m => ((m : Nat) : Int), rfl, SqL.of (by rw [h, natV_ints]), by rw [List.length_map]; unfold scanBound; omega, fun p c hp hc => q p _ (Same.new (Same.refl _) hp) ⟨c, by rw [List.length_map] at hc; omega, upd_same⟩⟩
theorem rd_sortSN (h : ∃ c, c ≤ 1000 ∧ H a = some (SetO w a (fun j => decide (j ∈ L.map fun m => ((m : Nat) : Int))) c)) (r : L.Pairwise (· < ·)) (q : ∀ p H', Same H H' → H' p = some (.lst (natV L)) → Q (.ref p) H') : rSortSI w [.ref a] H Q := by
  obtain ⟨c, hc, h⟩ := h
  refine ⟨a, _, c, rfl, h, by rw [sizeLine_eq]; omega, fun ns p h1 h2 hp => ?_⟩
  have := rising_nats r h1 h2
  subst this
  rw [← natV_ints]
  exact q p _ (Same.new (Same.refl _) hp) upd_same
/-- list(d), sorted(d) of a dict from rising letters -/
theorem rd_listD {f : Nat → Nat} {cs : List Nat} (h : H a = some (.dK (kvL f cs))) (q : ∀ p H', Same H H' → H' p = some (.lst (sgV cs)) → Q (.ref p) H') : rListD [.ref a] H Q :=
  ⟨a, _, rfl, h, fun p hp => q p _ (Same.new (Same.refl _) hp) (by rw [upd_same]; unfold kvL sgV; rw [List.map_map]; rfl)⟩
def rSortD (vs : List V) (H : Hp) (Q : VK) : Prop := ∃ (a : Addr) (kvs : List (Key × V)) (ks : List Str), vs = [.ref a] ∧ Rd H a (.dK kvs) ∧ kvs.map (·.1) = ks.map Sum.inr ∧ ks.length < 64 ∧ ∀ ys p, ys.Perm ks → sortedS ys = true → H p = none → Q (.ref p) (upd H p (.lst (ys.map V.str)))
theorem cr_sortD {X : Cx} (hc : X.calm = true) : CallR X (.builtin "sorted") rSortD := call_sortedD hc
theorem rd_sortD {f : Nat → Nat} {cs : List Nat} (h : H a = some (.dK (kvL f cs))) (hz : cs.length < 64) (r : cs.Pairwise (· < ·)) (q : ∀ p H', Same H H' → H' p = some (.lst (sgV cs)) → Q (.ref p) H') : rSortD [.ref a] H Q := by
  refine ⟨a, _, cs.map sgn, rfl, .inl h, kvL_keys f cs, by rw [List.length_map]; exact hz, fun ys p hp hs hn => q p _ (Same.new (Same.refl _) hn) ?_⟩
  obtain ⟨ds, e, hr, hm⟩ := sorted_letters hp hs (r.imp fun z => by omega)
  have := rising_unique (lt := fun a b : Nat => a < b) (fun a z => by omega) (fun a b c x y => by omega) hr r hm
  subst this
  rw [upd_same, e]; unfold sgV; rw [List.map_map]; rfl
theorem rd_sumV {te : TE} {σ : St} (h : te σ H fun x H1 => ∃ (a : Addr) (kvs : List (Key × V)) (is : List Int), x = V.ref a ∧ H1 a = some (.dK kvs) ∧ kvs.map (·.2) = is.map V.int ∧ Q (.int is.sum) H1) : tSumVals te σ H Q := h
theorem rd_sumVL {f : Nat → Nat} {cs : List Nat} (h : H a = some (.dK (kvL f cs))) (q : Q (.int ((cs.map f).sum : Nat)) H) : ∃ (a' : Addr) (kvs : List (Key × V)) (is : List Int), V.ref a = V.ref a' ∧ H a' = some (.dK kvs) ∧ kvs.map (·.2) = is.map V.int ∧ Q (.int is.sum) H :=
  ⟨a, _, (cs.map f).map fun m => ((m : Nat) : Int), rfl, h, by unfold kvL; rw [List.map_map, List.map_map, List.map_map]; rfl, by rw [sum_cast]; exact q⟩
end
end L2.Px
namespace L2.Px
open PySem PySem.Spec PyProof.Rows StX TL
theorem setIK {X : Cx} {K : PySem.W.Frag} {w : World} (hk : X.K = K) (hw : X.w = w) (hc : X.calm = true) : CallR X (.type "set") (rSetI K w) := hk ▸ hw ▸ cr_setI hc
theorem sortSIK {X : Cx} {w : World} (hw : X.w = w) (hc : X.calm = true) : CallR X (.builtin "sorted") (rSortSI w) := hw ▸ cr_sortSI hc
end L2.Px

set_option Elab.async false
set_option linter.all false
set_option maxRecDepth 100000
set_option maxHeartbeats 1000000
/-! comprehensions over a dict's keys; next places; reading steps for k20 -/
namespace L2.Px
open PySem PySem.Spec PyProof.Rows StX TL
theorem paired_app {α β : Type} {R : α → β → Prop} {xs : List α} {ys : List β} {us : List α} {vs : List β} (h : Paired R xs ys) (g : Paired R us vs) : Paired R (xs ++ us) (ys ++ vs) := by
  induction h with
  | nil => exact g
  | cons a _ ih => exact .cons a ih
section
variable {K : PySem.W.Frag} {te tt' : TE} {tt : TT} {σ : St} {H : Hp} {Q : VK} {j n : Nat} {ws : List Nat} {d : Addr} {kvs : List (Key × V)}
/-- [(k, v) ..] of new tuples, the dict locked meanwhile -/
theorem rd_lockPairs (p : Key × V → Bool) (hn : σ[n]? = some (some (.ref d))) (hd : H d = some (.dK kvs)) (hz : kvs.length < sizeLine) (hj : ∀ v, wipe ((wipe σ ws).set j (some v)) ws = wipe σ ws)
    (ht : ∀ k v H' (R : Bool → Hp → Prop), (k, v) ∈ kvs → Rd H' d (.dK kvs) → (∀ H'', Same H' H'' → R (p (k, v)) H'') → tt ((wipe σ ws).set j (some (kV k))) H' R)
    (hs : ∀ k v H' (R : VK), (k, v) ∈ kvs → Rd H' d (.dK kvs) → (∀ q H'', Same H' H'' → H'' q = some (.tup [kV k, v]) → R (.ref q) H'') → te ((wipe σ ws).set j (some (kV k))) H' R)
    (hq : ∀ D ps H', Same H H' → H' D = some (.lst (ps.map V.ref)) → Paired (fun q kv => H' q = some (.tup [kV kv.1, kv.2])) ps (kvs.filter p) → Q (.ref D) H') : tLockE (tLc (iKeys (tVar n)) (gName j) tt te ws) σ H Q := by
  refine ⟨d, _, hd, trivial, fun od => ?_⟩
  generalize hl : upd H d (.frz od (.dK kvs)) = Hl
  have el : Hl d = some (.frz od (.dK kvs)) := by rw [← hl]; exact upd_same
  refine ⟨_, hn, d, od, rfl, .inl ⟨kvs, el, fun D hD => ?_⟩⟩
  have nd : D ≠ d := fun z => by subst z; rw [el] at hD; cases hD
  refine ⟨fun i m H' => m = kvs.length - i ∧ i ≤ kvs.length ∧ Same Hl H' ∧ ∃ ps : List Addr, H' D = some (.lst (ps.map V.ref)) ∧ Paired (fun q kv => H' q = some (.tup [kV kv.1, kv.2])) ps ((kvs.take i).filter p), ⟨_, rfl, Nat.zero_le _, Same.new (Same.refl _) hD, [], upd_same, .nil⟩, ?_⟩
  rintro i m H1 ⟨rfl, hi, S, ps, eD, hp⟩
  by_cases hlt : i < kvs.length
  · refine .inr ⟨⟨S _ _ el, hlt⟩, fun H' => i + 1 ≤ kvs.length ∧ Same Hl H' ∧ ∃ ps : List Addr, H' D = some (.lst (ps.map V.ref)) ∧ Paired (fun q kv => H' q = some (.tup [kV kv.1, kv.2])) ps ((kvs.take (i + 1)).filter p), fun H' z => ⟨kvs.length - (i + 1), by omega, rfl, z⟩, fun x H' y => ?_⟩
    obtain ⟨e1, k, v, e2, e3⟩ := y
    subst e1 e3
    have hm : (k, v) ∈ kvs := List.mem_of_getElem? e2
    refine ⟨hj _, ht k v H' _ hm (.inr ⟨od, S _ _ el⟩) fun H2 S2 => ?_⟩
    have et : kvs.take (i + 1) = kvs.take i ++ [(k, v)] := take_snoc e2
    by_cases hpk : p (k, v) = true
    · rw [if_pos hpk]
      refine hs k v H2 _ hm (.inr ⟨od, S2 _ _ (S _ _ el)⟩) fun q H3 S3 eq => ⟨_, S3 _ _ (S2 _ _ eD), ?_, hlt, Same.mut ((S.trans S2).trans S3) hD, ps ++ [q], ?_, ?_⟩
      · have := hp.length
        rw [List.length_map, this]
        have := List.length_filter_le p (kvs.take i)
        rw [List.length_take] at this
        omega
      · rw [upd_same, List.map_append]; rfl
      · have nq : ∀ {b : Addr} {xs : List V}, H3 b = some (.tup xs) → upd H3 D (.lst (ps.map V.ref ++ [.ref q])) b = some (.tup xs) := fun {b xs} e => by
          rw [upd_ne fun z => by subst z; rw [S3 _ _ (S2 _ _ eD)] at e; cases e]; exact e
        rw [et, List.filter_append]
        have e1 : [(k, v)].filter p = [(k, v)] := by simp [hpk]
        rw [e1]
        exact paired_app (hp.mono fun a b z => nq (S3 _ _ (S2 _ _ z))) (.cons (nq eq) .nil)
    · rw [if_neg hpk]
      refine ⟨hlt, S.trans S2, ps, S2 _ _ eD, ?_⟩
      rw [et, List.filter_append]
      have e1 : [(k, v)].filter p = [] := by simp [hpk]
      rw [e1, List.append_nil]
      exact hp.mono fun a b z => S2 _ _ z
  · have e : i = kvs.length := by omega
    subst e
    rw [List.take_length] at hp
    refine .inl ⟨⟨S _ _ el, Nat.le_refl _⟩, S _ _ el, hq D ps _ (fun b o e => ?_) (by rw [upd_ne nd]; exact eD) (hp.mono fun a b z => ?_)⟩
    · by_cases hb : b = d
      · subst hb; rw [hd] at e; cases e; exact upd_same
      · rw [upd_ne hb]
        exact S _ _ (by rw [← hl, upd_ne hb]; exact e)
    · rw [upd_ne fun y => by subst y; rw [S _ _ el] at z; cases z]; exact z
end
theorem mergeK_nodup : ∀ {kvs acc : List (Key × V)}, ((acc ++ kvs).map (·.1)).Nodup → mergeK acc kvs = acc ++ kvs
  | [], acc, _ => by simp [mergeK]
  | kv :: r, acc, h => by
    have h1 : valV acc kv.1 = none := by
      unfold valV
      rw [List.find?_eq_none.mpr]; rfl
      intro x hx
      simp only [decide_eq_true_eq]
      intro z
      rw [List.map_append, List.nodup_append] at h
      exact h.2.2 _ (List.mem_map.mpr ⟨x, hx, rfl⟩) kv.1 (by simp) z
    show mergeK (putK acc kv.1 kv.2) r = _
    rw [putK_new _ h1, mergeK_nodup (by rw [List.append_assoc]; exact h), List.append_assoc]; rfl
theorem kvL_nd {f : Nat → Nat} {cs : List Nat} (h : cs.Nodup) : ((kvL f cs).map (·.1)).Nodup := by
  rw [kvL_keys, List.map_map]
  exact List.pairwise_map.mpr (h.imp fun {a b} hab z => hab (key_inj.mp z))
theorem kvL_filter (f : Nat → Nat) (cs : List Nat) (q : Nat → Bool) (p : Key × V → Bool) (h : ∀ c, p ((Sum.inr ⟨#[c]⟩ : Key), .int (f c : Nat)) = q c) : (kvL f cs).filter p = kvL f (cs.filter q) := by
  unfold kvL
  rw [List.filter_map]
  congr 1
  exact List.filter_congr fun c _ => h c
theorem kvL_mem {f : Nat → Nat} {cs : List Nat} {k : Key} {v : V} (h : (k, v) ∈ kvL f cs) : ∃ c ∈ cs, k = Sum.inr ⟨#[c]⟩ ∧ v = .int (f c : Nat) := by
  obtain ⟨c, hc, e⟩ := List.mem_map.mp h
  cases e
  exact ⟨c, hc, rfl, rfl⟩
section
variable {K : PySem.W.Frag} {CT CP : Addr} {H H' : Hp} {Q : VK} {E : XK} {a b r : Addr} {ss : List Stp} {i j k : Int} {L : List Nat} {f g : Nat → Nat} {cs ds : List Nat}
def rDictP (K : PySem.W.Frag) : List V → Hp → VK → Prop := fun xs H Q => ∃ (a : Addr) (ps : List Addr) (kvs : List (Key × V)), xs = [.ref a] ∧ SqL K H a (ps.map V.ref) ∧ Paired (fun p kv => SqT K H p [kV kv.1, kv.2]) ps kvs ∧ ∀ p, H p = none → Q (.ref p) (upd H p (.dK (mergeK [] kvs)))
theorem dictPK {X : Cx} (hk : X.K = K) (hc : X.calm = true) : CallR X (.type "dict") (rDictP K) := hk ▸ call_dictP hc
theorem rd_dictPL {ps : List Addr} (h : H a = some (.lst (ps.map V.ref))) (hp : Paired (fun q kv => H q = some (.tup [kV kv.1, kv.2])) ps (kvL f cs)) (hn : cs.Nodup) (q : ∀ p H', Same H H' → H' p = some (.dK (kvL f cs)) → Q (.ref p) H') : rDictP K [.ref a] H Q := by
  refine ⟨a, ps, _, rfl, SqL.of h, hp.mono fun _ _ z => SqT.of z, fun p hpn => q p _ (Same.new (Same.refl _) hpn) ?_⟩
  rw [upd_same, mergeK_nodup (by rw [List.nil_append]; exact kvL_nd hn), List.nil_append]
theorem eqDK {X : Cx} (hu : X.A.units + 64 < cLine) : OpR X (compareOp .Eq) rEqDA := op_eq_dictA (by omega)
theorem rd_eqDL (h : H a = some (.dK (kvL f cs))) (g' : H b = some (.dK (kvL g ds))) (hc : cs.Nodup) (hd : ds.Nodup) (hm : ∀ c, c ∈ cs ↔ c ∈ ds) (hfg : ∀ c ∈ cs, f c = g c) (q : Q (.bl true) H) : rEqDA (.ref a) (.ref b) H Q := by
  refine ⟨a, b, _, _, rfl, rfl, h, g', ?_, fun p hp => ?_, q⟩
  · rw [kvL_len, kvL_len]
    exact Nat.le_antisymm (nodup_len hc fun c z => (hm c).mp z) (nodup_len hd fun c z => (hm c).mpr z)
  · obtain ⟨k, v⟩ := p
    obtain ⟨c, hc, rfl, rfl⟩ := kvL_mem hp
    exact ⟨by rw [kvL_val, if_pos ((hm c).mp hc), hfg c hc], rfl⟩
def sp_x_law_are_counts (K : PySem.W.Frag) (CT CP : Addr) : Sp := fun vs H Q _ => ∃ a ss, ∃ f e : Nat, vs = [.ref a, .int f, .int ((e : Int) - 1)] ∧ TX K CT CP H a ss ∧ f ≤ e ∧ e ≤ sz ss ∧ ∀ H', Same H H' → Q (.bl true) H'
theorem rd_areCounts (h : TX K CT CP H a ss) (h1 : 0 ≤ i) (h2 : i ≤ j + 1) (h3 : j + 1 ≤ sz ss) (q : ∀ H', Same H H' → Q (.bl true) H') : sp_x_law_are_counts K CT CP [.ref a, .int i, .int j] H Q E :=
  ⟨a, ss, i.toNat, (j + 1).toNat, by rw [Int.toNat_of_nonneg h1, Int.toNat_of_nonneg (by omega), Int.add_sub_cancel], h, by omega, by omega, q⟩
def sp_x_law_are_places (K : PySem.W.Frag) (CT CP : Addr) : Sp := fun vs H Q _ => ∃ r a ss, ∃ c : Nat, vs = [.ref r, .ref a, .str ⟨#[c]⟩] ∧ RowAt K H r ∧ TX K CT CP H a ss ∧ 97 ≤ c ∧ c ≤ 122 ∧ sz ss ≤ 100000000000000040 ∧ ∀ H', Kp H H' → RowAt K H' r → Q (.bl true) H'
end
/-! next places of keys -/
/-- the place of k for the time n -/
noncomputable def nxt (ss : List Stp) (k n : Nat) : Option Nat := open Classical in if h : ∃ q, IsNth ss [k] n q then some h.choose else none
theorem nxt_some {ss : List Stp} {k n q : Nat} (h : IsNth ss [k] n q) : nxt ss k n = some q := by
  have hx : ∃ q, IsNth ss [k] n q := ⟨q, h⟩
  unfold nxt
  rw [dif_pos hx, nth_unique hx.choose_spec h]
theorem nxt_none {ss : List Stp} {k n : Nat} (h : cn ss (sz ss) k ≤ n) : nxt ss k n = none := by
  unfold nxt
  rw [dif_neg]
  rintro ⟨q, hq⟩
  have := nth_lt hq
  rw [tot_one] at this
  omega
theorem nxt_spec {ss : List Stp} {k n q : Nat} (h : nxt ss k n = some q) : IsNth ss [k] n q := by
  unfold nxt at h
  split at h
  · rename_i hx; cases h; exact hx.choose_spec
  · cases h
def optV : Option Nat → V
  | none => .non
  | some p => .int (p : Nat)
theorem optV_non (o : Option Nat) : decide (optV o = .non) = o.isNone := by cases o <;> simp [optV]
section
variable {ss : List Stp} {keys : List Nat} {n p q : Nat}
theorem tot_pos_place (ok : okFrom 0 ss) {a b : Nat} (hab : a ≤ b) (hb : b ≤ sz ss) (h : tot ss keys a < tot ss keys b) : ∃ x, a ≤ x ∧ x < b ∧ kat ss x ∈ keys := by
  induction b with
  | zero => have : a = 0 := by omega
            subst this; omega
  | succ b ih =>
    by_cases hz : a = b + 1
    · subst hz; omega
    · have e := tot_succ ok keys (show b < sz ss by omega)
      by_cases hc : kat ss b ∈ keys
      · exact ⟨b, by omega, by omega, hc⟩
      · rw [List.count_eq_zero.mpr hc] at e
        obtain ⟨x, x1, x2, x3⟩ := ih (by omega) (by omega) (by omega)
        exact ⟨x, x1, by omega, x3⟩
theorem nth_mem (ok : okFrom 0 ss) (h : IsNth ss keys n p) : kat ss p ∈ keys := by
  have e := tot_succ ok keys h.1
  have := h.2.1; have := h.2.2
  exact List.count_pos_iff.mp (by omega)
theorem nth_tot (ok : okFrom 0 ss) (hk : keys.Nodup) (h : IsNth ss keys n p) : tot ss keys p = n ∧ tot ss keys (p + 1) = n + 1 := by
  have e := tot_succ ok keys h.1
  have := h.2.1; have := h.2.2
  have := List.nodup_iff_count.mp hk (kat ss p)
  omega
/-- the next of one of the keys is at or behind the next of all -/
theorem nxt_ge (ok : okFrom 0 ss) (hk : keys.Nodup) (h : IsNth ss keys n p) (g : IsNth ss keys (n + 1) q) {k x : Nat} (hm : k ∈ keys) (hx : nxt ss k (cn ss (p + 1) k) = some x) : q ≤ x := by
  have hx := nxt_spec hx
  obtain ⟨t1, t2⟩ := nth_tot ok hk h
  obtain ⟨u1, u2⟩ := nth_tot ok hk g
  have hpx : p + 1 ≤ x := by
    have := hx.2.2
    rw [tot_one] at this
    rcases Nat.lt_or_ge x (p + 1) with z | z
    · have := cn_mono ss k (show x + 1 ≤ p + 1 by omega); omega
    · exact z
  rcases Nat.lt_or_ge x q with z | z
  · have e := tot_succ ok keys hx.1
    have hkx := nth_key ok hx
    rw [hkx] at e
    have := List.count_pos_iff.mpr hm
    have := tot_mono ss keys hpx
    have := tot_mono ss keys (show x + 1 ≤ q from z)
    omega
  · exact z
theorem nxt_at (ok : okFrom 0 ss) (hk : keys.Nodup) (h : IsNth ss keys n p) (g : IsNth ss keys (n + 1) q) : nxt ss (kat ss q) (cn ss (p + 1) (kat ss q)) = some q := by
  obtain ⟨t1, t2⟩ := nth_tot ok hk h
  obtain ⟨u1, u2⟩ := nth_tot ok hk g
  have hpq : p < q := nth_lt_nth h g (by omega) (by omega)
  have hm := nth_mem ok g
  refine nxt_some ⟨g.1, ?_, ?_⟩
  · rw [tot_one]
    refine Classical.byContradiction fun z => ?_
    have hlt : tot ss [kat ss q] (p + 1) < tot ss [kat ss q] q := by rw [tot_one, tot_one]; omega
    obtain ⟨x, x1, x2, x3⟩ := tot_pos_place ok (show p + 1 ≤ q from hpq) (by have := g.1; omega) hlt
    have e := tot_succ ok keys (show x < sz ss by have := g.1; omega)
    have hx : kat ss x ∈ keys := by rw [List.mem_singleton.mp x3]; exact hm
    have := List.count_pos_iff.mpr hx
    have := tot_mono ss keys x1
    have := tot_mono ss keys (show x + 1 ≤ q from x2)
    omega
  · rw [tot_one, cn_succ ok g.1, if_pos rfl]
    have := cn_mono ss (kat ss q) (show p + 1 ≤ q from hpq)
    omega
theorem nxt_end (ok : okFrom 0 ss) (hk : keys.Nodup) (h : IsNth ss keys n p) (g : tot ss keys (sz ss) ≤ n + 1) {k : Nat} (hm : k ∈ keys) : nxt ss k (cn ss (p + 1) k) = none := by
  cases e : nxt ss k (cn ss (p + 1) k) with
  | none => rfl
  | some x =>
    have hx := nxt_spec e
    obtain ⟨t1, t2⟩ := nth_tot ok hk h
    have hpx : p + 1 ≤ x := by
      have := hx.2.2
      rw [tot_one] at this
      rcases Nat.lt_or_ge x (p + 1) with z | z
      · have := cn_mono ss k (show x + 1 ≤ p + 1 by omega); omega
      · exact z
    have e := tot_succ ok keys hx.1
    rw [nth_key ok hx] at e
    have := List.count_pos_iff.mpr hm
    have := tot_mono ss keys hpx
    have := tot_mono ss keys (show x + 1 ≤ sz ss from hx.1)
    omega
end
end L2.Px
namespace L2.Px
open PySem PySem.Spec PyProof.Rows StX TL
section
variable {K : PySem.W.Frag} {CT CP : Addr} {H H' : Hp} {Q : VK} {E : XK} {a b r l : Addr} {ss : List Stp} {i j k : Int} {L M : List Nat}
theorem rd_nthLetO {c : Nat} (h : TX K CT CP H a ss) (h1 : 97 ≤ c ∧ c ≤ 122) (h3 : 0 ≤ j) (h4 : j ≤ 1000000000000000000)
    (q : ∀ lt H', Same H H' → (∀ p, lt = some p → IsNth ss (keysL ss c) j.toNat p) → (lt = none → tot ss (keysL ss c) (sz ss) ≤ j.toNat) → Q (optV lt) H') : sp_nth_place_of_letter K CT CP [.ref a, .str ⟨#[c]⟩, .int j] H Q E :=
  rd_nthLet h h1 h3 h4 (fun z H' S => q none H' S (fun p e => by cases e) fun _ => z) fun p H' hp S => q (some p) H' S (fun p' e => by cases e; exact hp) fun e => by cases e
theorem rd_nthKeyO (h : TX K CT CP H a ss) (h1 : 0 ≤ i) (h2 : i < (tyL ss).length) (h3 : 0 ≤ j) (h4 : j ≤ 1000000000000000000)
    (q : ∀ H', Same H H' → Q (optV (nxt ss i.toNat j.toNat)) H') : sp_nth_place_of_key K CT CP [.ref a, .int i, .int j] H Q E :=
  rd_nthKey h h1 h2 h3 h4 (fun z H' S => by have := q H' S; rwa [nxt_none z] at this) fun p H' hp S => by have := q H' S; rwa [nxt_some hp] at this
theorem rd_minN2 (h : H l = some (.lst (natV L))) (h0 : L ≠ []) (q : ∀ m, m ∈ L → (∀ x ∈ L, m ≤ x) → Q (.int (m : Nat)) H) : rMin K [.ref l] H Q :=
  ⟨l, L.map fun m => ((m : Nat) : Int), rfl, SqL.of (by rw [h, natV_ints]), by rw [List.length_map]; exact List.length_pos_iff.mpr h0, fun m hm hle => by
    obtain ⟨x, hx, rfl⟩ := List.mem_map.mp hm
    exact q x hx fun y hy => by have := hle _ (List.mem_map.mpr ⟨y, hy, rfl⟩); omega⟩
theorem range_pickV {α β : Type} (d : α) (cs : List α) (q : α → Bool) (h : α → β) : ((List.range cs.length).filter fun i => q (cs[i]?.getD d)).map (fun i => h (cs[i]?.getD d)) = (cs.filter q).map h := by
  have e : (List.range cs.length).map (fun i => cs[i]?.getD d) = cs := by
    apply List.ext_getElem
    · simp
    · intro i h1 h2
      rw [List.getElem_map, List.getElem_range, List.getElem?_eq_getElem h2]; rfl
  conv => rhs; rw [← e]
  rw [List.filter_map, List.map_map]
  rfl
theorem opts_filter (L : List Nat) (g : Nat → Option Nat) : (L.map fun k => optV (g k)).filter (fun v => !decide (v = .non)) = natV (L.filterMap g) := by
  induction L with
  | nil => rfl
  | cons x L ih =>
    rw [List.map_cons, List.filter_cons, List.filterMap_cons, ih]
    cases g x with
    | none => simp [optV]
    | some p => simp [optV, natV]
theorem optV_get (L : List Nat) (g : Nat → Option Nat) (i : Nat) (h : i < L.length) : ((L.map fun k => optV (g k))[i]?).getD .non = optV (g (L[i]?.getD 0)) := by
  rw [List.getElem?_map, List.getElem?_eq_getElem h]; rfl
/-- x in a list of numbers -/
theorem inV_nat (x : Nat) (L : List Nat) : inV (.int (x : Nat)) (natV L) = decide (x ∈ L) := by
  unfold inV natV
  rw [List.any_map, Bool.eq_iff_iff, List.any_eq_true, decide_eq_true_iff]
  constructor
  · rintro ⟨y, hy, e⟩
    have : ((y : Nat) : Int) = (x : Nat) := by simpa [eqV] using e
    have : y = x := by omega
    exact this ▸ hy
  · intro h
    exact ⟨x, h, by simp [eqV]⟩
theorem rd_inNN {x : Nat} (h : H l = some (.lst (natV L))) (q : Q (.bl (decide (x ∈ L))) H) : rIn K false (.int (x : Nat)) (.ref l) H Q :=
  ⟨l, natV L, rfl, .inl (SqL.of h), rfl, by unfold natV; rw [List.all_map, List.all_eq_true]; intro y _; rfl, by rw [if_neg Bool.false_ne_true, inV_nat]; exact q⟩
theorem inTx_one (c : Nat) (ss : List Stp) : inTx (.str ⟨#[c]⟩) ss = (tyL ss).contains c := by
  simp [inTx, tl]
theorem key_of_letter {c : Nat} (h : c ∈ tyL ss) : ∃ k, k < (tyL ss).length ∧ k ∈ keysL ss c := by
  obtain ⟨k, hk, e⟩ := List.getElem_of_mem h
  exact ⟨k, hk, mem_keysL.mpr ⟨hk, by unfold lat; rw [List.getElem?_eq_getElem hk, e]; rfl⟩⟩
theorem tot_pos_iff (ok : okFrom 0 ss) (c : Nat) : 0 < tot ss (keysL ss c) (sz ss) ↔ c ∈ tyL ss := by
  constructor
  · intro h
    obtain ⟨x, _, x2, x3⟩ := tot_pos_place ok (Nat.zero_le _) (Nat.le_refl _) (by rw [tot_zero]; exact h)
    have := mem_keysL.mp x3
    rw [← this.2]
    exact List.mem_of_getElem? (lat_some this.1)
  · intro h
    obtain ⟨k, hk, hm⟩ := key_of_letter h
    have := key_stands ok hk
    unfold tot
    exact Nat.lt_of_lt_of_le this (by
      obtain ⟨l1, l2, e⟩ := List.append_of_mem hm
      rw [e, List.map_append, List.sum_append, List.map_cons, List.sum_cons]; omega)
theorem keysL_nil (ok : okFrom 0 ss) (c : Nat) (h : tot ss (keysL ss c) (sz ss) = 0) : keysL ss c = [] := by
  refine List.eq_nil_iff_forall_not_mem.mpr fun k hk => ?_
  have := mem_keysL.mp hk
  have : c ∈ tyL ss := by rw [← this.2]; exact List.mem_of_getElem? (lat_some this.1)
  have := (tot_pos_iff ok c).mpr this
  omega
end
end L2.Px
namespace L2.Px
open PySem PySem.Spec PyProof.Rows StX TL
theorem low_at {n : Nat} (h : n < 26) : (tl ("abcdefghijklmnopqrstuvwxyz" : Str))[n]? = some (97 + n) := by
  show (("abcdefghijklmnopqrstuvwxyz" : Str)).cps.toList[n]? = _
  rw [low_list]
  revert h
  have key : ∀ k : Fin 26, ([97, 98, 99, 100, 101, 102, 103, 104, 105, 106, 107, 108, 109, 110, 111, 112, 113, 114, 115, 116, 117, 118, 119, 120, 121, 122] : List Nat)[k.val]? = some (97 + k.val) := by decide
  exact fun h => key ⟨n, h⟩
theorem low_small : ("abcdefghijklmnopqrstuvwxyz" : Str).length ≤ sizeLine := by rw [sizeLine_eq]; decide +kernel
theorem rd_areP {K : PySem.W.Frag} {CT CP : Addr} {H : Hp} {Q : VK} {E : XK} {a r : Addr} {ss : List Stp} {c : Nat} (row : RowAt K H r) (h : TX K CT CP H a ss) (hc : 97 ≤ c ∧ c ≤ 122) (hz : sz ss ≤ 100000000000000040) (q : ∀ H', Kp H H' → RowAt K H' r → Q (.bl true) H') : sp_x_law_are_places K CT CP [.ref r, .ref a, .str ⟨#[c]⟩] H Q E :=
  ⟨r, a, ss, c, rfl, row, h, hc.1, hc.2, hz, q⟩
end L2.Px

set_option Elab.async false
set_option linter.all false
set_option maxRecDepth 100000
set_option maxHeartbeats 1000000
/-! defs with defaults; text * number; a list unpacked -/
namespace L2.Px
open PySem PySem.Spec PyProof.Rows StX TL
/-- a def of the top whose last parameters have the defaults dvs -/
def DefGF (K : PySem.W.Frag) (mg : Str → Option Value) (x : Str) (st : Stmt) (ps : List Str) (dvs : List V) : Prop :=
  ∃ f fd, L2.FunD K x x (defArgs st) (defBody st) (defScope st) dvs [] f fd ∧ mg x = some (.ref f) ∧ (∃ ds, Vals dvs ds ∧ Binds K fd ps ds) ∧ Binds K fd ps []
section
variable {P : Program} {w : World} {K : PySem.W.Frag} {mg : Str → Option Value} {base : Heap} {k : Nat} {x : Str} {st : Stmt} {ps : List Str} {sp : Sp} {dvs : List V} {h : Heap} {f : Addr}
theorem DefGF.run {N : List Str} (D : DefGF K mg x st ps dvs) (S : FnScope N ps (defScope st)) (len : ∀ vs H Q E, sp vs H Q E → vs.length = ps.length)
    (hbody : ∀ (f : Addr) (cdv : Value) (A : Around) (outer : List Env) (s : Shared) (H : Hp) (vs : List V) (Q : VK) (E : XK), Room k (A.deeper (envOfC x (defScope st) s.heap.objs.size f cdv)) → sp vs H Q E →
      ∃ t, PSs (cxOf CX0 P w K mg base N x (defScope st) f cdv A outer s H E).nox (defBody st) t ∧ t { nx := fun _ H' => Q .non H', rt := Q } (start N vs) H) :
    GOk P w K mg base CX0 (k + 1) x (fun vs => sp (vs ++ dvs)) ∧ GOk P w K mg base CX0 (k + 1) x sp := by
  obtain ⟨f, fd, F, a, ⟨ds, hd, b⟩, b0⟩ := D
  have R := F.ok (CX := CX0) (P := P) (w := w) (mg := mg) (base := base) S len fun cdv A outer s H vs Q E hr h => by
    obtain ⟨t, ht, q⟩ := hbody f cdv A outer s H vs Q E hr h
    exact ⟨t, ht.nox, q⟩
  exact ⟨⟨f, FnOk.toR1 R b hd, a, F.kp⟩, ⟨f, FnOk.toR R b0, a, F.kp⟩⟩
theorem DefGF.ok {N : List Str} (D : DefGF K mg x st ps dvs) (S : FnScope N ps (defScope st)) (len : ∀ vs H Q E, sp vs H Q E → vs.length = ps.length)
    (hbody : ∀ (f : Addr) (cdv : Value) (A : Around) (outer : List Env) (s : Shared) (H : Hp) (vs : List V) (Q : VK) (E : XK), Room k (A.deeper (envOfC x (defScope st) s.heap.objs.size f cdv)) → sp vs H Q E →
      ∃ t, PSs (cxOf CX0 P w K mg base N x (defScope st) f cdv A outer s H E).nox (defBody st) t ∧ t { nx := fun _ H' => Q .non H', rt := Q } (start N vs) H) :
    GOk P w K mg base CX0 (k + 1) x (fun vs => sp (vs ++ dvs)) := (D.run S len hbody).1
/-- such a def as K has it -/
def AtFD (K : PySem.W.Frag) (x : Str) (st : Stmt) (f : Addr) (dvs : List V) : Prop := ∃ oc od T kV dc pm an cd ct sl oc' od' its n sl',
  K.lookup f = some ⟨oc, od, .func (PySem.W.fnOf x x (defArgs st) (defBody st) (defScope st) (.ref T) kV dc pm an cd ct), sl⟩ ∧ PySem.W.codeIn K cd x = true ∧ K.lookup T = some ⟨oc', od', .seq (List.toArray its) n, sl'⟩ ∧ Vals dvs its
theorem atFD {oc kV dc pm cd ct oc' : Value} {od an od' : Option Addr} {sl sl' : Array (Option Value)} {T : Addr} {its : List Value} {n : Nat}
    (l : K.lookup f = some ⟨oc, od, .func (PySem.W.fnOf x x (defArgs st) (defBody st) (defScope st) (.ref T) kV dc pm an cd ct), sl⟩) (c : PySem.W.codeIn K cd x = true) (t : K.lookup T = some ⟨oc', od', .seq its.toArray n, sl'⟩) (v : Vals dvs its) : AtFD K x st f dvs :=
  ⟨_, _, _, _, _, _, _, _, _, _, _, _, _, _, _, l, c, t, v⟩
/-- how such a def binds its arguments, m of them written -/
def BFD (x : Str) (st : Stmt) (ps : List Str) (d m : Nat) : Prop := ∀ (T : Addr) (kV doc pm : Value) (an : Option Addr) (cdv ct : Value) (us its : List Value), us.length = m → its.length = d →
  ∃ k, bindArgs (PySem.W.fnOf x x (defArgs st) (defBody st) (defScope st) (.ref T) kV doc pm an cdv ct) ⟨us, []⟩ = seqItems? (.ref T) >>= k ∧ k (some its.toArray) = pure (ps.zip (us ++ its.drop (d + m - ps.length)))
theorem defGF_mk (X : K.In h) (G : h.Ns mainGlobals mg) (a : PySem.W.nsIn K mainGlobals x = some (some (.ref f))) (l : AtFD K x st f dvs) (k : PySem.W.keepIn K (.ref f) = true) (hd : dvs ≠ []) (hl : dvs.length ≤ ps.length)
    (b1 : BFD x st ps dvs.length (ps.length - dvs.length)) (b2 : BFD x st ps dvs.length ps.length) : DefGF K mg x st ps dvs := by
  obtain ⟨oc, od, T, kV, dc, pm, an, cd, ct, sl, oc', od', its, n, sl', l1, l2, l3, l4⟩ := l
  have F : L2.FunD K x x (defArgs st) (defBody st) (defScope st) dvs [] f _ := ⟨⟨oc, od, .ref T, kV, dc, pm, an, cd, ct, sl, rfl, l1, l2, .inr ⟨hd, T, _, its, n, rfl, l3, rfl, l4⟩, .inl rfl⟩, k⟩
  refine ⟨f, _, F, PySem.W.mg_of X G a, ?_, ?_⟩
  · obtain ⟨ds, e1, e2⟩ := F.binds1 (ps := ps) (ps.length - dvs.length) 0 hd (by omega) fun T kV doc pm an cdv ct us its hu hi => by
      have := b1 T kV doc pm an cdv ct us its hu hi
      rwa [show dvs.length + (ps.length - dvs.length) - ps.length = 0 by omega] at this
    exact ⟨ds, by rw [List.drop_zero] at e1; exact e1, e2⟩
  · obtain ⟨ds, e1, e2⟩ := F.binds1 (ps := ps) ps.length dvs.length hd (by omega) fun T kV doc pm an cdv ct us its hu hi => by
      have := b2 T kV doc pm an cdv ct us its hu hi
      rwa [Nat.add_sub_cancel] at this
    rw [List.drop_length] at e1
    cases e1
    exact e2
end
/-! text * number -/
section
variable {X : Cx} {K : PySem.W.Frag} {H : Hp} {Q : VK}
theorem foldl_rep (x : Array Nat) : ∀ (n : Nat) (acc : Array Nat), (List.replicate n x).foldl (· ++ ·) acc = acc ++ ((List.replicate n x.toList).flatten).toArray
  | 0, acc => by simp
  | n + 1, acc => by
    rw [List.replicate_succ, List.foldl_cons, foldl_rep x n, List.replicate_succ, List.flatten_cons]
    apply Array.ext'
    simp
def rMulS : R2 := fun x y H Q => ∃ (z : Str) (n : Nat), x = .str z ∧ y = .int (n : Nat) ∧ z.length * n ≤ 16777216 ∧ n ≤ 16777216 ∧ Q (.str (mkS (List.replicate n (tl z)).flatten)) H
theorem op_mulS : OpR X (binaryOp .Mult) rMulS := by
  intro pins s σ H x y v u Q I rx ry h
  obtain ⟨z, n, rfl, rfl, hz, hn, q⟩ := h
  obtain ⟨t, rfl⟩ := rx
  obtain ⟨t', rfl⟩ := ry
  have hzl : z.length ≤ z.length * n ∨ n = 0 := by
    rcases Nat.eq_zero_or_pos n with e | e
    · exact .inr e
    · exact .inl (Nat.le_mul_of_pos_right _ e)
  refine PySem.P.mul_str (by
    rw [decide_eq_false (show ¬ ((n : Nat) : Int) < -(2 ^ 63 : Int) by omega), decide_eq_false (show ¬ ((n : Nat) : Int) ≥ 2 ^ 63 by omega)]; rfl) (fun h1 _ => ?_) (fun h1 _ => ?_) ?_
  · have hn1 : 1 ≤ n := by omega
    intro hh
    have h2 : (2 ^ 63 - 1 : Int) / (n : Nat) ≥ 16777216 := by
      rw [ge_iff_le, Int.le_ediv_iff_mul_le (by omega)]
      omega
    omega
  · show decide (_ > _) = false
    rw [decide_eq_false]
    rw [Int.toNat_natCast]
    have := sizeLine_eq
    omega
  · have eN : (List.replicate (((n : Nat) : Int)).toNat z.cps).foldl (· ++ ·) #[] = ((List.replicate n (tl z)).flatten).toArray := by
      rw [Int.toNat_natCast, foldl_rep]; simp [tl]
    split
    · have : n = 0 := by omega
      subst this
      exact ⟨by decide, .str _, H, I.tok _, ⟨_, rfl⟩, by
        have e : (mkS (List.replicate 0 (tl z)).flatten) = Str.empty := rfl
        rw [e] at q; exact q⟩
    · split
      · rename_i h1 h2
        rw [Bool.or_eq_true] at h2
        have e : mkS (List.replicate n (tl z)).flatten = z := by
          rcases h2 with h2 | h2
          · have : n = 1 := by
              have := of_decide_eq_true (p := ((n : Nat) : Int) = 1) (by simpa using h2)
              omega
            subst this
            simp [mkS_tl]
          · have h0 : (tl z).length = 0 := by rw [← len_tl]; simpa using h2
            have h00 : tl z = [] := List.eq_nil_of_length_eq_zero h0
            rw [h00]
            apply ext_tl
            rw [tl_mkS, h00]
            simp
        rw [e] at q
        exact ⟨.str z, H, I, ⟨t, rfl⟩, q⟩
      · rw [eN]
        exact ⟨by
          show ((List.replicate n (tl z)).flatten).toArray.size ≤ _
          rw [List.size_toArray, length_flat_rep, ← len_tl, Nat.mul_comm, sizeLine_eq]; exact hz, .str _, H, I.tok _, ⟨_, rfl⟩, q⟩
theorem rd_mulS {z : Str} {i : Int} (h0 : 0 ≤ i) (hz : (z.length : Int) * i ≤ 16777216) (hn : i ≤ 16777216) (q : Q (.str (mkS (List.replicate i.toNat (tl z)).flatten)) H) : rMulS (.str z) (.int i) H Q :=
  ⟨z, i.toNat, rfl, by rw [Int.toNat_of_nonneg h0], by
    have : ((z.length * i.toNat : Nat) : Int) ≤ 16777216 := by rw [Int.natCast_mul, Int.toNat_of_nonneg h0]; exact hz
    omega, by omega, q⟩
theorem unlK {es : List Expr} {k : Nat} {pos : Pos} {t : TGs} {n : Nat} (hk : X.K = K) (hc : X.calm = true) (h : PGs X es t)
    (hn : (assignEach es X.env).length = n := by rfl) (hst : (assignEach es X.env).findIdx? (·.1) = none := by rfl) : PG X (.Tuple es k pos) (gUnl K n t) := hk ▸ pg_unl hc h hn hst
theorem rd_gunl {a : Addr} {xs : List V} {n : Nat} {gs : TGs} {σ : St} {R : St → Hp → Prop} (hq : SqL K H a xs) (hl : xs.length = n) (h : gs xs σ H R) : gUnl K n gs (.ref a) σ H R := ⟨a, xs, rfl, hq, hl, h⟩
end
end L2.Px

set_option Elab.async false
set_option linter.all false
set_option maxRecDepth 100000
set_option maxHeartbeats 1000000
/-! patterns of ties: keys first stand in their order; promises of ties.py's small defs -/
namespace L2.Px
open PySem PySem.Spec PyProof.Rows StX TL
/-- the first p of l are just the numbers below some m -/
def IniS (l : List Nat) : Prop := ∀ p, ∃ m, ∀ x, x ∈ l.take p ↔ x < m
theorem iniS_step {q : List Nat × Nat} {s : Stp} (h : IniS q.1) (hm : ∀ x, x ∈ q.1 ↔ x < q.2) : IniS (stepK q s).1 ∧ ∀ x, x ∈ (stepK q s).1 ↔ x < (stepK q s).2 := by
  cases s with
  | wr w =>
    simp only [stepK]
    refine ⟨fun p => ?_, fun x => ?_⟩
    · by_cases hp : p ≤ q.1.length
      · obtain ⟨m, e⟩ := h p
        exact ⟨m, fun x => by rw [List.take_append_of_le_length hp]; exact e x⟩
      · refine ⟨q.2 + min (p - q.1.length) w.length, fun x => ?_⟩
        rw [List.take_append, List.take_of_length_le (by omega), List.mem_append, hm]
        have : x ∈ (List.range' q.2 w.length).take (p - q.1.length) ↔ q.2 ≤ x ∧ x < q.2 + min (p - q.1.length) w.length := by
          rw [show (List.range' q.2 w.length).take (p - q.1.length) = List.range' q.2 (min (p - q.1.length) w.length) from List.ext_getElem (by simp) (fun i h1 h2 => by simp), List.mem_range'_1]
        rw [this]; omega
    · rw [List.mem_append, hm, List.mem_range'_1]; omega
  | pa f l t =>
    simp only [stepK]
    have hsub : ∀ x, x ∈ (List.replicate t ((q.1.drop f).take (l - f + 1))).flatten → x < q.2 := fun x hx => by
      obtain ⟨y, hy, hx⟩ := List.mem_flatten.mp hx
      rw [(List.mem_replicate.mp hy).2] at hx
      exact (hm x).mp (List.mem_of_mem_drop (List.mem_of_mem_take hx))
    refine ⟨fun p => ?_, fun x => ?_⟩
    · by_cases hp : p ≤ q.1.length
      · obtain ⟨m, e⟩ := h p
        exact ⟨m, fun x => by rw [List.take_append_of_le_length hp]; exact e x⟩
      · refine ⟨q.2, fun x => ?_⟩
        rw [List.take_append, List.take_of_length_le (by omega), List.mem_append, hm]
        exact ⟨fun z => z.elim id fun z => hsub x (List.mem_of_mem_take z), .inl⟩
    · rw [List.mem_append, hm]
      exact ⟨fun z => z.elim id (hsub x), .inl⟩
theorem iniS_run : ∀ (ss : List Stp) (q : List Nat × Nat), IniS q.1 → (∀ x, x ∈ q.1 ↔ x < q.2) → IniS (ss.foldl stepK q).1 ∧ ∀ x, x ∈ (ss.foldl stepK q).1 ↔ x < (ss.foldl stepK q).2
  | [], q, h, hm => ⟨h, hm⟩
  | s :: r, q, h, hm => by
    obtain ⟨a, b⟩ := iniS_step (s := s) h hm
    exact iniS_run r _ a b
theorem iniS_ks (ss : List Stp) : IniS (ks ss) := (iniS_run ss ([], 0) (fun p => ⟨0, by simp⟩) (by simp)).1
theorem mem_ks (ss : List Stp) (x : Nat) : x ∈ ks ss ↔ x < (tyL ss).length := by
  rw [← run_snd]; exact (iniS_run ss ([], 0) (fun p => ⟨0, by simp⟩) (by simp)).2 x
/-- how many keys stand ahead of p -/
noncomputable def few (l : List Nat) (p : Nat) : Nat := open Classical in if h : ∃ m, ∀ x, x ∈ l.take p ↔ x < m then h.choose else 0
theorem few_spec {l : List Nat} (h : IniS l) (p : Nat) : ∀ x, x ∈ l.take p ↔ x < few l p := by
  unfold few
  rw [dif_pos (h p)]
  exact (h p).choose_spec
theorem few_zero {l : List Nat} (h : IniS l) : few l 0 = 0 := by
  have := few_spec h 0
  refine Nat.eq_zero_of_not_pos fun z => ?_
  have := (this 0).mpr z
  simp at this
theorem few_step {l : List Nat} (h : IniS l) {p k : Nat} (hk : l[p]? = some k) : k ≤ few l p ∧ few l (p + 1) = if k < few l p then few l p else few l p + 1 := by
  have a := few_spec h p
  have b := few_spec h (p + 1)
  have e : l.take (p + 1) = l.take p ++ [k] := take_snoc hk
  have b' : ∀ x, x < few l (p + 1) ↔ x < few l p ∨ x = k := fun x => by rw [← b, e, List.mem_append, a, List.mem_singleton]
  have h1 : k < few l (p + 1) := (b' k).mpr (.inr rfl)
  have h2 : k ≤ few l p := by
    rcases Nat.lt_or_ge (few l p) k with z | z
    · have := (b' (few l p)).mp (by omega); omega
    · exact z
  refine ⟨h2, ?_⟩
  split
  · rename_i z
    refine Nat.le_antisymm ?_ ?_
    · rcases Nat.lt_or_ge (few l p) (few l (p + 1)) with y | y
      · have := (b' (few l p)).mp y; omega
      · exact y
    · rcases Nat.lt_or_ge (few l (p + 1)) (few l p) with y | y
      · have := (b' (few l (p + 1))).mpr (.inl y); omega
      · exact y
  · rename_i z
    have ek : k = few l p := by omega
    refine Nat.le_antisymm ?_ (by omega)
    rcases Nat.lt_or_ge (few l p + 1) (few l (p + 1)) with y | y
    · have := (b' (few l p + 1)).mp y; omega
    · exact y
theorem few_le {l : List Nat} (h : IniS l) (p : Nat) : few l p ≤ p := by
  induction p with
  | zero => rw [few_zero h]; exact Nat.le_refl _
  | succ p ih =>
    cases e : l[p]? with
    | none =>
      have a := few_spec h p
      have b := few_spec h (p + 1)
      have hl : l.length ≤ p := List.getElem?_eq_none_iff.mp e
      rw [List.take_of_length_le hl] at a
      rw [List.take_of_length_le (by omega)] at b
      rcases Nat.lt_or_ge (few l p) (few l (p + 1)) with y | y
      · have := (a _).mp ((b _).mpr y); omega
      · omega
    | some k =>
      have := (few_step h e).2
      split at this <;> omega
/-- the dict 0: 0, 1: 1, .. -/
def kvI (m : Nat) : List (Key × V) := (List.range m).map fun (k : Nat) => ((Sum.inl (k : Int) : Key), V.int (k : Nat))
theorem kvI_len (m : Nat) : (kvI m).length = m := by simp [kvI]
theorem kvI_val (m k : Nat) : valV (kvI m) (Sum.inl (k : Int) : Key) = if k < m then some (.int (k : Nat)) else none := by
  unfold valV kvI
  induction m with
  | zero => rfl
  | succ m ih =>
    rw [List.range_succ, List.map_append, List.find?_append]
    by_cases h : k < m
    · rw [if_pos h] at ih
      rw [if_pos (by omega)]
      cases e : (List.find? (fun kv => decide (kv.1 = (Sum.inl (k : Int) : Key))) ((List.range m).map fun (k : Nat) => ((Sum.inl (k : Int) : Key), V.int (k : Nat)))) with
      | none => rw [e] at ih; cases ih
      | some y => rw [e] at ih; simpa using ih
    · rw [if_neg h] at ih
      have e : (List.find? (fun kv => decide (kv.1 = (Sum.inl (k : Int) : Key))) ((List.range m).map fun (k : Nat) => ((Sum.inl (k : Int) : Key), V.int (k : Nat)))) = none := by
        cases e : (List.find? (fun kv => decide (kv.1 = (Sum.inl (k : Int) : Key))) ((List.range m).map fun (k : Nat) => ((Sum.inl (k : Int) : Key), V.int (k : Nat)))) with
        | none => rfl
        | some y => rw [e] at ih; cases ih
      rw [e]
      by_cases hk : k = m
      · subst hk; simp
      · rw [if_neg (by omega)]
        have : ¬ ((m : Int) = (k : Int)) := by omega
        simp [this]
theorem kvI_put (m : Nat) : putK (kvI m) (Sum.inl (m : Int) : Key) (.int (m : Nat)) = kvI (m + 1) := by
  rw [putK_new _ (by rw [kvI_val, if_neg (Nat.lt_irrefl _)])]
  unfold kvI
  rw [List.range_succ, List.map_append]; rfl
section
variable {J : It} {n : Nat} {it : Nat → V} {H1 : Hp} {tt : TT} {te : TE} {vs : List Nat} {σ : St} {D : Addr} {Qd : Hp → Prop} {j : Nat}
/-- [f x for x in ..], the elements change the heap: Ps i holds behind i turns -/
theorem lc_sti (Ps : Nat → Hp → Prop) (P : ∀ i H, Ps i H → Plain J n it H) (h0 : Ps 0 (upd H1 D (.lst []))) (hn : n ≤ sizeLine) (hj : ∀ v, wipe ((wipe σ vs).set j (some v)) vs = wipe σ vs) (f : Nat → V)
    (hput : ∀ i H ys zs, Ps i H → H D = some (.lst ys) → Ps i (upd H D (.lst zs)))
    (hs : ∀ i H ys (Q : VK), i < n → Ps i H → H D = some (.lst ys) → (∀ H', Ps (i + 1) H' → H' D = some (.lst ys) → Q (f i) H') → te ((wipe σ vs).set j (some (it i))) H Q)
    (hd : ∀ H, Ps n H → H D = some (.lst ((List.range n).map f)) → Qd H) : LcW J (gName j) tYes te vs σ H1 D Qd := by
  refine ⟨fun i m H => m = n - i ∧ i ≤ n ∧ Ps i H ∧ H D = some (.lst ((List.range i).map f)), ⟨_, rfl, Nat.zero_le _, h0, upd_same⟩, ?_⟩
  rintro i m H ⟨rfl, hi, S, eD⟩
  have PP := P i H S
  by_cases hlt : i < n
  · refine .inr ⟨PP.go i H (Same.refl _) hlt, fun H' => i + 1 ≤ n ∧ Ps (i + 1) H' ∧ H' D = some (.lst ((List.range (i + 1)).map f)), fun H' z => ⟨n - (i + 1), by omega, rfl, z⟩, fun x H' y => ?_⟩
    obtain ⟨e1, e2⟩ := PP.yld i H x H' (Same.refl _) hlt y
    subst e1 e2
    refine ⟨hj _, ?_⟩
    refine rd_yes (iteT ?_)
    refine hs i H' _ _ hlt S eD fun H2 S2 e2 => ⟨_, e2, by rw [List.length_map, List.length_range]; omega, hlt, hput _ _ _ _ S2 e2, ?_⟩
    rw [upd_same, List.range_succ, List.map_append]
    rfl
  · have e : i = n := by omega
    subst e
    exact .inl ⟨PP.stop H (Same.refl _), hd H S eD⟩
end
theorem ls_len {ss : List Stp} (ok : okFrom 0 ss) : (ls ss).length = sz ss := by unfold ls; rw [List.length_map, ks_len ok]
theorem ls_at {ss : List Stp} (ok : okFrom 0 ss) {p : Nat} (h : p < sz ss) : (ls ss)[p]? = some (lat ss (kat ss p)) := by
  unfold ls
  rw [List.getElem?_map, kat_some ok h]; rfl
theorem ls_cut {ss : List Stp} (ok : okFrom 0 ss) {i e : Nat} (h1 : i ≤ e) (h2 : e ≤ sz ss) : ((ls ss).take e).drop i = (List.range (e - i)).map fun j => lat ss (kat ss (i + j)) := by
  apply List.ext_getElem?
  intro j
  rw [List.getElem?_drop, List.getElem?_take, List.getElem?_map]
  by_cases h : j < e - i
  · rw [if_pos (by omega), List.getElem?_range h, ls_at ok (by omega)]; rfl
  · rw [if_neg (by omega), List.getElem?_eq_none (by rw [List.length_range]; omega)]; rfl
section
variable {K : PySem.W.Frag} {CT CP : Addr} {H H' : Hp} {Q : VK} {E : XK} {a b l D : Addr} {ss : List Stp} {i j : Int} {L : List Nat}
theorem rd_dsetd {td ty tx : TE} {σ : St} (h : td σ H fun x H1 => ∃ a, x = .ref a ∧ IsD H1 a ∧ ty σ H1 fun y H2 => tx σ H2 fun z H3 => ∃ (kvs : List (Key × V)) (k : Key), H3 a = some (.dK kvs) ∧ y = kV k ∧ kvs.length < sizeLine ∧
  (∀ v, valV kvs k = some v → Q v H3) ∧ (valV kvs k = none → Q z (upd H3 a (.dK (putK kvs k z))))) : tDSetd td ty tx σ H Q := h
def rLenD : List V → Hp → VK → Prop := fun xs H Q => ∃ a kvs, xs = [V.ref a] ∧ H a = some (.dK kvs) ∧ Q (.int kvs.length) H
theorem lenD {X : Cx} : CallR X (.builtin "len") rLenD := call_lenD
variable (K CT CP)
def sp_key_row : Sp := fun vs H Q _ => ∃ a ss, ∃ m : Nat, vs = [.ref a, .int m] ∧ TX K CT CP H a ss ∧ sz ss ≤ m ∧ m ≤ 2000 ∧ ∀ H' l, Same H H' → H' l = some (.lst (natV (ks ss))) → Q (.ref l) H'
def sp_tie_pattern : Sp := fun vs H Q _ => ∃ a ss, vs = [.ref a] ∧ TX K CT CP H a ss ∧ sz ss ≤ 2000 ∧ ∀ H' l, Same H H' → H' l = some (.lst (natV (ks ss))) → Q (.ref l) H'
variable {K CT CP}
theorem rd_keyRow (h : TX K CT CP H a ss) (hz : sz ss ≤ 2000) (q : ∀ l H', Same H H' → H' l = some (.lst (natV (ks ss))) → Q (.ref l) H') : sp_key_row K CT CP ([.ref a] ++ [.int 2000]) H Q E := ⟨a, ss, 2000, rfl, h, hz, by decide, fun H' l S e => q l H' S e⟩
theorem rd_tieP (h : TX K CT CP H a ss) (hz : sz ss ≤ 2000) (q : ∀ l H', Same H H' → H' l = some (.lst (natV (ks ss))) → Q (.ref l) H') : sp_tie_pattern K CT CP [.ref a] H Q E := ⟨a, ss, rfl, h, hz, fun H' l S e => q l H' S e⟩
theorem rd_between (h : TX K CT CP H a ss) (h1 : 0 ≤ i) (h2 : i ≤ j + 1) (h3 : j + 1 ≤ sz ss) (h4 : j + 1 ≤ i + 1000) (q : ∀ H', Same H H' → Q (.str (mkS (((ls ss).take (j + 1).toNat).drop i.toNat))) H') : sp_letters_between K CT CP [.ref a, .int i, .int j] H Q E :=
  ⟨a, ss, i.toNat, (j + 1).toNat, by rw [Int.toNat_of_nonneg h1, Int.toNat_of_nonneg (by omega), Int.add_sub_cancel], h, by omega, by omega, by omega, q⟩
end
end L2.Px

set_option Elab.async false
set_option linter.all false
set_option maxRecDepth 100000
set_option maxHeartbeats 1000000
/-! the mathematics of sums and multiples, place by place -/
namespace L2.Px
open PySem PySem.Spec PyProof.Rows StX TL
theorem mv_mv (n m : Nat) (s : Stp) : mv n (mv m s) = mv (m + n) s := by
  cases s with
  | wr w => rfl
  | pa f l t => simp only [mv]; congr 1 <;> omega
theorem mv_zero (s : Stp) : mv 0 s = s := by cases s <;> rfl
theorem join_assoc (a b c : List Stp) : joinS (joinS a b) c = joinS a (joinS b c) := by
  have e := sz_join a b
  unfold joinS at *
  rw [e, List.map_append, List.append_assoc, List.map_map]
  congr 2
  refine List.map_congr_left fun s _ => ?_
  simp only [Function.comp]
  rw [mv_mv, Nat.add_comm]
theorem join_nil (a : List Stp) : joinS a [] = a := by simp [joinS]
theorem nil_join (a : List Stp) : joinS [] a = a := by
  unfold joinS
  rw [List.nil_append]
  have : a.map (mv (sz [])) = a.map id := List.map_congr_left fun s _ => mv_zero s
  rw [this, List.map_id]
theorem mul_one (a : List Stp) : mulS a 1 = a := if_pos (.inl rfl)
section
variable {a b : List Stp}
theorem join_ok' (ha : okFrom 0 a) (hb : okFrom 0 b) (hz : sz a + sz b ≤ 1000000000000000000) : okFrom 0 (joinS a b) := ok_join ha hb hz
theorem cn_join_low (b : List Stp) (ha : okFrom 0 a) {p k : Nat} (hp : p ≤ sz a) : cn (joinS a b) p k = cn a p k := by
  unfold cn
  rw [ks_join b ha, List.take_append_of_le_length (by rw [ks_len ha]; exact hp)]
theorem cn_key_none {a : List Stp} {p k : Nat} (h : (tyL a).length ≤ k) : cn a p k = 0 := by
  unfold cn
  exact List.count_eq_zero.mpr fun z => by have := ks_lt (List.mem_of_mem_take z); omega
theorem cn_join_high (ha : okFrom 0 a) (x k : Nat) : cn (joinS a b) (sz a + x) k = if k < (tyL a).length then cn a (sz a) k else cn b x (k - (tyL a).length) := by
  unfold cn
  rw [ks_join b ha, List.take_append, List.take_of_length_le (l := ks a) (by rw [ks_len ha]; omega), List.count_append, ks_len ha, Nat.add_sub_cancel_left, ← List.map_take, count_shift, List.take_of_length_le (l := ks a) (i := sz a) (by rw [ks_len ha]; exact Nat.le_refl _)]
  by_cases h : k < (tyL a).length
  · rw [if_pos h, if_neg (by omega), Nat.add_zero]
  · rw [if_neg h, if_pos (by omega), List.count_eq_zero.mpr fun z => h (ks_lt z), Nat.zero_add]
theorem kcs_join' (ha : okFrom 0 a) {low high : Nat} (hl : low ≤ sz a) : kcs (joinS a b) low (sz a + high) = kcs a low (sz a) ++ kcs b 0 high := by
  unfold kcs
  rw [tyL_join, List.length_append, List.range_add, List.map_append, List.map_map]
  congr 1
  · refine List.map_congr_left fun k hk => ?_
    rw [cn_join_high ha, if_pos (List.mem_range.mp hk), cn_join_low b ha hl]
  · refine List.map_congr_left fun k hk => ?_
    simp only [Function.comp]
    rw [cn_join_high ha, if_neg (by omega), cn_join_low b ha hl, cn_key_none (a := a) (by omega), cn_zero, Nat.add_sub_cancel_left]
theorem kat_join_high (ha : okFrom 0 a) (hb : okFrom 0 b) {x : Nat} (hx : x < sz b) : kat (joinS a b) (sz a + x) = (tyL a).length + kat b x := by
  unfold kat
  rw [ks_join b ha, List.getElem?_append_right (by rw [ks_len ha]; omega), ks_len ha, Nat.add_sub_cancel_left, List.getElem?_map, kat_some hb hx]
  simp [Nat.add_comm]
theorem lat_join_low (b : List Stp) {k : Nat} (h : k < (tyL a).length) : lat (joinS a b) k = lat a k := by
  unfold lat; rw [tyL_join, List.getElem?_append_left h]
theorem lat_join_high (a b : List Stp) (k : Nat) : lat (joinS a b) ((tyL a).length + k) = lat b k := by
  unfold lat; rw [tyL_join, List.getElem?_append_right (by omega), Nat.add_sub_cancel_left]
theorem ls_join (b : List Stp) (ha : okFrom 0 a) : ls (joinS a b) = ls a ++ ls b := by
  unfold ls
  rw [ks_join b ha, List.map_append, List.map_map]
  congr 1
  · exact List.map_congr_left fun k hk => lat_join_low b (ks_lt hk)
  · refine List.map_congr_left fun k _ => ?_
    simp only [Function.comp]
    rw [Nat.add_comm, lat_join_high]
theorem ls_join_cut (b : List Stp) (ha : okFrom 0 a) {low high : Nat} (hl : low ≤ sz a) : ((ls (joinS a b)).take (sz a + high)).drop low = ((ls a).take (sz a)).drop low ++ ((ls b).take high).drop 0 := by
  rw [ls_join b ha, List.take_append, List.take_of_length_le (l := ls a) (by rw [ls_len ha]; omega), ls_len ha, Nat.add_sub_cancel_left, List.drop_append_of_le_length (by rw [ls_len ha]; exact hl), List.take_of_length_le (l := ls a) (i := sz a) (by rw [ls_len ha]; exact Nat.le_refl _), List.drop_zero]
theorem nxt_join (ha : okFrom 0 a) (hb : okFrom 0 b) (hz : sz a + sz b ≤ 1000000000000000000) (k n : Nat) : nxt (joinS a b) ((tyL a).length + k) n = (nxt b k n).map (sz a + ·) := by
  have key : ∀ x, cn (joinS a b) (sz a + x) ((tyL a).length + k) = cn b x k := fun x => by rw [cn_join_high ha, if_neg (by omega), Nat.add_sub_cancel_left]
  cases h : nxt b k n with
  | none =>
    rw [nxt_none]; rfl
    rw [sz_join, key]
    rcases Nat.lt_or_ge n (cn b (sz b) k) with z | z
    · obtain ⟨q, hq⟩ := nth_ex hb z
      rw [nxt_some hq] at h; cases h
    · exact z
  | some q =>
    have hq := nxt_spec h
    show _ = some (sz a + q)
    refine nxt_some ⟨by rw [sz_join]; have := hq.1; omega, ?_, ?_⟩
    · have := hq.2.1
      rw [tot_one] at this ⊢
      rw [key]; exact this
    · have := hq.2.2
      rw [tot_one] at this ⊢
      rw [Nat.add_assoc, key]; exact this
/-! multiples -/
theorem ls_mul {n : Nat} (ha : okFrom 0 a) (hn : 1 ≤ n) : ls (mulS a n) = (List.replicate n (ls a)).flatten := by
  unfold ls
  rw [ks_mul ha hn, List.map_flatten, List.map_replicate]
  have : lat (mulS a n) = lat a := funext fun k => by unfold lat; rw [tyL_mul]
  rw [this]
end
end L2.Px
namespace L2.Px
open PySem PySem.Spec PyProof.Rows StX TL
def sp_x_law_are_parts (K : PySem.W.Frag) (CT CP : Addr) : Sp := fun vs H Q _ => ∃ r a b ss tt, vs = [.ref r, .ref a, .ref b] ∧ RowAt K H r ∧ TX K CT CP H a ss ∧ TX K CT CP H b tt ∧ 1 ≤ sz ss ∧ 1 ≤ sz tt ∧ sz ss + sz tt ≤ 1000 ∧ ss.length + tt.length ≤ 30 ∧ ∀ H', Kp H H' → RowAt K H' r → Q (.bl true) H'
def sp_x_law_is_repeated (K : PySem.W.Frag) (CT CP : Addr) : Sp := fun vs H Q _ => ∃ r a ss, ∃ n : Nat, vs = [.ref r, .ref a, .int n] ∧ RowAt K H r ∧ TX K CT CP H a ss ∧ 1 ≤ sz ss ∧ sz ss ≤ 200 ∧ ss.length ≤ 20 ∧ 1 ≤ n ∧ n ≤ 4 ∧ ∀ H', Kp H H' → RowAt K H' r → Q (.bl true) H'
section
variable {K : PySem.W.Frag} {CT CP : Addr} {H H' : Hp} {Q : VK} {E : XK} {a b r : Addr} {ss tt : List Stp} {i j : Int}
theorem rd_areParts (row : RowAt K H r) (h : TX K CT CP H a ss) (g : TX K CT CP H b tt) (h1 : 1 ≤ sz ss) (h2 : 1 ≤ sz tt) (h3 : sz ss + sz tt ≤ 1000) (h4 : ss.length + tt.length ≤ 30) (q : ∀ H', Kp H H' → RowAt K H' r → Q (.bl true) H') : sp_x_law_are_parts K CT CP [.ref r, .ref a, .ref b] H Q E :=
  ⟨r, a, b, ss, tt, rfl, row, h, g, h1, h2, h3, h4, q⟩
theorem rd_isRep (row : RowAt K H r) (h : TX K CT CP H a ss) (h1 : 1 ≤ sz ss) (h2 : sz ss ≤ 200) (h3 : ss.length ≤ 20) (h4 : 1 ≤ i) (h5 : i ≤ 4) (q : ∀ H', Kp H H' → RowAt K H' r → Q (.bl true) H') : sp_x_law_is_repeated K CT CP [.ref r, .ref a, .int i] H Q E :=
  ⟨r, a, ss, i.toNat, by rw [Int.toNat_of_nonneg (by omega)], row, h, h1, h2, h3, by omega, by omega, q⟩
theorem rd_addCC {x y : List Nat} (hz : x.length + y.length ≤ 16777216) (q : Q (.str (mkS (x ++ y))) H) : rAddA K (.str (mkS x)) (.str (mkS y)) H Q := rd_add_str (by rw [mkS_len, mkS_len, sizeLine_eq]; exact hz) (by rw [mkS_app]; exact q)
end
end L2.Px
namespace L2.Px
open PySem PySem.Spec PyProof.Rows StX TL
/-- the places of k from f on -/
def plsF (ss : List Stp) (k f n : Nat) : List Nat := (List.range n).filter fun p => decide (kat ss p = k) && decide (f ≤ p)
theorem plsF_spec {ss : List Stp} (ok : okFrom 0 ss) (k f : Nat) : ∀ n, n ≤ sz ss → (plsF ss k f n).length = cn ss n k - cn ss f k ∧ ∀ j p, (plsF ss k f n)[j]? = some p → IsNth ss [k] (cn ss f k + j) p
  | 0, _ => ⟨by simp [plsF, cn_zero], fun j p h => by simp [plsF] at h⟩
  | n + 1, h => by
    obtain ⟨h1, h2⟩ := plsF_spec ok k f n (by omega)
    have e := cn_succ ok (show n < sz ss by omega) k
    have ee : plsF ss k f (n + 1) = plsF ss k f n ++ if kat ss n = k ∧ f ≤ n then [n] else [] := by
      unfold plsF
      rw [List.range_succ, List.filter_append]
      congr 1
      by_cases a : kat ss n = k <;> by_cases b : f ≤ n <;> simp [a, b]
    rw [ee]
    by_cases hc : kat ss n = k ∧ f ≤ n
    · rw [if_pos hc]
      rw [if_pos hc.1] at e
      have m := cn_mono ss k hc.2
      refine ⟨by rw [List.length_append, h1, e]; simp; omega, fun j p hj => ?_⟩
      by_cases hl : j < (plsF ss k f n).length
      · rw [List.getElem?_append_left hl] at hj
        exact h2 j p hj
      · rw [List.getElem?_append_right (by omega)] at hj
        have hj0 : j - (plsF ss k f n).length = 0 := by
          rcases Nat.eq_zero_or_pos (j - (plsF ss k f n).length) with z | z
          · exact z
          · rw [List.getElem?_eq_none (by simp; omega)] at hj; cases hj
        rw [hj0] at hj
        cases hj
        refine ⟨by omega, ?_, ?_⟩
        · rw [tot_one]; omega
        · rw [tot_one]; omega
    · rw [if_neg hc, List.append_nil]
      refine ⟨?_, h2⟩
      rw [h1, e]
      by_cases a : kat ss n = k
      · have hn : n < f := by
          rcases Nat.lt_or_ge n f with z | z
          · exact z
          · exact absurd ⟨a, z⟩ hc
        have := cn_mono ss k (show n + 1 ≤ f from hn)
        rw [if_pos a] at e ⊢
        omega
      · rw [if_neg a, Nat.add_zero]
theorem IsPl.eq {ss : List Stp} {k f : Nat} {L : List Nat} (ok : okFrom 0 ss) (h : IsPl ss k f L) : L = (plsF ss k f (sz ss)).take 100 := by
  obtain ⟨h1, h2⟩ := plsF_spec ok k f (sz ss) (Nat.le_refl _)
  have hlt : L.length ≤ cn ss (sz ss) k - cn ss f k := by
    rcases Nat.eq_zero_or_pos L.length with z | z
    · omega
    · have := nth_lt (h.nth (L.length - 1) (by omega))
      rw [tot_one] at this
      omega
  have hl := h.le
  have hlen : ((plsF ss k f (sz ss)).take 100).length = L.length := by
    rw [List.length_take, h1]
    have := h.all
    omega
  apply List.ext_getElem hlen.symm
  intro j a b
  have e1 := h.nth j a
  rw [List.getElem?_eq_getElem a] at e1
  have hj : j < (plsF ss k f (sz ss)).length := by rw [hlen] at b; rw [h1]; omega
  have e2 := h2 j _ (List.getElem?_eq_getElem hj)
  rw [List.getElem_take]
  exact nth_unique e1 e2
theorem cutV_to (xs : List V) (j : Nat) : cutV xs none (some (j : Nat)) = xs.take j := by
  unfold cutV
  rw [HT.sIx_none, HT.sIx_nat]
  simp only [List.drop_zero, Nat.sub_zero]
  rcases Nat.le_total j xs.length with h | h
  · rw [Nat.min_eq_left h]
  · rw [Nat.min_eq_right h, List.take_of_length_le (Nat.le_refl _), List.take_of_length_le h]
theorem natV_take (L : List Nat) (n : Nat) : (natV L).take n = natV (L.take n) := by unfold natV; rw [List.map_take]
theorem rd_slNto {K : PySem.W.Frag} {H : Hp} {Q : VK} {a : Addr} {L : List Nat} {j : Nat} (h : H a = some (.lst (natV L))) (q : ∀ p H', Same H H' → H' p = some (.lst (natV (L.take j))) → Q (.ref p) H') : rSlL K (.ref a) none (some (j : Nat)) H Q :=
  rd_slL (SqL.of h) fun p hp => q p _ (Same.new (Same.refl _) hp) (by rw [upd_same, cutV_to, natV_take])
/-- the places in a multiple -/
theorem kat_mulS {a : List Stp} {n t x : Nat} (ha : okFrom 0 a) (hn : 1 ≤ n) (ht : t < n) (hx : x < sz a) : kat (mulS a n) (t * sz a + x) = kat a x := by
  unfold kat
  rw [ks_mul ha hn]
  have hl := ks_len ha
  rw [flat_rep_get (by omega) n _ (by
    rw [hl]
    have : (t + 1) * sz a ≤ n * sz a := Nat.mul_le_mul_right _ ht
    rw [Nat.succ_mul] at this; omega), hl, Nat.mul_comm, Nat.mul_add_mod, Nat.mod_eq_of_lt hx]
theorem range_mul_filter {a : List Stp} {n k : Nat} (ha : okFrom 0 a) (hn : 1 ≤ n) : ∀ t, t ≤ n → (List.range (t * sz a)).filter (fun p => decide (kat (mulS a n) p = k)) ++ (if t < n then ((List.range (sz a)).filter fun x => decide (kat a x = k)).map (t * sz a + ·) else []) = (List.range ((if t < n then t + 1 else t) * sz a)).filter fun p => decide (kat (mulS a n) p = k) := by
  intro t ht
  by_cases h : t < n
  · rw [if_pos h, if_pos h, Nat.succ_mul, List.range_add, List.filter_append]
    congr 1
    rw [List.filter_map]
    congr 1
    refine List.filter_congr fun x hx => ?_
    simp only [Function.comp]
    rw [kat_mulS ha hn h (List.mem_range.mp hx)]
  · rw [if_neg h, if_neg h, List.append_nil]
end L2.Px
namespace L2.Px
open PySem PySem.Spec PyProof.Rows StX TL
section
variable {K : PySem.W.Frag} {CT CP : Addr} {H H' H1 : Hp} {a b D r : Addr} {ss : List Stp} {as : List Addr} {o : HO} {xs : List V}
/-- a text stands where a list of texts is written -/
theorem TX.butL (h : TX K CT CP H a ss) (hD : H D = some (.lst (as.map V.ref))) (ht : ∀ b ∈ as, InsA H b CT) (hne : CT ≠ CP) (hs : ss ≠ []) : TX K CT CP (upd H D o) a ss := by
  obtain ⟨t, T, rfl⟩ := h
  have B : But D H (upd H D o) := But.at But.refl
  have f := free1_lst hD
  have npl : t.pl ≠ D := fun z => by
    have e := T.pls
    rw [z, hD] at e
    have e : as.map V.ref = t.ps := HO.lst.inj (Option.some.inj e)
    have hl := T.prt.1
    have h0 : 0 < t.ss.length := List.length_pos_iff.mpr hs
    obtain ⟨v, e1, e2⟩ := T.prt.2 0 _ (List.getElem?_eq_getElem h0)
    obtain ⟨p, dx, n, ty, f, l, rfl, ep⟩ := e2.start
    rw [← e, List.getElem?_map] at e1
    obtain ⟨c, hc, ec⟩ := Option.map_eq_some_iff.mp e1
    rw [V.ref.inj ec] at hc
    obtain ⟨dx', fs', ei⟩ := ht p (List.mem_of_getElem? hc)
    rw [ei] at ep
    cases ep
    exact hne rfl
  exact ⟨t, ⟨B _ _ (fun z => by have := T.ins; rw [z, hD] at this; cases this) T.ins, B.tup f T.made, B.steps f T.stp, B _ _ npl T.pls, T.prt.but B (fun dx fs z => by rw [hD] at z; cases z), T.ok, T.few⟩, rfl⟩
theorem InsA.butL {C : Addr} (h : InsA H b C) (hD : H D = some (.lst (as.map V.ref))) : InsA (upd H D o) b C := by
  obtain ⟨dx, fs, e⟩ := h
  exact ⟨dx, fs, by rw [upd_ne fun z => by rw [z, hD] at e; cases e]; exact e⟩
theorem RowAt.butL (h0 : RowAt K H1 r) (hk : Kp H1 H) (h1 : H1 D = none) (h : RowAt K H r) (hD : H D = some (.lst xs)) : RowAt K (upd H D o) r := by
  obtain ⟨sa, sc, i, s, e, h2, h3⟩ := h.ex
  obtain ⟨sa', sc', i', s', e', h2', h3'⟩ := h0.ex
  obtain ⟨i2, s2, e2, h2''⟩ := hk.rows _ _ _ _ _ h2'
  rw [h2] at h2''
  have esa : sa = sa' := by cases h2''; rfl
  subst esa
  have nr : r ≠ D := fun z => by rw [z, h1] at h2'; cases h2'
  rcases h3' with z' | z'
  · have ns : sa ≠ D := fun y => by subst y; rcases z' with z' | ⟨o', z'⟩ <;> rw [h1] at z' <;> cases z'
    refine ⟨sa, sc, i, s, e, by rw [upd_ne nr]; exact h2, ?_⟩
    rcases h3 with (z | ⟨o', z⟩) | z
    · exact .inl (.inl (by rw [upd_ne ns]; exact z))
    · exact .inl (.inr ⟨o', by rw [upd_ne ns]; exact z⟩)
    · exact .inr z
  · exact ⟨sa, sc', i, s, e, by rw [upd_ne nr]; exact h2, .inr z'⟩
end
section
variable {J : It} {n : Nat} {it : Nat → V} {K : PySem.W.Frag} {CT CP : Addr} {H1 : Hp} {te : TE} {vs : List Nat} {σ : St} {D r : Addr} {Qd : Hp → Prop} {j : Nat}
/-- [text for x in ..], drawn from the row -/
theorem lc_texts (hne : CT ≠ CP) (P : ∀ H, Kp H1 H → Plain J n it H) (hD : H1 D = none) (hn : n ≤ sizeLine) (hj : ∀ v, wipe ((wipe σ vs).set j (some v)) vs = wipe σ vs) (Φ : List Stp → Prop) (hΦ : ∀ ss, Φ ss → ss ≠ []) (row : RowAt K H1 r)
    (hs : ∀ i H (Q : VK), i < n → Kp H1 H → RowAt K H r → (∀ a ss H', Kp H H' → RowAt K H' r → TX K CT CP H' a ss → Φ ss → Q (.ref a) H') → te ((wipe σ vs).set j (some (it i))) H Q)
    (hd : ∀ H (as : List Addr), Kp H1 H → RowAt K H r → H D = some (.lst (as.map V.ref)) → as.length = n → (∀ a ∈ as, ∃ ss, TX K CT CP H a ss ∧ Φ ss) → Qd H) : LcW J (gName j) tYes te vs σ H1 D Qd := by
  refine ⟨fun i m H => m = n - i ∧ i ≤ n ∧ Kp H1 H ∧ RowAt K H r ∧ ∃ as : List Addr, H D = some (.lst (as.map V.ref)) ∧ as.length = i ∧ ∀ a ∈ as, ∃ ss, TX K CT CP H a ss ∧ Φ ss,
    ⟨_, rfl, Nat.zero_le _, Kp.new Kp.refl hD, row.mono (Same.new (Same.refl _) hD), [], upd_same, rfl, fun a h => by simp at h⟩, ?_⟩
  rintro i m H ⟨rfl, hi, S, rw_, as, eD, hl, hr⟩
  have PP := P H S
  by_cases hlt : i < n
  · refine .inr ⟨PP.go i H (Same.refl _) hlt, fun H' => i + 1 ≤ n ∧ Kp H1 H' ∧ RowAt K H' r ∧ ∃ as : List Addr, H' D = some (.lst (as.map V.ref)) ∧ as.length = i + 1 ∧ ∀ a ∈ as, ∃ ss, TX K CT CP H' a ss ∧ Φ ss, fun H' z => ⟨n - (i + 1), by omega, rfl, z⟩, fun x H' y => ?_⟩
    obtain ⟨e1, e2⟩ := PP.yld i H x H' (Same.refl _) hlt y
    subst e1 e2
    refine ⟨hj _, ?_⟩
    refine rd_yes (iteT ?_)
    refine hs i H' _ hlt S rw_ fun a ss H2 k2 row2 T2 f2 => ?_
    have nl : ¬ isRow (.lst (as.map V.ref)) := nr_refs fun v hv => by obtain ⟨x, _, rfl⟩ := List.mem_map.mp hv; rfl
    have eD2 := k2 _ _ nl eD
    have ia : ∀ b ∈ as, InsA H2 b CT := fun b hb => by obtain ⟨s, t, _⟩ := hr b hb; exact (t.kp k2).insA
    refine ⟨_, eD2, by rw [List.length_map]; omega, hlt, (S.trans k2).mut hD, row.butL (S.trans k2) hD row2 eD2, as ++ [a], by rw [upd_same, List.map_append]; rfl, by simp [hl], fun b hb => ?_⟩
    rcases List.mem_append.mp hb with hb | hb
    · obtain ⟨s, t, f⟩ := hr b hb
      exact ⟨s, (t.kp k2).butL eD2 ia hne (hΦ s f), f⟩
    · rw [List.mem_singleton.mp hb]
      exact ⟨ss, T2.butL eD2 ia hne (hΦ ss f2), f2⟩
  · have e : i = n := by omega
    subst e
    exact .inl ⟨PP.stop H (Same.refl _), hd H as S rw_ eD hl hr⟩
end
end L2.Px
namespace L2.Px
open PySem PySem.Spec PyProof.Rows StX TL
/-- for k in d: .., the body makes new objects alone -/
theorem rd_lockFor {σ : St} {H : Hp} {n j : Nat} {d : Addr} {kvs : List (Key × V)} {tb : TS} {nx bk0 ct0 : St → Hp → Prop} {rt0 : VK} (Sg : St → Prop) (hn : σ[n]? = some (some (.ref d))) (hd : H d = some (.dK kvs)) (hs0 : Sg σ)
    (hb : ∀ k v σ Hl H' (N : St → Hp → Prop) (rt : VK) (bk : St → Hp → Prop), (k, v) ∈ kvs → Sg σ → But d H Hl → Same Hl H' → Rd H' d (.dK kvs) → (∀ σ2 H2, Sg σ2 → Same H' H2 → N σ2 H2) → tb ⟨N, rt, bk, N⟩ (σ.set j (some (kV k))) H')
    (hq : ∀ σ H', Sg σ → Same H H' → nx σ H') : tLock (tFor (iKeys (tVar n)) (gName j) tb) ⟨nx, rt0, bk0, ct0⟩ σ H := by
  refine ⟨d, _, hd, trivial, fun od => ?_⟩
  generalize hl : upd H d (.frz od (.dK kvs)) = Hl
  have el : Hl d = some (.frz od (.dK kvs)) := by rw [← hl]; exact upd_same
  have B : But d H Hl := by rw [← hl]; exact But.at But.refl
  refine ⟨_, hn, d, od, rfl, .inl ⟨kvs, el, ?_⟩⟩
  refine ⟨fun i m σ H' => m = kvs.length - i ∧ i ≤ kvs.length ∧ Sg σ ∧ Same Hl H', ⟨_, rfl, Nat.zero_le _, hs0, Same.refl _⟩, ?_⟩
  rintro i m σ H1 ⟨rfl, hi, sg, S⟩
  by_cases hlt : i < kvs.length
  · refine .inr ⟨⟨S _ _ el, hlt⟩, fun σ' H' => i + 1 ≤ kvs.length ∧ Sg σ' ∧ Same Hl H', fun σ' H' z => ⟨kvs.length - (i + 1), by omega, rfl, z⟩, fun x H' y => ?_⟩
    obtain ⟨e1, k, v, e2, e3⟩ := y
    subst e1 e3
    exact hb k v σ Hl H' _ _ _ (List.mem_of_getElem? e2) sg B S (.inr ⟨od, S _ _ el⟩) fun σ2 H2 s2 S2 => ⟨hlt, s2, S.trans S2⟩
  · have e : i = kvs.length := by omega
    subst e
    refine .inl ⟨⟨S _ _ el, Nat.le_refl _⟩, S _ _ el, hq σ _ sg fun b o e => ?_⟩
    by_cases hb : b = d
    · subst hb; rw [hd] at e; cases e; exact upd_same
    · rw [upd_ne hb]
      exact S _ _ (B _ _ hb e)
end L2.Px
namespace L2.Px
open PySem PySem.Spec PyProof.Rows StX TL
theorem rd_mkText0 {K : PySem.W.Frag} {CT CP : Addr} {H : Hp} {Q : VK} {E : XK} (q : ∀ x H', Same H H' → TX K CT CP H' x [] → Q (.ref x) H') : rMk CT (spStar 1 (sp_Text_init K CT CP)) E [] H Q :=
  rd_mkText (rs := []) (ss := []) StepsAt.nil trivial (by decide) fun x Hc t _ S T e => q x Hc S ⟨t, T, e⟩
theorem lsum_append : ∀ {L M L' M' : List Nat} {c : Nat}, L.length = M.length → lsum (L ++ L') (M ++ M') c = lsum L M c + lsum L' M' c := by
  intro L M L' M' c h
  unfold lsum
  rw [List.zip_append h, List.map_append, List.sum_append]
theorem lcn_join {a b : List Stp} (ha : okFrom 0 a) (hb : okFrom 0 b) (hz : sz a + sz b ≤ 1000000000000000000) (c : Nat) : lcn (joinS a b) 0 (sz a + sz b) c = lcn a 0 (sz a) c + lcn b 0 (sz b) c := by
  unfold lcn
  rw [tyL_join, kcs_join ha hb hz, lsum_append (kcs_len a 0 (sz a)).symm]
end L2.Px

set_option Elab.async false
set_option linter.all false
set_option maxRecDepth 100000
set_option maxHeartbeats 1000000
/-! enumerate(zip(..)): the zip's own tuple may still be out at each turn -/
namespace L2.Px
open PySem PySem.Spec PyProof.Rows StX TL
open Sem (wp)
abbrev ZipX (h : Heap) (z TI TO : Addr) (f0 : Value) (fb : Bool) : Prop :=
  h.get? z = some { cls := .type "zip", dict := none, data := .fields #[f0, .bool fb, .bool false, .ref TI, .ref TO], slots := #[] }
abbrev OwnW (f0 : Value) : Prop := f0 = .none ∨ ∃ T : Nat, f0 = rawInt (T : Nat)
/-- the cells of a zip between two turns -/
def ZipW (h : Heap) (z TI TO : Addr) : Prop := ∃ f0 fb, OwnW f0 ∧ ZipX h z TI TO f0 fb
section
variable {prog : Program} {w : World} {A : Around} {E : Value → Shared → Prop} {s : Shared} {z TI TO i1 i2 : Addr} {fp1 fp2 : List Addr} {n1 n2 i : Nat} {P1 P2 : Nat → Value → Prop} {St1 St2 : Nat → Heap → Prop} {a1 a2 : Value}
theorem alive_any {a : Addr} {Q : Option Obj → Shared → Prop} (h : Q (s.heap.get? a) s) : wpAny (model prog w) A (loadIfAlive a) Q E s := fun _ _ _ => h
theorem zipW_free {f0 : Value} {fb : Bool} {Q : Bool → Shared → Prop} (hf : OwnW f0) (hz : ZipX s.heap z TI TO f0 fb)
    (hy : Q true s) (hn : ∀ h', ZipX h' z TI TO f0 true → Heap.SameBut z s.heap h' → Q false { s with heap := h' }) : wpAny (model prog w) A (Builtin.SmallTypes.ownedTupleIsFree (.ref z)) Q E s := by
  rcases hf with rfl | ⟨T, rfl⟩
  · unfold Builtin.SmallTypes.ownedTupleIsFree
    exact wpAny_bind (wpAny_field hz rfl (x := .none) rfl (wpAny_pure hy))
  · cases hT : s.heap.get? T with
    | some oT => exact wpAny_tupleHeld_zip hz hT hn
    | none =>
      unfold Builtin.SmallTypes.ownedTupleIsFree
      refine wpAny_bind (wpAny_field hz rfl (x := rawInt T) rfl ?_)
      show wpAny _ _ (loadIfAlive ((T : Int).toNat) >>= _) _ _ _
      rw [Int.toNat_natCast]
      refine wpAny_bind (alive_any ?_)
      rw [hT]
      simp only [Option.isNone_none, if_true]
      exact wpAny_pure hy
theorem zipW_item {f0 : Value} {fb : Bool} {Q : Value → Shared → Prop} (S : ZipSep2 z TI TO i1 i2 fp1 fp2) (D1 : Draws prog w A i1 fp1 n1 P1 St1) (D2 : Draws prog w A i2 fp2 n2 P2 St2)
    (hf : OwnW f0) (hz : ZipX s.heap z TI TO f0 fb) (hTI : IsTupOf2 s.heap TI (.ref i1) (.ref i2)) (hTO : IsTupOf2 s.heap TO a1 a2) (st1 : St1 i s.heap) (st2 : St2 i s.heap) (hlt1 : i < n1) (hlt2 : i < n2)
    (hQ : ∀ x1 x2 h' tk, P1 i x1 → P2 i x2 → ZipW h' z TI TO → (∃ b1 b2, IsTupOf2 h' TO b1 b2) → St1 (i + 1) h' → St2 (i + 1) h' → IsTupOf2 h' s.heap.objs.size x1 x2 → h'.objs.size = s.heap.objs.size + 1 →
      (∀ c o, c ∉ [z, TO, i1, i2] → s.heap.get? c = some o → h'.get? c = some o) → Q (.ref s.heap.objs.size) { s with heap := h', toks := tk }) :
    wpAny (model prog w) A (Builtin.«zip.__next__» ⟨[.ref z], []⟩) (fun fin s' => ∃ v, fin = .done (.ret v) ∧ Q v s') E s := by
  obtain ⟨hp, g, d, tk0, os⟩ := s
  show wpAny _ _ (field (.ref z) 2 >>= _) _ _ _
  refine wpAny_bind (wpAny_field hz rfl (x := .bool false) rfl ?_)
  show wpAny _ _ (field (.ref z) 3 >>= _) _ _ _
  refine wpAny_bind (wpAny_field hz rfl (x := .ref TI) rfl ?_)
  refine wpAny_bind (wpAny_seqItems hTI rfl ?_)
  show wpAny _ _ (Builtin.SmallTypes.ownedTupleIsFree (.ref z) >>= _) _ _ _
  refine wpAny_bind (zipW_free hf hz ?_ fun m0 zm0 sm0 => ?_)
  · simp only [if_true]
    refine wpAny_bind (wpAny_rule ?_)
    refine wpAny_bind (wpAny_field hz rfl (x := .ref TO) rfl ?_)
    refine wpAny_bind (wpAny_setField_rec hz (by simp) fun m0 zm0 sm0 => ?_)
    replace zm0 : ZipX m0 z TI TO .ellipsis fb := zm0
    replace sm0 : Heap.SameBut z hp m0 := sm0
    refine wpAny_bind ?_
    simp only [List.zipIdx_cons, List.zipIdx_nil, List.forIn_cons, List.forIn_nil]
    refine wpAny_bind (wpAny_bind (wpAny_onRaise ?_))
    show wpAny _ _ (Builtin.SmallTypes.nextOf (.ref i1) >>= _) _ _ ⟨m0, g, d, tk0, os⟩
    refine wpAny_bind (D1.item i _ _ _ hlt1 (D1.over st1 sm0 S.zf1) fun x1 m1 k1 px1 q1 sm1 => wpAny_pure ?_)
    replace sm1 : Heap.SameBut i1 m0 m1 := sm1
    have u1 : IsTupOf2 m1 TO a1 a2 := sm1.extBut _ _ S.Ti1 (sm0.extBut _ _ S.TOz hTO)
    refine wpAny_bind (wpAny_seqItems (s := ⟨m1, g, d, k1, os⟩) u1 rfl ?_)
    refine wpAny_bind (updateSeq_IsTupOf2 (s := ⟨m1, g, d, k1, os⟩) u1 fun m2 u2 sm2 => ?_)
    replace u2 : IsTupOf2 m2 TO x1 a2 := u2
    replace sm2 : Heap.SameBut TO m1 m2 := sm2
    refine wpAny_bind (wpAny_letGo (wpAny_pure ?_))
    refine wpAny_bind (wpAny_bind (wpAny_onRaise ?_))
    show wpAny _ _ (Builtin.SmallTypes.nextOf (.ref i2) >>= _) _ _ ⟨m2, g, d, k1, os⟩
    refine wpAny_bind (D2.item i _ _ _ hlt2 (D2.over (D2.over (D2.over st2 sm0 S.zf2) sm1 S.sep1_2) sm2 S.Tf2) fun x2 m3 k2 px2 q2 sm3 => wpAny_pure ?_)
    replace sm3 : Heap.SameBut i2 m2 m3 := sm3
    have u3 : IsTupOf2 m3 TO x1 a2 := sm3.extBut _ _ S.Ti2 u2
    refine wpAny_bind (wpAny_seqItems (s := ⟨m3, g, d, k2, os⟩) u3 rfl ?_)
    refine wpAny_bind (updateSeq_IsTupOf2 (s := ⟨m3, g, d, k2, os⟩) u3 fun m4 u4 sm4 => ?_)
    replace u4 : IsTupOf2 m4 TO x1 x2 := u4
    replace sm4 : Heap.SameBut TO m3 m4 := sm4
    refine wpAny_bind (wpAny_letGo (wpAny_pure (wpAny_pure ?_)))
    refine wpAny_bind (wpAny_seqItems (s := ⟨m4, g, d, k2, os⟩) u4 rfl ?_)
    refine wpAny_bind (wpAny_newTuple ?_)
    have sz : m4.objs.size = hp.objs.size := by rw [sm4.1, sm3.1, sm2.1, sm1.1, sm0.1]
    have z4 : ZipX m4 z TI TO .ellipsis fb := sm4.extBut _ _ S.TOz.symm (sm3.extBut _ _ S.zi2 (sm2.extBut _ _ S.TOz.symm (sm1.extBut _ _ S.zi1 zm0)))
    have kp : ∀ c o, c ∉ [z, TO, i1, i2] → hp.get? c = some o → m4.get? c = some o := fun c o hc e => by
      have c1 : c ≠ z := fun q => hc (by simp [q])
      have c2 : c ≠ TO := fun q => hc (by simp [q])
      have c3 : c ≠ i1 := fun q => hc (by simp [q])
      have c4 : c ≠ i2 := fun q => hc (by simp [q])
      exact sm4.extBut _ _ c2 (sm3.extBut _ _ c4 (sm2.extBut _ _ c2 (sm1.extBut _ _ c3 (sm0.extBut _ _ c1 e))))
    have j1 : St1 (i + 1) m4 := D1.over (D1.over (D1.over q1 sm2 S.Tf1) sm3 S.sep2_1) sm4 S.Tf1
    have j2 : St2 (i + 1) m4 := D2.over q2 sm4 S.Tf2
    have zl : z < m4.objs.size := Heap.lt_size z4
    show wpAny _ _ (Builtin.SmallTypes.ownedTupleHandOut (.ref z) (.ref m4.objs.size) >>= _) _ _ ⟨m4.push { cls := .type "tuple", data := .seq #[x1, x2] }, g, d, k2, os⟩
    refine wpAny_bind ?_
    unfold Builtin.SmallTypes.ownedTupleHandOut
    have z5 : ZipX (m4.push { cls := .type "tuple", data := .seq #[x1, x2] }) z TI TO .ellipsis fb := Heap.get?_push_of_some _ z4
    refine wpAny_bind (wpAny_setField_rec z5 (by simp) fun m6 z6 sm6 => ?_)
    replace z6 : ZipX m6 z TI TO (rawInt m4.objs.size) fb := z6
    refine wpAny_setField_rec z6 (by simp) fun m7 z7 sm7 => ?_
    replace z7 : ZipX m7 z TI TO (rawInt m4.objs.size) false := z7
    replace sm6 : Heap.SameBut z (m4.push { cls := .type "tuple", data := .seq #[x1, x2] }) m6 := sm6
    replace sm7 : Heap.SameBut z m6 m7 := sm7
    have up : ∀ c o, c ≠ z → m4.get? c = some o → m7.get? c = some o := fun c o c1 e => sm7.extBut _ _ c1 (sm6.extBut _ _ c1 (Heap.get?_push_of_some _ e))
    have t7 : IsTupOf2 m7 m4.objs.size x1 x2 := sm7.extBut _ _ (Nat.ne_of_gt zl) (sm6.extBut _ _ (Nat.ne_of_gt zl) (Heap.get?_push_size _ rfl))
    have l7 : m7.objs.size = m4.objs.size + 1 := by rw [sm7.1, sm6.1, Heap.size_push]
    rw [sz] at z7 t7 l7
    refine wpAny_pure ⟨_, rfl, ?_⟩
    show Q (.ref m4.objs.size) ⟨m7, g, d, k2, os⟩
    rw [sz]
    exact hQ x1 x2 m7 k2 px1 px2 ⟨_, _, .inr ⟨_, rfl⟩, z7⟩ ⟨_, _, up _ _ S.TOz u4⟩ (D1.frame _ _ _ j1 fun b hb o e => up b o (fun q => S.zf1 (q ▸ hb)) e) (D2.frame _ _ _ j2 fun b hb o e => up b o (fun q => S.zf2 (q ▸ hb)) e) t7 l7
      fun c o hc e => up c o (fun q => hc (by simp [q])) (kp c o hc e)
  · simp only [Bool.false_eq_true, if_false]
    replace sm0 : Heap.SameBut z hp m0 := sm0
    refine wpAny_bind ?_
    rw [← Array.forIn_toList]
    simp only [List.forIn_cons, List.forIn_nil]
    refine wpAny_bind (wpAny_bind (wpAny_holding ?_))
    show wpAny _ _ (Builtin.SmallTypes.nextOf (.ref i1) >>= _) _ _ ⟨m0, g, d, tk0, os⟩
    refine wpAny_bind (D1.item i _ _ _ hlt1 (D1.over st1 sm0 S.zf1) fun x1 m1 k1 px1 q1 sm1 => wpAny_pure ?_)
    replace sm1 : Heap.SameBut i1 m0 m1 := sm1
    refine wpAny_pure ?_
    refine wpAny_bind (wpAny_bind (wpAny_holding ?_))
    show wpAny _ _ (Builtin.SmallTypes.nextOf (.ref i2) >>= _) _ _ ⟨m1, g, d, k1, os⟩
    refine wpAny_bind (D2.item i _ _ _ hlt2 (D2.over (D2.over st2 sm0 S.zf2) sm1 S.sep1_2) fun x2 m2 k2 px2 q2 sm2 => wpAny_pure ?_)
    replace sm2 : Heap.SameBut i2 m1 m2 := sm2
    refine wpAny_pure (wpAny_pure ?_)
    show wpAny _ _ (newTuple [x1, x2] >>= _) _ _ ⟨m2, g, d, k2, os⟩
    refine wpAny_bind (wpAny_newTuple ?_)
    have sz : m2.objs.size = hp.objs.size := by rw [sm2.1, sm1.1, sm0.1]
    have z2 : ZipX m2 z TI TO f0 true := sm2.extBut _ _ S.zi2 (sm1.extBut _ _ S.zi1 zm0)
    have t2 : IsTupOf2 m2 TO a1 a2 := sm2.extBut _ _ S.Ti2 (sm1.extBut _ _ S.Ti1 (sm0.extBut _ _ S.TOz hTO))
    have j1 : St1 (i + 1) m2 := D1.over q1 sm2 S.sep2_1
    refine wpAny_pure ⟨_, rfl, ?_⟩
    show Q (.ref m2.objs.size) ⟨m2.push { cls := .type "tuple", data := .seq #[x1, x2] }, g, d, k2, os⟩
    have t3 : IsTupOf2 (m2.push { cls := .type "tuple", data := .seq #[x1, x2] }) m2.objs.size x1 x2 := Heap.get?_push_size _ rfl
    have l3 : (m2.push { cls := .type "tuple", data := .seq #[x1, x2] }).objs.size = m2.objs.size + 1 := Heap.size_push ..
    rw [sz] at t3 l3 ⊢
    exact hQ x1 x2 _ k2 px1 px2 ⟨_, _, hf, Heap.get?_push_of_some _ z2⟩ ⟨_, _, Heap.get?_push_of_some _ t2⟩ (D1.frame _ _ _ j1 fun b _ o e => Heap.get?_push_of_some _ e) (D2.frame _ _ _ q2 fun b _ o e => Heap.get?_push_of_some _ e) t3 l3
      fun c o hc e => Heap.get?_push_of_some _ (sm2.extBut _ _ (fun q => hc (by simp [q])) (sm1.extBut _ _ (fun q => hc (by simp [q])) (sm0.extBut _ _ (fun q => hc (by simp [q])) e)))
theorem zipW_end {f0 : Value} {fb : Bool} {Q : Fin → Shared → Prop} (S : ZipSep2 z TI TO i1 i2 fp1 fp2) (D1 : Draws prog w A i1 fp1 n1 P1 St1) (D2 : Draws prog w A i2 fp2 n2 P2 St2)
    (hf : OwnW f0) (hz : ZipX s.heap z TI TO f0 fb) (hTI : IsTupOf2 s.heap TI (.ref i1) (.ref i2)) (hTO : IsTupOf2 s.heap TO a1 a2) (st1 : St1 i s.heap) (st2 : St2 i s.heap) (hle1 : i ≤ n1) (hle2 : i ≤ n2) (hend : i = n1 ∨ i = n2)
    (hE : ∀ h' tk e, (∀ c o, c ∉ [z, TO, i1, i2] → s.heap.get? c = some o → h'.get? c = some o) → (∃ o, h'.get? e = some o ∧ o.cls = .type "StopIteration") → E (.ref e) { s with heap := h', toks := tk }) :
    wpAny (model prog w) A (Builtin.«zip.__next__» ⟨[.ref z], []⟩) Q E s := by
  obtain ⟨hp, g, d, tk0, os⟩ := s
  show wpAny _ _ (field (.ref z) 2 >>= _) _ _ _
  refine wpAny_bind (wpAny_field hz rfl (x := .bool false) rfl ?_)
  show wpAny _ _ (field (.ref z) 3 >>= _) _ _ _
  refine wpAny_bind (wpAny_field hz rfl (x := .ref TI) rfl ?_)
  refine wpAny_bind (wpAny_seqItems hTI rfl ?_)
  show wpAny _ _ (Builtin.SmallTypes.ownedTupleIsFree (.ref z) >>= _) _ _ _
  refine wpAny_bind (zipW_free hf hz ?_ fun m0 zm0 sm0 => ?_)
  · simp only [if_true]
    refine wpAny_bind (wpAny_rule ?_)
    refine wpAny_bind (wpAny_field hz rfl (x := .ref TO) rfl ?_)
    refine wpAny_bind (wpAny_setField_rec hz (by simp) fun m0 zm0 sm0 => ?_)
    replace zm0 : ZipX m0 z TI TO .ellipsis fb := zm0
    replace sm0 : Heap.SameBut z hp m0 := sm0
    refine wpAny_bind ?_
    simp only [List.zipIdx_cons, List.zipIdx_nil, List.forIn_cons, List.forIn_nil]
    refine wpAny_bind (wpAny_bind (wpAny_onRaise ?_))
    show wpAny _ _ (Builtin.SmallTypes.nextOf (.ref i1) >>= _) _ _ ⟨m0, g, d, tk0, os⟩
    by_cases hlt1 : i < n1
    · refine wpAny_bind (D1.item i _ _ _ hlt1 (D1.over st1 sm0 S.zf1) fun x1 m1 k1 px1 q1 sm1 => wpAny_pure ?_)
      replace sm1 : Heap.SameBut i1 m0 m1 := sm1
      have u1 : IsTupOf2 m1 TO a1 a2 := sm1.extBut _ _ S.Ti1 (sm0.extBut _ _ S.TOz hTO)
      refine wpAny_bind (wpAny_seqItems (s := ⟨m1, g, d, k1, os⟩) u1 rfl ?_)
      refine wpAny_bind (updateSeq_IsTupOf2 (s := ⟨m1, g, d, k1, os⟩) u1 fun m2 u2 sm2 => ?_)
      replace sm2 : Heap.SameBut TO m1 m2 := sm2
      refine wpAny_bind (wpAny_letGo (wpAny_pure ?_))
      have hi2 : i = n2 := by omega
      refine wpAny_bind (wpAny_bind (wpAny_onRaise ?_))
      show wpAny _ _ (Builtin.SmallTypes.nextOf (.ref i2) >>= _) _ _ ⟨m2, g, d, k1, os⟩
      refine wpAny_bind (D2.done ⟨m2, g, d, k1, os⟩ _ _ (by rw [← hi2]; exact (D2.over (D2.over (D2.over st2 sm0 S.zf2) sm1 S.sep1_2) sm2 S.Tf2)) fun q e hq he => ?_)
      replace hq : Heap.ExtBut i2 m2 q := hq
      obtain ⟨oe, hoe, hce⟩ := he
      replace hoe : q.get? e = some oe := hoe
      have hzq : ZipX q z TI TO .ellipsis fb := hq _ _ S.zi2 (sm2.extBut _ _ S.TOz.symm (sm1.extBut _ _ S.zi1 zm0))
      have hez : e ≠ z := fun x => by subst x; rw [hzq] at hoe; cases hoe; simp at hce
      refine wpAny_setField_rec (s := ⟨q, g, d, k1, os⟩) hzq (by simp) fun q' _ hq' => ?_
      replace hq' : Heap.SameBut z q q' := hq'
      refine hE q' k1 e (fun c o hc x => ?_) ⟨oe, hq'.extBut _ _ hez hoe, hce⟩
      have c1 : c ≠ z := fun q => hc (by simp [q])
      have c2 : c ≠ TO := fun q => hc (by simp [q])
      have c3 : c ≠ i1 := fun q => hc (by simp [q])
      have c4 : c ≠ i2 := fun q => hc (by simp [q])
      exact hq'.extBut _ _ c1 (hq _ _ c4 (sm2.extBut _ _ c2 (sm1.extBut _ _ c3 (sm0.extBut _ _ c1 x))))
    · have hi1 : i = n1 := by omega
      refine wpAny_bind (D1.done ⟨m0, g, d, tk0, os⟩ _ _ (by rw [← hi1]; exact (D1.over st1 sm0 S.zf1)) fun q e hq he => ?_)
      replace hq : Heap.ExtBut i1 m0 q := hq
      obtain ⟨oe, hoe, hce⟩ := he
      replace hoe : q.get? e = some oe := hoe
      have hzq : ZipX q z TI TO .ellipsis fb := hq _ _ S.zi1 zm0
      have hez : e ≠ z := fun x => by subst x; rw [hzq] at hoe; cases hoe; simp at hce
      refine wpAny_setField_rec (s := ⟨q, g, d, tk0, os⟩) hzq (by simp) fun q' _ hq' => ?_
      replace hq' : Heap.SameBut z q q' := hq'
      exact hE q' tk0 e (fun c o hc x => hq'.extBut _ _ (fun q => hc (by simp [q])) (hq _ _ (fun q => hc (by simp [q])) (sm0.extBut _ _ (fun q => hc (by simp [q])) x))) ⟨oe, hq'.extBut _ _ hez hoe, hce⟩
  · simp only [Bool.false_eq_true, if_false]
    replace sm0 : Heap.SameBut z hp m0 := sm0
    refine wpAny_bind ?_
    rw [← Array.forIn_toList]
    simp only [List.forIn_cons, List.forIn_nil]
    refine wpAny_bind (wpAny_bind (wpAny_holding ?_))
    show wpAny _ _ (Builtin.SmallTypes.nextOf (.ref i1) >>= _) _ _ ⟨m0, g, d, tk0, os⟩
    by_cases hlt1 : i < n1
    · refine wpAny_bind (D1.item i _ _ _ hlt1 (D1.over st1 sm0 S.zf1) fun x1 m1 k1 px1 q1 sm1 => wpAny_pure ?_)
      replace sm1 : Heap.SameBut i1 m0 m1 := sm1
      refine wpAny_pure ?_
      have hi2 : i = n2 := by omega
      refine wpAny_bind (wpAny_bind (wpAny_holding ?_))
      show wpAny _ _ (Builtin.SmallTypes.nextOf (.ref i2) >>= _) _ _ ⟨m1, g, d, k1, os⟩
      refine wpAny_bind (D2.done ⟨m1, g, d, k1, os⟩ _ _ (by rw [← hi2]; exact (D2.over (D2.over st2 sm0 S.zf2) sm1 S.sep1_2)) fun q e hq he => ?_)
      replace hq : Heap.ExtBut i2 m1 q := hq
      exact hE q k1 e (fun c o hc x => hq _ _ (fun q => hc (by simp [q])) (sm1.extBut _ _ (fun q => hc (by simp [q])) (sm0.extBut _ _ (fun q => hc (by simp [q])) x))) he
    · have hi1 : i = n1 := by omega
      refine wpAny_bind (D1.done ⟨m0, g, d, tk0, os⟩ _ _ (by rw [← hi1]; exact (D1.over st1 sm0 S.zf1)) fun q e hq he => ?_)
      replace hq : Heap.ExtBut i1 m0 q := hq
      exact hE q tk0 e (fun c o hc x => hq _ _ (fun q => hc (by simp [q])) (sm0.extBut _ _ (fun q => hc (by simp [q])) x)) he
theorem zipW_nextOf {Q : Value → Shared → Prop} (S : ZipSep2 z TI TO i1 i2 fp1 fp2) (D1 : Draws prog w A.in1 i1 fp1 n1 P1 St1) (D2 : Draws prog w A.in1 i2 fp2 n2 P2 St2)
    (hz : ZipW s.heap z TI TO) (hTI : IsTupOf2 s.heap TI (.ref i1) (.ref i2)) (hTO : IsTupOf2 s.heap TO a1 a2) (st1 : St1 i s.heap) (st2 : St2 i s.heap) (hlt1 : i < n1) (hlt2 : i < n2)
    (hQ : ∀ x1 x2 h' tk, P1 i x1 → P2 i x2 → ZipW h' z TI TO → (∃ b1 b2, IsTupOf2 h' TO b1 b2) → St1 (i + 1) h' → St2 (i + 1) h' → IsTupOf2 h' s.heap.objs.size x1 x2 → h'.objs.size = s.heap.objs.size + 1 →
      (∀ c o, c ∉ [z, TO, i1, i2] → s.heap.get? c = some o → h'.get? c = some o) → Q (.ref s.heap.objs.size) { s with heap := h', toks := tk }) :
    wpAny (model prog w) A (Builtin.SmallTypes.nextOf (.ref z)) Q E s := by
  obtain ⟨f0, fb, hf, hz⟩ := hz
  have hT : s.TypeIs (.ref z) "zip" := ⟨_, hz, rfl⟩
  unfold Builtin.SmallTypes.nextOf
  exact wpAny_bind (wpAny_callSpecial?_slot (name := Str.ofString "__next__") hT F.slot_zip_next
    (wpAny_call_entry F.slot_zip_next hT F.entry_zip_next
      (zipW_item S D1 D2 hf hz hTI hTO st1 st2 hlt1 hlt2 fun x1 x2 h' tk y1 y2 b1 b2 d1 d2 b5 b6 b7 => wpAny_pure (hQ x1 x2 h' tk y1 y2 b1 b2 d1 d2 b5 b6 b7)) (F.args_zip_next_1 _)))
theorem zipW_nextEnd {Q : Value → Shared → Prop} (S : ZipSep2 z TI TO i1 i2 fp1 fp2) (D1 : Draws prog w A.in1 i1 fp1 n1 P1 St1) (D2 : Draws prog w A.in1 i2 fp2 n2 P2 St2)
    (hz : ZipW s.heap z TI TO) (hTI : IsTupOf2 s.heap TI (.ref i1) (.ref i2)) (hTO : IsTupOf2 s.heap TO a1 a2) (st1 : St1 i s.heap) (st2 : St2 i s.heap) (hle1 : i ≤ n1) (hle2 : i ≤ n2) (hend : i = n1 ∨ i = n2)
    (hE : ∀ h' tk e, (∀ c o, c ∉ [z, TO, i1, i2] → s.heap.get? c = some o → h'.get? c = some o) → (∃ o, h'.get? e = some o ∧ o.cls = .type "StopIteration") → E (.ref e) { s with heap := h', toks := tk }) :
    wpAny (model prog w) A (Builtin.SmallTypes.nextOf (.ref z)) Q E s := by
  obtain ⟨f0, fb, hf, hz⟩ := hz
  have hT : s.TypeIs (.ref z) "zip" := ⟨_, hz, rfl⟩
  unfold Builtin.SmallTypes.nextOf
  exact wpAny_bind (wpAny_callSpecial?_slot (name := Str.ofString "__next__") hT F.slot_zip_next
    (wpAny_call_entry F.slot_zip_next hT F.entry_zip_next (zipW_end S D1 D2 hf hz hTI hTO st1 st2 hle1 hle2 hend hE) (F.args_zip_next_1 _)))
/-- enumerate's turn over an iterator that makes one new object of its own -/
theorem enumW_item {e : Addr} {i : Nat} {old : Value} {G : Heap → Prop} {ch : List Addr} {Q : Value → Shared → Prop} (he : IsEnum s.heap e z i old) (hec : e ∉ ch)
    (hn : ∀ Q : Value → Shared → Prop, (∀ m tk, G m → m.objs.size = s.heap.objs.size + 1 → (∀ b o, b ∉ ch → s.heap.get? b = some o → m.get? b = some o) → Q (.ref s.heap.objs.size) { s with heap := m, toks := tk }) →
      wpAny (model prog w) A (Builtin.SmallTypes.nextOf (.ref z)) Q E s)
    (hQ : ∀ m h' tk, G m → m.objs.size = s.heap.objs.size + 1 → (∀ b o, b ∉ ch → s.heap.get? b = some o → m.get? b = some o) → IsEnumOut h' e z ((i : Int) + 1) (.ref s.heap.objs.size) (s.heap.objs.size + 1) →
      h'.get? (s.heap.objs.size + 1) = some { cls := .type "tuple", data := .seq #[.int i tk, .ref s.heap.objs.size] } → h'.objs.size = s.heap.objs.size + 2 →
      (∀ b o, b ≠ e → m.get? b = some o → h'.get? b = some o) → Q (.ref (s.heap.objs.size + 1)) { s with heap := h', toks := tk + 1 }) :
    wpAny (model prog w) A (Builtin.«enumerate.__next__» ⟨[.ref e], []⟩) (fun fin s' => ∃ v, fin = .done (.ret v) ∧ Q v s') E s := by
  obtain ⟨hp, g, d, tk0, os⟩ := s
  show wpAny _ _ (field (.ref e) 2 >>= _) _ _ _
  refine wpAny_bind (wpAny_field he rfl (x := .ref z) rfl ?_)
  refine wpAny_bind (hn _ fun m tk Gm lm km => ?_)
  replace lm : m.objs.size = hp.objs.size + 1 := lm
  replace km : ∀ b o, b ∉ ch → hp.get? b = some o → m.get? b = some o := km
  have e1 : IsEnum m e z i old := km _ _ hec he
  have el : e < hp.objs.size := Heap.lt_size he
  generalize hx : Value.ref (Shared.mk hp g d tk0 os).heap.objs.size = x
  show wpAny _ _ (field (.ref e) 3 >>= _) _ _ ⟨m, g, d, tk, os⟩
  refine wpAny_bind (wpAny_field e1 rfl (x := rawInt i) rfl ?_)
  show wpAny _ _ (field (.ref e) 4 >>= _) _ _ ⟨m, g, d, tk, os⟩
  refine wpAny_bind (wpAny_field e1 rfl (x := .none) rfl ?_)
  show wpAny _ _ (mkInt i >>= _) _ _ ⟨m, g, d, tk, os⟩
  refine wpAny_bind (wpAny_mkInt ?_)
  show wpAny _ _ (setField (.ref e) 3 (rawInt ((i : Int) + 1)) >>= _) _ _ ⟨m, g, d, tk + 1, os⟩
  refine wpAny_bind (wpAny_setField_rec e1 (by simp) fun m2 e2 s2 => ?_)
  replace s2 : Heap.SameBut e m m2 := s2
  replace e2 : IsEnum m2 e z ((i : Int) + 1) old := e2
  show wpAny _ _ (setField (.ref e) 4 .none >>= _) _ _ ⟨m2, g, d, tk + 1, os⟩
  refine wpAny_bind (wpAny_setField_rec e2 (by simp) fun m3 e3 s3 => ?_)
  replace s3 : Heap.SameBut e m2 m3 := s3
  replace e3 : IsEnum m3 e z ((i : Int) + 1) old := e3
  show wpAny _ _ (newTuple [.int i tk, x] >>= _) _ _ ⟨m3, g, d, tk + 1, os⟩
  refine wpAny_bind (wpAny_newTuple ?_)
  have l3 : m3.objs.size = hp.objs.size + 1 := by rw [s3.1, s2.1, lm]
  have e4 : IsEnum (m3.push { cls := .type "tuple", data := .seq #[.int i tk, x] }) e z ((i : Int) + 1) old := Heap.get?_push_of_some _ e3
  have t4 : (m3.push { cls := .type "tuple", data := .seq #[.int i tk, x] }).get? (hp.objs.size + 1) = some { cls := .type "tuple", data := .seq #[.int i tk, x] } := by rw [← l3]; exact Heap.get?_push_size _ rfl
  have l4 : (m3.push { cls := .type "tuple", data := .seq #[.int i tk, x] }).objs.size = hp.objs.size + 2 := by rw [Heap.size_push, l3]
  have k4 : ∀ b o, b ≠ e → m.get? b = some o → (m3.push { cls := .type "tuple", data := .seq #[.int i tk, x] }).get? b = some o := fun b o hb y =>
    Heap.get?_push_of_some _ (s3.extBut b o hb (s2.extBut b o hb y))
  show wpAny _ _ (Builtin.SmallTypes.ownedTupleIsFree (.ref e) >>= _) _ _ ⟨m3.push { cls := .type "tuple", data := .seq #[.int i tk, x] }, g, d, tk + 1, os⟩
  generalize m3.push { cls := .type "tuple", data := .seq #[.int i tk, x] } = m4 at e4 t4 l4 k4
  rw [l3]
  refine wpAny_bind ?_
  unfold Builtin.SmallTypes.ownedTupleIsFree
  refine wpAny_bind (wpAny_field e4 rfl (x := .none) rfl (wpAny_pure ?_))
  simp only [if_true]
  refine wpAny_bind (wpAny_rule ?_)
  refine wpAny_bind (wpAny_field e4 rfl (x := old) rfl ?_)
  refine wpAny_bind (wpAny_setField_rec e4 (by simp) fun m5 e5 s5 => ?_)
  replace s5 : Heap.SameBut e m4 m5 := s5
  replace e5 : IsEnum m5 e z ((i : Int) + 1) x := e5
  show wpAny _ _ (Builtin.SmallTypes.ownedTupleHandOut (.ref e) (.ref (hp.objs.size + 1)) >>= _) _ _ ⟨m5, g, d, tk + 1, os⟩
  refine wpAny_bind ?_
  unfold Builtin.SmallTypes.ownedTupleHandOut
  refine wpAny_bind (wpAny_setField_rec e5 (by simp) fun m6 e6 s6 => ?_)
  replace s6 : Heap.SameBut e m5 m6 := s6
  replace e6 : IsEnumOut m6 e z ((i : Int) + 1) x (hp.objs.size + 1) := e6
  refine wpAny_setField_rec e6 (by simp) fun m7 e7 s7 => ?_
  replace s7 : Heap.SameBut e m6 m7 := s7
  replace e7 : IsEnumOut m7 e z ((i : Int) + 1) x (hp.objs.size + 1) := e7
  subst hx
  have ne : hp.objs.size + 1 ≠ e := Nat.ne_of_gt (Nat.lt_succ_of_lt el)
  refine wpAny_bind (wpAny_letGo (wpAny_pure ⟨_, rfl, hQ m m7 tk Gm lm km e7 (s7.extBut _ _ ne (s6.extBut _ _ ne (s5.extBut _ _ ne t4))) (by rw [s7.1, s6.1, s5.1, l4]) fun b o hb y => s7.extBut b o hb (s6.extBut b o hb (s5.extBut b o hb (k4 b o hb y)))⟩))
theorem enumW_next {e : Addr} {i : Nat} {old : Value} {G : Heap → Prop} {ch : List Addr} {Q : Option Value → Shared → Prop} (he : IsEnum s.heap e z i old) (hec : e ∉ ch)
    (hn : ∀ (E : Value → Shared → Prop) (Q : Value → Shared → Prop), (∀ m tk, G m → m.objs.size = s.heap.objs.size + 1 → (∀ b o, b ∉ ch → s.heap.get? b = some o → m.get? b = some o) → Q (.ref s.heap.objs.size) { s with heap := m, toks := tk }) →
      wpAny (model prog w) A.in1 (Builtin.SmallTypes.nextOf (.ref z)) Q E s)
    (hQ : ∀ m h' tk, G m → m.objs.size = s.heap.objs.size + 1 → (∀ b o, b ∉ ch → s.heap.get? b = some o → m.get? b = some o) → IsEnumOut h' e z ((i : Int) + 1) (.ref s.heap.objs.size) (s.heap.objs.size + 1) →
      h'.get? (s.heap.objs.size + 1) = some { cls := .type "tuple", data := .seq #[.int i tk, .ref s.heap.objs.size] } → h'.objs.size = s.heap.objs.size + 2 →
      (∀ b o, b ≠ e → m.get? b = some o → h'.get? b = some o) → Q (some (.ref (s.heap.objs.size + 1))) { s with heap := h', toks := tk + 1 }) :
    wpAny (model prog w) A (pyNext (.ref e)) Q E s := by
  have hT : s.TypeIs (.ref e) "enumerate" := ⟨_, he, rfl⟩
  unfold pyNext
  exact wpAny_bind (wpAny_attempt (wpAny_callSpecial?_slot (name := Str.ofString "__next__") hT F.slot_enumerate_next
    (wpAny_call_entry F.slot_enumerate_next hT F.entry_enumerate_next
      (enumW_item he hec (hn _) fun m h' tk a b c d k q r => wpAny_pure (hQ m h' tk a b c d k q r)) (F.args_enumerate_next_1 _))))
end
theorem pxMeets_enumerate_newZ (z TI TO : Addr) :
    Meets (Builtin.«enumerate.__new__» ⟨[.type "enumerate", .ref z], []⟩) (fun _ R s => IsZip s.heap z TI TO .none ∧
      R (.ok (.ret (.ref s.heap.objs.size))) { s with heap := s.heap.push { cls := .type "enumerate", data := .fields #[.none, .bool false, .ref z, rawInt 0, .none, .none] } }) :=
  .of_wp fun prog w A R s h => by
    obtain ⟨hp, g, d, tk, os⟩ := s; obtain ⟨hz, h⟩ := h
    have hsub := sub_enumerate
    have hZ : IsZip (Shared.heap ⟨hp, g, d, tk, os⟩) z TI TO .none := hz
    wp_walk using wpAny_pyIter_zip hZ
    refine wpAny_stack_any fun st => wpAny_pure ?_
    split
    · rename_i c _ _ _ _ _
      cases (c == Value.type "enumerate")
      · wp_walk using wpAny_pyIter_zip hZ
        exact ⟨_, rfl, h⟩
      · wp_walk using wpAny_pyIter_zip hZ
        exact ⟨_, rfl, h⟩
    · wp_walk using wpAny_pyIter_zip hZ
      exact ⟨_, rfl, h⟩
theorem pxCall_enumerate_zip {prog : Program} {w : World} {A : Around} {E : Value → Shared → Prop} {s : Shared} {z TI TO : Addr} {Q : Value → Shared → Prop} (hZ : IsZip s.heap z TI TO .none)
    (h : ∀ h', IsEnum h' s.heap.objs.size z 0 .none → h'.objs.size = s.heap.objs.size + 1 →
      (∀ b o, s.heap.get? b = some o → h'.get? b = some o) → Q (.ref s.heap.objs.size) { s with heap := h' }) :
    wpAny (model prog w) A (call (.type "enumerate") [.ref z]) Q E s := by
  refine callType_new F.called_enumerate (by decide) (F.typeCall_enumerate_1 _) (F.newCall_enumerate_1 _) (fun obj => F.args_object_init_2 obj _) F.entry_enumerate_new
    (pxMeets_enumerate_newZ z TI TO) ⟨hZ, ?_⟩
  have he : IsEnum (s.heap.push { cls := .type "enumerate", data := .fields #[.none, .bool false, .ref z, rawInt 0, .none, .none] }) s.heap.objs.size z 0 .none := Heap.get?_push_size _ rfl
  exact ⟨⟨_, he, rfl⟩, h _ he (by rw [Heap.size_push]) fun b o x => Heap.get?_push_of_some _ x⟩
/-- the lists at a and b side by side, each pair in a new pair with its place -/
def IteZ (K : PySem.W.Frag) (a b : Addr) : It :=
  ⟨fun i H => ∃ (xs ys : List V) (x y : V), SqL K H a xs ∧ SqL K H b ys ∧ xs[i]? = some x ∧ ys[i]? = some y,
    fun i H v H' => ∃ T T' x y, v = .ref T' ∧ H T = none ∧ upd H T (.tup [x, y]) T' = none ∧ H' = upd (upd H T (.tup [x, y])) T' (.tup [.int (i : Nat), .ref T]) ∧ (∀ xs, SqL K H a xs → xs[i]? = some x) ∧ ∀ ys, SqL K H b ys → ys[i]? = some y,
    fun i H => ∃ xs ys : List V, SqL K H a xs ∧ SqL K H b ys ∧ i ≤ xs.length ∧ i ≤ ys.length ∧ (i = xs.length ∨ i = ys.length)⟩
theorem turn_ez {P : Program} {w : World} {K : PySem.W.Frag} {elts : List Expr} {kk : Nat} {tpos : Pos} {a b e z TI TO i1 i2 : Addr} (D : ZipSep2 z TI TO i1 i2 [i1, a] [i2, b]) (n1 : a ≠ i1) (n2 : b ≠ i2) (ne : e ∉ [z, TI, TO, i1, i2]) :
    Turn P w K (.Tuple elts kk tpos) (IteZ K a b) [e, z, TI, TO, i1, i2] e (fun i h => (∃ old, IsEnum h e z ((i : Nat) : Int) old) ∧ ZipW h z TI TO ∧ IsTupOf2 h TI (.ref i1) (.ref i2) ∧ (∃ x y, IsTupOf2 h TO x y) ∧ h.IsListIter i1 a i ∧ h.IsListIter i2 b i) where
  mem := by simp
  obj := fun i h st c hc => by
    obtain ⟨⟨old, he⟩, ⟨f0, fb, _, hz⟩, hTI, ⟨x, y, hTO⟩, ⟨o1, e1, _, d1⟩, ⟨o2, e2, _, d2⟩⟩ := st
    have e' : c = e ∨ c = z ∨ c = TI ∨ c = TO ∨ c = i1 ∨ c = i2 := by simpa using hc
    rcases e' with q | q | q | q | q | q
    · rw [q]; exact ⟨_, he, fun v q => nomatch q⟩
    · rw [q]; exact ⟨_, hz, fun v q => nomatch q⟩
    · rw [q]; exact ⟨_, hTI, fun v q => nomatch q⟩
    · rw [q]; exact ⟨_, hTO, fun v q => nomatch q⟩
    · rw [q]; exact ⟨o1, e1, fun v q => by rw [d1] at q; cases q⟩
    · rw [q]; exact ⟨o2, e2, fun v q => by rw [d2] at q; cases q⟩
  keep := fun i h h' st k => by
    obtain ⟨⟨old, he⟩, ⟨f0, fb, hf, hz⟩, hTI, ⟨x, y, hTO⟩, h1, h2⟩ := st
    exact ⟨⟨old, k e (by simp) _ he⟩, ⟨f0, fb, hf, k z (by simp) _ hz⟩, k TI (by simp) _ hTI, ⟨x, y, k TO (by simp) _ hTO⟩, h1.at fun o q => k i1 (by simp) o q, h2.at fun o q => k i2 (by simp) o q⟩
  item := by
    intro X hP hw hK hc i pins s σ H E I hf st hg
    subst hP hw hK
    obtain ⟨⟨old, he⟩, hz, hTI, ⟨x0, y0, hTO⟩, h1, h2⟩ := st
    obtain ⟨xs, ys, x, y, hqx, hqy, hx, hy⟩ := hg
    obtain ⟨its1, rv1, p1, _⟩ := I.list hqx
    obtain ⟨its2, rv2, p2, _⟩ := I.list hqy
    obtain ⟨u1, hu1, ru1⟩ := rv1.get hx
    obtain ⟨u2, hu2, ru2⟩ := rv2.get hy
    have hh : X.A.handled = none := I.ok.hd hc
    have hel : e < s.heap.objs.size := Heap.lt_size he
    have hi1 : i < its1.toArray.size := by rw [List.size_toArray]; exact (List.getElem?_eq_some_iff.mp hu1).1
    have hi2 : i < its2.toArray.size := by rw [List.size_toArray]; exact (List.getElem?_eq_some_iff.mp hu2).1
    have nz : e ≠ z ∧ e ≠ TI ∧ e ≠ TO ∧ e ≠ i1 ∧ e ≠ i2 := by simpa using ne
    have hlt : ∀ c ∈ [e, z, TI, TO, i1, i2], c < s.heap.objs.size := fun c hcm => by
      have e' : c = e ∨ c = z ∨ c = TI ∨ c = TO ∨ c = i1 ∨ c = i2 := by simpa using hcm
      rcases e' with q | q | q | q | q | q
      · rw [q]; exact hel
      · rw [q]; obtain ⟨_, _, _, q'⟩ := hz; exact Heap.lt_size q'
      · rw [q]; exact Heap.lt_size hTI
      · rw [q]; exact Heap.lt_size hTO
      · rw [q]; obtain ⟨_, e1, _⟩ := h1; exact Heap.lt_size e1
      · rw [q]; obtain ⟨_, e2, _⟩ := h2; exact Heap.lt_size e2
    refine enumW_next (G := fun m => ZipW m z TI TO ∧ IsTupOf2 m TI (.ref i1) (.ref i2) ∧ (∃ b1 b2, IsTupOf2 m TO b1 b2) ∧ m.IsListIter i1 a (i + 1) ∧ m.IsListIter i2 b (i + 1) ∧ IsTupOf2 m s.heap.objs.size u1 u2) (ch := [z, TO, i1, i2]) he (by simp [nz]) (fun E' Q' q => ?_) fun m h' tk Gm lm km ho hT hl hk => ?_
    · refine zipW_nextOf D (Draws.list (A := X.A.in1.in1) hh i1 a n1 its1.toArray) (Draws.list (A := X.A.in1.in1) hh i2 b n2 its2.toArray) hz hTI hTO ⟨h1, p1.isList⟩ ⟨h2, p2.isList⟩ hi1 hi2 fun x1 x2 m tk hx1 hx2 z' TO' h1' h2' hT hsz hk => ?_
      have eu1 : x1 = u1 := by
        have q : its1[i]? = some x1 := by simpa using hx1
        rw [hu1] at q; exact (Option.some.inj q).symm
      have eu2 : x2 = u2 := by
        have q : its2[i]? = some x2 := by simpa using hx2
        rw [hu2] at q; exact (Option.some.inj q).symm
      subst eu1 eu2
      exact q m tk ⟨z', hk _ _ (by simp [D.TIz, D.TITO, D.TIi1, D.TIi2]) hTI, TO', h1'.1, h2'.1, hT⟩ hsz hk
    · obtain ⟨zm, TIm, ⟨b1, b2, TOm⟩, h1m, h2m, tm⟩ := Gm
      refine ⟨_, rfl, wpAny_letOwnedTupleGo_enum (s := { s with heap := h', toks := tk + 1 }) ho fun h'' he' sb => ?_⟩
      have kk : ∀ b o, b ≠ e → m.get? b = some o → h''.get? b = some o := fun b o hb q => (sb.2 b hb).trans (hk b o hb q)
      have new1 : ObjOk X.prog X.w (upd H s.heap.objs.size (.tup [x, y])) m s.heap.objs.size (.tup [x, y]) :=
        ⟨by show 2 ≤ sizeLine; decide, [u1, u2], .cons ru1 (.cons ru2 .nil), ⟨_, tm, rfl, _, rfl⟩⟩
      have I1 : Inv X pins σ (upd H s.heap.objs.size (.tup [x, y])) { s with heap := m, toks := tk } :=
        I.turnedNew (t' := tk) (ch := [e, z, TI, TO, i1, i2]) (fun c o hb q => km c o (fun q' => hb (by simp at q' ⊢; rcases q' with q' | q' | q' | q' <;> simp [q'])) q) hf (Nat.le_refl _) new1
      have hf1 : ∀ c ∈ [e, z, TI, TO, i1, i2], FpOk X pins (upd H s.heap.objs.size (.tup [x, y])) c := fun c hc => by
        have f := hf c hc
        exact ⟨by rw [upd_ne (Nat.ne_of_lt (hlt c hc))]; exact f.1, f.2⟩
      have hT2 : h''.get? (s.heap.objs.size + 1) = some { cls := .type "tuple", data := .seq #[.int i tk, .ref s.heap.objs.size] } := (sb.2 _ (Nat.ne_of_gt (Nat.lt_succ_of_lt hel))).trans hT
      have new2 : ObjOk X.prog X.w (upd (upd H s.heap.objs.size (.tup [x, y])) (s.heap.objs.size + 1) (.tup [.int (i : Nat), .ref s.heap.objs.size])) h'' (s.heap.objs.size + 1) (.tup [.int (i : Nat), .ref s.heap.objs.size]) :=
        ⟨by show 2 ≤ sizeLine; decide, [.int i tk, .ref s.heap.objs.size], .cons ⟨_, rfl⟩ (.cons rfl .nil), ⟨_, hT2, rfl, _, rfl⟩⟩
      have I2 : Inv X pins σ (upd (upd H s.heap.objs.size (.tup [x, y])) (s.heap.objs.size + 1) (.tup [.int (i : Nat), .ref s.heap.objs.size])) { s with heap := h'', toks := tk + 1 } :=
        I1.turnedNew (t' := tk + 1) (ch := [e, z, TI, TO, i1, i2]) (fun c o hb q => kk c o (fun q' => hb (by simp [q'])) q) hf1 (by show m.objs.size ≤ _; rw [lm]; exact Nat.le_refl _) new2
      refine ⟨.ref (s.heap.objs.size + 1), _, I2, rfl, ⟨s.heap.objs.size, s.heap.objs.size + 1, x, y, rfl, I.hok.fresh (Nat.le_refl _), I1.hok.fresh (by show m.objs.size ≤ _; rw [lm]; exact Nat.le_refl _), rfl, fun l hl => by rw [I.list_inj hl hqx]; exact hx, fun l hl => by rw [I.list_inj hl hqy]; exact hy⟩, ⟨⟨Value.ref s.heap.objs.size, ?_⟩, ?_, ?_, ⟨b1, b2, ?_⟩, ?_, ?_⟩, fun c hcm => ?_⟩
      · have e1 : ((i + 1 : Nat) : Int) = (i : Int) + 1 := by omega
        rw [e1]; exact he'
      · obtain ⟨g0, gb, gf, gz⟩ := zm
        exact ⟨g0, gb, gf, kk _ _ (Ne.symm nz.1) gz⟩
      · exact kk _ _ (Ne.symm nz.2.1) TIm
      · exact kk _ _ (Ne.symm nz.2.2.1) TOm
      · exact h1m.at fun o q => kk _ _ (Ne.symm nz.2.2.2.1) q
      · exact h2m.at fun o q => kk _ _ (Ne.symm nz.2.2.2.2) q
      · have l := hlt c hcm
        rw [upd_ne (Nat.ne_of_lt (Nat.lt_succ_of_lt l)), upd_ne (Nat.ne_of_lt l)]
        exact (hf c hcm).1
  done := by
    intro X hP hw hK hc i pins s σ H E I hf st hg
    subst hP hw hK
    obtain ⟨⟨old, he⟩, hz, hTI, ⟨x0, y0, hTO⟩, h1, h2⟩ := st
    obtain ⟨xs, ys, hqx, hqy, l1, l2, hend⟩ := hg
    obtain ⟨its1, rv1, p1, _⟩ := I.list hqx
    obtain ⟨its2, rv2, p2, _⟩ := I.list hqy
    have hh : X.A.handled = none := I.ok.hd hc
    have hl1 : its1.toArray.size = xs.length := by rw [List.size_toArray]; exact rv1.length.symm
    have hl2 : its2.toArray.size = ys.length := by rw [List.size_toArray]; exact rv2.length.symm
    have hT : s.TypeIs (.ref e) "enumerate" := ⟨_, he, rfl⟩
    unfold pyNext
    refine wpAny_bind (wpAny_attempt (wpAny_callSpecial?_slot (name := Str.ofString "__next__") hT F.slot_enumerate_next
      (wpAny_call_entry F.slot_enumerate_next hT F.entry_enumerate_next ?_ (F.args_enumerate_next_1 _))))
    show wpAny _ _ (field (.ref e) 2 >>= _) _ _ _
    refine wpAny_bind (wpAny_field he rfl (x := .ref z) rfl ?_)
    refine wpAny_bind (zipW_nextEnd D (Draws.list (A := X.A.in1.in1) hh i1 a n1 its1.toArray) (Draws.list (A := X.A.in1.in1) hh i2 b n2 its2.toArray) hz hTI hTO ⟨h1, p1.isList⟩ ⟨h2, p2.isList⟩ (by rw [hl1]; exact l1) (by rw [hl2]; exact l2) (by rw [hl1, hl2]; exact hend) fun h' tk x hk hx' => ?_)
    obtain ⟨o, ho, hc'⟩ := hx'
    refine wpAny_bind (wpAny_isInstance (T := "StopIteration") (b := true) ⟨o, ho, hc'⟩ isSubtype_stop ?_)
    exact wpAny_pure ⟨rfl, I.turnedL (t' := tk) (ch := [e, z, TI, TO, i1, i2]) (fun c o hb q => hk c o (fun q' => hb (by simp at q' ⊢; rcases q' with q' | q' | q' | q' <;> simp [q'])) q) hf⟩
  self := fun A i s Q E st h => let ⟨⟨_, he⟩, _⟩ := st; wpAny_pyIter_enum he h
theorem sep2L (n a b : Nat) (h : a < n) (h' : b < n) : ZipSep2 (n + 4 : Nat) (n + 2 : Nat) (n + 3 : Nat) n (n + 1 : Nat) [n, a] [(n + 1 : Nat), b] := by
  have ne : ∀ {x y : Nat}, x ≠ y → (show Addr from x) ≠ (show Addr from y) := fun h => h
  have nm : ∀ {x y u : Nat}, x ≠ y → x ≠ u → (show Addr from x) ∉ [(show Addr from y), (show Addr from u)] := fun p q => by
    intro z
    rcases List.mem_cons.mp z with z | z
    · exact p z
    · rcases List.mem_cons.mp z with z | z
      · exact q z
      · exact absurd z List.not_mem_nil
  exact ⟨ne (by omega), ne (by omega), ne (by omega), ne (by omega), List.mem_cons_self, nm (by omega) (by omega), nm (by omega) (by omega), ne (by omega), List.mem_cons_self, nm (by omega) (by omega), nm (by omega) (by omega), nm (by omega) (by omega), nm (by omega) (by omega)⟩
def iEnZ (K : PySem.W.Frag) (ta : TA) : TI := fun σ H R => ta σ H fun vs H1 => ∃ a b xs ys, vs = [.ref a, .ref b] ∧ SqL K H1 a xs ∧ SqL K H1 b ys ∧ R (IteZ K a b) H1
theorem pi_enZ {K : PySem.W.Frag} {X : Cx} {e e2 : Expr} {ta : TA} {p p2 pos pos2 tpos : Pos} {elts : List Expr} {kk : Nat} (hK : X.K = K) (hg : Gl X "enumerate") (hm : X.mg "enumerate" = none) (hgz : Gl X "zip") (hmz : X.mg "zip" = none) (ha : PA X [e, e2] ta)
    (hs : starEach [e, e2] X.env = (false, eval e X.env) :: starEach [e2] X.env := by rfl) (hpl : (backTo pos2 (starEach [e2] X.env)).any (·.1) = false := by rfl)
    (hs1 : starEach [.Call (.Name "zip" p2) [e, e2] [] pos2] X.env = [(false, eval (.Call (.Name "zip" p2) [e, e2] [] pos2) X.env)] := by rfl) :
    PI X (.Tuple elts kk tpos) (.Call (.Name "enumerate" p) [.Call (.Name "zip" p2) [e, e2] [] pos2] [] pos) (iEnZ K ta) := by
  subst hK
  refine ⟨fun pins s σ H R I h => ?_⟩
  refine Call_ (ld_blt I hg hm boot_enumerate (PyProof.Rows.callWith_type1 ?_ hs1 rfl))
  rw [hs1]
  show wpAny _ _ (spliced ((false, eval (.Call (.Name "zip" p2) [e, e2] [] pos2) X.env) :: [])) _ _ s
  refine Calls.spliced_cons ?_
  refine Call_ (ld_blt I hgz hmz PyProof.Rows.boot_zip (PyProof.Rows.callWith_type1 (thn (ha.run pos2 pins s σ H _ I h) fun us s1 ⟨vs, H1, I1, r1, q1⟩ => ?_) hs hpl))
  obtain ⟨a, b, xs, ys, ex, hqx, hqy, q⟩ := q1
  subst ex
  cases r1 with
  | cons r rr =>
    cases rr with
    | cons r' rr =>
      cases rr
      cases r
      cases r'
      obtain ⟨its1, rv1, p1, _⟩ := I1.list hqx
      obtain ⟨its2, rv2, p2, _⟩ := I1.list hqy
      have la : a < s1.heap.objs.size := p1.lt
      have lb : b < s1.heap.objs.size := p2.lt
      refine zip_begins2 (begins_list a its1.toArray) (begins_list b its2.toArray) p1.isList p2.isList fun h' hz hTI hTO g1 g2 hsz hk => Calls.spliced_nil ?_
      refine pxCall_enumerate_zip (s := { s1 with heap := h' }) hz fun h'' he hsz2 hk2 => wpAny_pyIter_enum he ?_
      have I2 : Inv X pins σ H1 { s1 with heap := h'' } := I1.kept (t' := s1.toks) fun b o x => hk2 b o (hk b o x)
      have D := sep2L s1.heap.objs.size a b la lb
      have hn1 : a ≠ s1.heap.objs.size := Nat.ne_of_lt la
      have hn2 : b ≠ s1.heap.objs.size + 1 := Nat.ne_of_lt (Nat.lt_succ_of_lt lb)
      replace hsz : h'.objs.size = s1.heap.objs.size + 5 := hsz
      have he0 : IsEnum h'' (s1.heap.objs.size + 5) (s1.heap.objs.size + 4) 0 .none := by
        have q := he
        rw [show (Shared.heap { s1 with heap := h' }).objs.size = s1.heap.objs.size + 5 from hsz] at q
        exact q
      have hne : (s1.heap.objs.size + 5 : Nat) ∉ [(s1.heap.objs.size + 4 : Nat), s1.heap.objs.size + 2, s1.heap.objs.size + 3, s1.heap.objs.size, s1.heap.objs.size + 1] := by simp
      refine ⟨s1.heap.objs.size + 5, [s1.heap.objs.size + 5, s1.heap.objs.size + 4, s1.heap.objs.size + 2, s1.heap.objs.size + 3, s1.heap.objs.size, s1.heap.objs.size + 1], _, _, H1, by rw [show (Shared.heap { s1 with heap := h' }).objs.size = s1.heap.objs.size + 5 from hsz], I2, turn_ez D hn1 hn2 hne, ⟨⟨.none, he0⟩, ⟨.none, false, .inl rfl, hk2 _ _ hz⟩, hk2 _ _ hTI, ⟨_, _, hk2 _ _ hTO⟩, ⟨_, hk2 _ _ g1, rfl, rfl⟩, ⟨_, hk2 _ _ g2, rfl, rfl⟩⟩, fun c hcm => ?_, q⟩
      have e' : c = s1.heap.objs.size + 5 ∨ c = s1.heap.objs.size + 4 ∨ c = s1.heap.objs.size + 2 ∨ c = s1.heap.objs.size + 3 ∨ c = s1.heap.objs.size ∨ c = s1.heap.objs.size + 1 := by simpa using hcm
      have hle : s1.heap.objs.size ≤ c := by
        rcases e' with z | z | z | z | z | z
        · rw [z]; exact Nat.le_add_right _ _
        · rw [z]; exact Nat.le_add_right _ _
        · rw [z]; exact Nat.le_add_right _ _
        · rw [z]; exact Nat.le_add_right _ _
        · rw [z]; exact Nat.le_refl _
        · rw [z]; exact Nat.le_add_right _ _
      exact I1.fpOk hle (I1.hok.fresh hle)
end L2.Px

set_option Elab.async false
set_option linter.all false
set_option maxRecDepth 100000
set_option maxHeartbeats 1000000
/-! first_unlike_tie, and for over enumerate(zip(..)) -/
namespace L2.Px
open PySem PySem.Spec PyProof.Rows StX TL
/-- how many first places agree -/
def pre : List Nat → List Nat → Nat
  | x :: xs, y :: ys => if x = y then pre xs ys + 1 else 0
  | _, _ => 0
theorem pre_le1 : ∀ L M : List Nat, pre L M ≤ L.length
  | [], _ => by simp [pre]
  | _ :: _, [] => by simp [pre]
  | x :: xs, y :: ys => by
    unfold pre; split
    · simp [pre_le1 xs ys]
    · simp
theorem pre_comm : ∀ L M : List Nat, pre L M = pre M L
  | [], [] => rfl
  | [], _ :: _ => rfl
  | _ :: _, [] => rfl
  | x :: xs, y :: ys => by
    unfold pre
    by_cases h : x = y
    · rw [if_pos h, if_pos h.symm, pre_comm xs ys]
    · rw [if_neg h, if_neg fun z => h z.symm]
theorem pre_le2 (L M : List Nat) : pre L M ≤ M.length := by rw [pre_comm]; exact pre_le1 M L
theorem pre_at : ∀ (L M : List Nat) (i : Nat), i < pre L M → L[i]? = M[i]?
  | [], _, _, h => by simp [pre] at h
  | _ :: _, [], _, h => by simp [pre] at h
  | x :: xs, y :: ys, i, h => by
    unfold pre at h
    split at h
    · rename_i e
      cases i with
      | zero => simp [e]
      | succ i => simpa using pre_at xs ys i (by omega)
    · omega
theorem pre_stop : ∀ (L M : List Nat), pre L M < L.length → pre L M < M.length → L[pre L M]? ≠ M[pre L M]?
  | [], _, h, _ => by simp [pre] at h
  | _ :: _, [], _, h => by simp [pre] at h
  | x :: xs, y :: ys, h, h' => by
    unfold pre at h h' ⊢
    split
    · rename_i e
      rw [if_pos e] at h h'
      simpa using pre_stop xs ys (by simpa using h) (by simpa using h')
    · rename_i e
      simpa using e
theorem pre_eq {L M : List Nat} {n : Nat} (h1 : n ≤ L.length) (h2 : n ≤ M.length) (he : ∀ i, i < n → L[i]? = M[i]?) (hs : n = L.length ∨ n = M.length ∨ L[n]? ≠ M[n]?) : n = pre L M := by
  have a1 := pre_le1 L M
  have a2 := pre_le2 L M
  rcases Nat.lt_trichotomy n (pre L M) with h | h | h
  · rcases hs with e | e | e
    · omega
    · omega
    · exact absurd (pre_at L M n h) e
  · exact h
  · exact absurd (he _ h) (pre_stop L M (by omega) (by omega))
theorem pre_take {L M : List Nat} (i : Nat) (hi : i ≤ L.length) (h2 : i ≤ M.length) : (L.take i = M.take i) ↔ i ≤ pre L M := by
  constructor
  · intro e
    have a1 := pre_le1 L M
    have a2 := pre_le2 L M
    by_cases h : pre L M < i
    · have := pre_stop L M (by omega) (by omega)
      have e' : (L.take i)[pre L M]? = (M.take i)[pre L M]? := by rw [e]
      rw [List.getElem?_take_of_lt h, List.getElem?_take_of_lt h] at e'
      exact absurd e' this
    · omega
  · intro h
    apply List.ext_getElem?
    intro j
    by_cases hj : j < i
    · rw [List.getElem?_take_of_lt hj, List.getElem?_take_of_lt hj]
      exact pre_at L M j (by omega)
    · rw [List.getElem?_eq_none (by rw [List.length_take]; omega), List.getElem?_eq_none (by rw [List.length_take]; omega)]
/-- what first_unlike_tie answers for two rows -/
def unlV (L M : List Nat) : V := if pre L M = L.length ∧ L.length = M.length then .non else .int (pre L M : Nat)
theorem unlV_comm (L M : List Nat) : unlV L M = unlV M L := by
  unfold unlV
  rw [pre_comm M L]
  by_cases h : pre L M = L.length ∧ L.length = M.length
  · rw [if_pos h, if_pos ⟨by omega, by omega⟩]
  · rw [if_neg h, if_neg fun z => h ⟨by omega, by omega⟩]
theorem unlV_same (L : List Nat) : unlV L L = .non := by
  have h : L.length = pre L L := pre_eq (Nat.le_refl _) (Nat.le_refl _) (fun _ _ => rfl) (.inl rfl)
  unfold unlV
  rw [if_pos ⟨h.symm, rfl⟩]
theorem unlV_take {L M : List Nat} (h : M = L.take M.length) (hlt : M.length < L.length) : unlV L M = .int (M.length : Nat) := by
  have e : M.length = pre L M := pre_eq (by omega) (Nat.le_refl _) (fun i hi => by
    have e' : M[i]? = (L.take M.length)[i]? := by rw [← h]
    rw [e', List.getElem?_take_of_lt hi]) (.inr (.inl rfl))
  unfold unlV
  rw [if_neg (by omega), ← e]
/-- for place, (one, two) in enumerate(zip(..)), the lists staying -/
theorem for_ez {K : PySem.W.Frag} {a b : Addr} {L M : List Nat} {g : TG} {tb : TS} {D : Ends} {σ : St} {H : Hp} (Pv : Nat → St → Hp → Prop) (h0 : Pv 0 σ H) (ha : ∀ i σ H, Pv i σ H → H a = some (.lst (natV L))) (hb : ∀ i σ H, Pv i σ H → H b = some (.lst (natV M)))
    (hs : ∀ i T T' σ H H', i < L.length → i < M.length → Pv i σ H → Same H H' → H' T = some (.tup [.int (L[i]?.getD 0 : Nat), .int (M[i]?.getD 0 : Nat)]) → H' T' = some (.tup [.int (i : Nat), .ref T]) → g (.ref T') σ H' fun σ2 H2 => tb { D with nx := Pv (i + 1), ct := Pv (i + 1), bk := D.nx } σ2 H2)
    (hd : ∀ σ H, Pv (min L.length M.length) σ H → D.nx σ H) : ForW (IteZ K a b) g tb D σ H := by
  have nat_at : ∀ {N : List Nat} {i : Nat}, i < N.length → (natV N)[i]? = some (.int (N[i]?.getD 0 : Nat)) := fun {N i} hi => by
    unfold natV
    rw [List.getElem?_map, List.getElem?_eq_getElem hi]; rfl
  refine ⟨fun i m σ H => m = min L.length M.length - i ∧ i ≤ min L.length M.length ∧ Pv i σ H, ⟨_, rfl, Nat.zero_le _, h0⟩, ?_⟩
  rintro i m σ H ⟨rfl, hi, p⟩
  have ea := ha i σ H p
  have eb := hb i σ H p
  by_cases hlt : i < min L.length M.length
  · refine .inr ⟨⟨_, _, _, _, SqL.of ea, SqL.of eb, nat_at (by omega), nat_at (by omega)⟩, Pv (i + 1), fun σ' H' p' => ⟨min L.length M.length - (i + 1), by omega, rfl, hlt, p'⟩, fun v H' y => ?_⟩
    obtain ⟨T, T', x, y, rfl, hT, hT', rfl, hx, hy⟩ := y
    have hx := hx _ (SqL.of ea)
    have hy := hy _ (SqL.of eb)
    rw [nat_at (by omega)] at hx hy
    cases hx
    cases hy
    refine hs i T T' σ H _ (by omega) (by omega) p ((Same.new (Same.refl _) hT).trans (Same.new (Same.refl _) hT')) ?_ upd_same
    exact Same.new (Same.refl _) hT' _ _ upd_same
  · have e : i = min L.length M.length := by omega
    subst e
    exact .inl ⟨⟨_, _, SqL.of ea, SqL.of eb, by rw [natV_len]; omega, by rw [natV_len]; omega, by rw [natV_len, natV_len]; omega⟩, hd σ H p⟩
theorem rd_iEnZ {K : PySem.W.Frag} {ta : TA} {σ : St} {H : Hp} {Rr : It → Hp → Prop} (h : ta σ H fun vs H1 => ∃ a b xs ys, vs = [.ref a, .ref b] ∧ SqL K H1 a xs ∧ SqL K H1 b ys ∧ Rr (IteZ K a b) H1) : iEnZ K ta σ H Rr := h
section
variable (K : PySem.W.Frag) (CT CP : Addr) {H : Hp} {a b : Addr} {ss tt : List Stp} {Q : VK} {E : XK}
def sp_first_unlike_tie : Sp := fun vs H Q _ => ∃ a b ss tt, vs = [.ref a, .ref b] ∧ TX K CT CP H a ss ∧ TX K CT CP H b tt ∧ sz ss ≤ 2000 ∧ sz tt ≤ 2000 ∧ ∀ H', Same H H' → Q (unlV (ks ss) (ks tt)) H'
variable {K CT CP}
theorem rd_unlike (h : TX K CT CP H a ss) (h' : TX K CT CP H b tt) (hz : sz ss ≤ 2000) (hz' : sz tt ≤ 2000) (q : ∀ H', Same H H' → Q (unlV (ks ss) (ks tt)) H') : sp_first_unlike_tie K CT CP [.ref a, .ref b] H Q E := ⟨a, b, ss, tt, rfl, h, h', hz, hz', q⟩
end
end L2.Px

set_option Elab.async false
set_option linter.all false
set_option maxRecDepth 100000
set_option maxHeartbeats 1000000
/-! retyped_by: many keys retyped -/
namespace L2.Px
open PySem PySem.Spec PyProof.Rows StX TL
/-- the steps after the keys of cs are retyped, one after another -/
def rts : List (Nat × Nat) → List Stp → List Stp
  | [], ss => ss
  | c :: cs, ss => rts cs (rt c.1 c.2 0 ss)
theorem rts_snoc (cs : List (Nat × Nat)) (c : Nat × Nat) : ∀ ss, rts (cs ++ [c]) ss = rt c.1 c.2 0 (rts cs ss) := by
  induction cs with
  | nil => intro ss; rfl
  | cons d cs ih => intro ss; exact ih _
theorem ks_rts : ∀ (cs : List (Nat × Nat)) (ss : List Stp), ks (rts cs ss) = ks ss
  | [], _ => rfl
  | c :: cs, ss => by
    show ks (rts cs (rt c.1 c.2 0 ss)) = ks ss
    rw [ks_rts cs, ks_rt]
theorem sz_rts : ∀ (cs : List (Nat × Nat)) (ss : List Stp), sz (rts cs ss) = sz ss
  | [], _ => rfl
  | c :: cs, ss => by
    show sz (rts cs (rt c.1 c.2 0 ss)) = sz ss
    rw [sz_rts cs, sz_rt]
theorem tyL_rts_len : ∀ (cs : List (Nat × Nat)) (ss : List Stp), (tyL (rts cs ss)).length = (tyL ss).length
  | [], _ => rfl
  | c :: cs, ss => by
    show (tyL (rts cs (rt c.1 c.2 0 ss))).length = (tyL ss).length
    rw [tyL_rts_len cs, tyL_rt0, List.length_set]
/-- for over a walk of plain items -/
theorem for_plain {J : It} {n : Nat} {it : Nat → V} {g : TG} {tb : TS} {D : Ends} {σ : St} {H : Hp} (Pv : Nat → St → Hp → Prop) (h0 : Pv 0 σ H) (hl : ∀ i σ H, i ≤ n → Pv i σ H → Plain J n it H)
    (hs : ∀ i σ H, i < n → Pv i σ H → g (it i) σ H fun σ2 H2 => tb { D with nx := Pv (i + 1), ct := Pv (i + 1), bk := D.nx } σ2 H2) (hd : ∀ σ H, Pv n σ H → D.nx σ H) : ForW J g tb D σ H := by
  refine ⟨fun i m σ H => m = n - i ∧ i ≤ n ∧ Pv i σ H, ⟨n, by simp, Nat.zero_le _, h0⟩, ?_⟩
  rintro i m σ H ⟨rfl, hi, p⟩
  have q := hl i σ H hi p
  by_cases hlt : i < n
  · refine .inr ⟨q.go i H (Same.refl _) hlt, Pv (i + 1), fun σ' H' p' => ⟨n - (i + 1), by omega, rfl, hlt, p'⟩, fun x H' y => ?_⟩
    obtain ⟨e1, e2⟩ := q.yld i H x H' (Same.refl _) hlt y
    subst e1 e2
    exact hs i σ _ hlt p
  · have e : i = n := by omega
    subst e
    exact .inl ⟨q.stop H (Same.refl _), hd σ H p⟩
/-- the list of pairs (key, letter) at l -/
def ChAt (K : PySem.W.Frag) (H : Hp) (l : Addr) (cs : List (Nat × Nat)) (n : Nat) : Prop :=
  ∃ xs : List V, H l = some (.lst xs) ∧ xs.length = cs.length ∧ ∀ (i : Nat) (c : Nat × Nat), cs[i]? = some c → c.1 < n ∧ 97 ≤ c.2 ∧ c.2 ≤ 122 ∧ ∃ T, xs[i]? = some (V.ref T) ∧ H T = some (.tup [.int (c.1 : Nat), .str ⟨#[c.2]⟩])
section
variable (K : PySem.W.Frag) (CT CP : Addr) {H H' : Hp} {a b l : Addr} {ss tt : List Stp} {cs : List (Nat × Nat)} {n : Nat} {Q : VK} {E : XK}
def sp_retyped_by : Sp := fun vs H Q _ => ∃ a l ss cs, vs = [.ref a, .ref l] ∧ TX K CT CP H a ss ∧ ChAt K H l cs (tyL ss).length ∧ cs.length ≤ 1000 ∧ ∀ x H', Same H H' → TX K CT CP H' x (rts cs ss) → Q (.ref x) H'
variable {K CT CP}
theorem rd_retypedBy (h : TX K CT CP H a ss) (hc : ChAt K H l cs (tyL ss).length) (hl : cs.length ≤ 1000) (q : ∀ x H', Same H H' → TX K CT CP H' x (rts cs ss) → Q (.ref x) H') : sp_retyped_by K CT CP [.ref a, .ref l] H Q E := ⟨a, l, ss, cs, rfl, h, hc, hl, q⟩
theorem ChAt.mono (h : ChAt K H l cs n) (S : Same H H') : ChAt K H' l cs n := by
  obtain ⟨xs, e, hl, hx⟩ := h
  exact ⟨xs, S _ _ e, hl, fun i c hc => let ⟨h1, h2, h3, T, h4, h5⟩ := hx i c hc; ⟨h1, h2, h3, T, h4, S _ _ h5⟩⟩
def sp_x_law_pattern : Sp := fun vs H Q _ => ∃ l L, vs = [.ref l] ∧ H l = some (.lst (natV L)) ∧ IniS L ∧ L.length ≤ 2000 ∧ ∀ l' H', Same H H' → H' l' = some (.lst (natV L)) → Q (.ref l') H'
theorem rd_pattern {L : List Nat} (h : H l = some (.lst (natV L))) (hi : IniS L) (hl : L.length ≤ 2000) (q : ∀ l' H', Same H H' → H' l' = some (.lst (natV L)) → Q (.ref l') H') : sp_x_law_pattern [.ref l] H Q E := ⟨l, L, rfl, h, hi, hl, q⟩
variable (K CT CP)
def sp_x_law_is_parted : Sp := fun vs H Q _ => ∃ a b ss tt, vs = [.ref a, .ref b] ∧ TX K CT CP H a ss ∧ TX K CT CP H b tt ∧ sz ss ≤ 2000 ∧ sz tt ≤ 2000 ∧ ∀ H', Same H H' → Q (.bl true) H'
variable {K CT CP}
theorem rd_parted (h : TX K CT CP H a ss) (h' : TX K CT CP H b tt) (hz : sz ss ≤ 2000) (hz' : sz tt ≤ 2000) (q : ∀ H', Same H H' → Q (.bl true) H') : sp_x_law_is_parted K CT CP [.ref a, .ref b] H Q E := ⟨a, b, ss, tt, rfl, h, h', hz, hz', q⟩
theorem rd_notInN {x : Nat} {L : List Nat} (h : H l = some (.lst (natV L))) (q : Q (.bl (!decide (x ∈ L))) H) : rIn K true (.int (x : Nat)) (.ref l) H Q :=
  ⟨l, natV L, rfl, .inl (SqL.of h), rfl, by unfold natV; rw [List.all_map, List.all_eq_true]; intro y _; rfl, by rw [if_pos rfl, inV_nat]; exact q⟩
theorem rd_indexN {x F : Nat} (h : H l = some (.lst (natV (List.range F)))) (hx : x < F) (q : Q (.int (x : Nat)) H) : rIndex K (.ref l) [.int (x : Nat)] H Q := by
  have at_ : ∀ m, m < F → (natV (List.range F))[m]? = some (.int (m : Nat)) := fun m hm => by
    unfold natV
    rw [List.getElem?_map, List.getElem?_range hm]; rfl
  refine ⟨l, _, _, x, _, rfl, rfl, SqL.of h, rfl, by unfold natV; rw [List.all_map, List.all_eq_true]; intro y _; rfl, at_ x hx, by simp [eqV], fun m z' hm hz => ?_, q⟩
  rw [at_ m (by omega)] at hz
  cases hz
  simp [eqV]
  omega
end
end L2.Px

set_option Elab.async false
set_option linter.all false
set_option maxRecDepth 100000
set_option maxHeartbeats 1000000
/-! lists of drawn pairs (key, letter); the greatest key -/
namespace L2.Px
open PySem PySem.Spec PyProof.Rows StX TL
section
variable {K : PySem.W.Frag} {J : It} {n j : Nat} {it : Nat → V} {te : TE} {vs : List Nat} {σ : St} {H H1 : Hp} {D r l : Addr} {Qd : Hp → Prop} {Q : VK} {ss : List Stp}
theorem lc_chs {N : Nat} (P : ∀ H, Kp H1 H → Plain J n it H) (hD : H1 D = none) (hn : n ≤ sizeLine) (hj : ∀ v, wipe ((wipe σ vs).set j (some v)) vs = wipe σ vs) (row : RowAt K H1 r)
    (hs : ∀ i H (Q : VK), i < n → Kp H1 H → RowAt K H r → (∀ (k c : Nat) (p : Addr) H', Kp H H' → RowAt K H' r → k < N → 97 ≤ c → c ≤ 122 → H' p = some (.tup [.int (k : Nat), .str ⟨#[c]⟩]) → Q (.ref p) H') → te ((wipe σ vs).set j (some (it i))) H Q)
    (hd : ∀ H cs, Kp H1 H → RowAt K H r → ChAt K H D cs N → cs.length = n → Qd H) : LcW J (gName j) tYes te vs σ H1 D Qd := by
  refine ⟨fun i m H => m = n - i ∧ i ≤ n ∧ Kp H1 H ∧ RowAt K H r ∧ ∃ (as : List Addr) (cs : List (Nat × Nat)), H D = some (.lst (as.map V.ref)) ∧ as.length = i ∧ cs.length = i ∧ ∀ (b : Nat) (c : Nat × Nat), cs[b]? = some c → c.1 < N ∧ 97 ≤ c.2 ∧ c.2 ≤ 122 ∧ ∃ T, as[b]? = some T ∧ H T = some (.tup [.int (c.1 : Nat), .str ⟨#[c.2]⟩]),
    ⟨_, rfl, Nat.zero_le _, Kp.new Kp.refl hD, row.mono (Same.new (Same.refl _) hD), [], [], upd_same, rfl, rfl, fun b c h => by simp at h⟩, ?_⟩
  rintro i m H ⟨rfl, hi, S, rw_, as, cs, eD, hl, hl2, hr⟩
  have PP := P H S
  by_cases hlt : i < n
  · refine .inr ⟨PP.go i H (Same.refl _) hlt, fun H' => i + 1 ≤ n ∧ Kp H1 H' ∧ RowAt K H' r ∧ ∃ (as : List Addr) (cs : List (Nat × Nat)), H' D = some (.lst (as.map V.ref)) ∧ as.length = i + 1 ∧ cs.length = i + 1 ∧ ∀ (b : Nat) (c : Nat × Nat), cs[b]? = some c → c.1 < N ∧ 97 ≤ c.2 ∧ c.2 ≤ 122 ∧ ∃ T, as[b]? = some T ∧ H' T = some (.tup [.int (c.1 : Nat), .str ⟨#[c.2]⟩]), fun H' z => ⟨n - (i + 1), by omega, rfl, z⟩, fun x H' y => ?_⟩
    obtain ⟨e1, e2⟩ := PP.yld i H x H' (Same.refl _) hlt y
    subst e1 e2
    refine ⟨hj _, ?_⟩
    refine rd_yes (iteT ?_)
    refine hs i H' _ hlt S rw_ fun k c p H2 k2 row2 c1 c2 c3 ep => ?_
    have nl : ¬ isRow (.lst (as.map V.ref)) := nr_refs fun v hv => by obtain ⟨x, _, rfl⟩ := List.mem_map.mp hv; rfl
    have eD2 := k2 _ _ nl eD
    have nt : ∀ {T : Addr} {ys : List V}, H2 T = some (.tup ys) → upd H2 D (.lst (as.map V.ref ++ [V.ref p])) T = some (.tup ys) := fun {T ys} q => by
      rw [upd_ne fun z => by subst z; rw [eD2] at q; cases q]; exact q
    refine ⟨_, eD2, by rw [List.length_map]; omega, hlt, (S.trans k2).mut hD, row.butL (S.trans k2) hD row2 eD2, as ++ [p], cs ++ [(k, c)], by rw [upd_same, List.map_append]; rfl, by simp [hl], by simp [hl2], fun b d hb => ?_⟩
    by_cases hbi : b < i
    · rw [List.getElem?_append_left (by omega)] at hb
      obtain ⟨d1, d2, d3, T, d4, d5⟩ := hr b d hb
      exact ⟨d1, d2, d3, T, by rw [List.getElem?_append_left (by omega)]; exact d4, nt (k2 _ _ nr_tup d5)⟩
    · rw [List.getElem?_append_right (by omega)] at hb
      have hb0 : b - cs.length = 0 := by
        have := (List.getElem?_eq_some_iff.mp hb).1
        simp at this; omega
      rw [hb0] at hb
      cases hb
      refine ⟨c1, c2, c3, p, ?_, nt ep⟩
      rw [List.getElem?_append_right (by omega), show b - as.length = 0 by omega]; rfl
  · have e : i = n := by omega
    subst e
    refine .inl ⟨PP.stop H (Same.refl _), hd H cs S rw_ ⟨_, eD, by rw [List.length_map]; omega, fun b c hb => ?_⟩ hl2⟩
    obtain ⟨d1, d2, d3, T, d4, d5⟩ := hr b c hb
    exact ⟨d1, d2, d3, T, by rw [List.getElem?_map, d4]; rfl, d5⟩
theorem ks_all {x : Nat} : x ∈ ks ss ↔ x < (tyL ss).length := by
  have h := (iniS_run ss ([], 0) (fun p => ⟨0, by simp⟩) (by simp)).2 x
  have e := run_snd ss
  unfold run at e
  rw [e] at h
  exact h
theorem rd_maxKs (h : H l = some (.lst (natV (ks ss)))) (hp : 0 < (ks ss).length) (q : Q (.int (((tyL ss).length : Int) - 1)) H) : rMax K [.ref l] H Q := by
  refine ⟨l, (ks ss).map fun m => ((m : Nat) : Int), rfl, SqL.of (by rw [h, natV_ints]), by rw [List.length_map]; exact hp, fun m hm hle => ?_⟩
  obtain ⟨x, hx, rfl⟩ := List.mem_map.mp hm
  have hx := ks_all.mp hx
  have := hle _ (List.mem_map.mpr ⟨(tyL ss).length - 1, ks_all.mpr (by omega), rfl⟩)
  rw [show ((x : Nat) : Int) = ((tyL ss).length : Int) - 1 by omega]
  exact q
theorem xyz_at {n : Nat} (h : n < 3) : (tl ("xyz" : Str))[n]? = some (120 + n) := by
  have e : tl ("xyz" : Str) = [120, 121, 122] := by decide +kernel
  rw [e]
  rcases n with _ | _ | _ | n
  · rfl
  · rfl
  · rfl
  · omega
theorem xyz_small : ("xyz" : Str).length ≤ sizeLine := by rw [sizeLine_eq]; decide +kernel
theorem LX.kp {a : Addr} {H' : Hp} (h : LX K H a ss) (e : Kp H H') : LX K H' a ss := let ⟨ms, q, s⟩ := h; ⟨ms, e _ _ (nr_refs s.refs) q, s.kp e⟩
theorem rd_slLX {a : Addr} {i : Nat} (h : LX K H a ss) (q : ∀ p H', Same H H' → LX K H' p (ss.take i) → Q (.ref p) H') : rSlL K (.ref a) none (some (i : Nat)) H Q := by
  obtain ⟨ms, e, s⟩ := h
  refine rd_slL (SqL.of e) fun p hp => q p _ (Same.new (Same.refl _) hp) ⟨ms.take i, by rw [upd_same, cutV_to], ?_, fun b t hb => ?_⟩
  · rw [List.length_take, List.length_take, s.1]
  · by_cases hbi : b < i
    · rw [List.getElem?_take_of_lt hbi] at hb
      obtain ⟨v, h1, h2⟩ := s.2 b t hb
      exact ⟨v, by rw [List.getElem?_take_of_lt hbi]; exact h1, h2.mono (Same.new (Same.refl _) hp)⟩
    · rw [List.getElem?_eq_none (by rw [List.length_take]; omega)] at hb
      cases hb
/-- the keys of the first steps are the first keys -/
theorem ks_takeL (ss : List Stp) (i : Nat) : ks (ss.take i) = (ks ss).take (ks (ss.take i)).length := by
  have e : ss = ss.take i ++ ss.drop i := (List.take_append_drop i ss).symm
  obtain ⟨m, hm⟩ := run_pre (ss.drop i) (run (ss.take i))
  have h : ks ss = ks (ss.take i) ++ m := by
    unfold ks
    conv => lhs; rw [e, run_append]
    exact hm
  rw [h, List.take_left']
  rfl
end
end L2.Px

set_option Elab.async false
set_option linter.all false
set_option maxRecDepth 100000
set_option maxHeartbeats 1000000
/-! texts of written words alone (law k11) -/
namespace L2.Px
open PySem PySem.Spec PyProof.Rows StX TL
/-- steps that write the letters L, n words of 20 (the last may be shorter) -/
def plS (L : List Nat) (n : Nat) : List Stp := (List.range n).map fun k => .wr (mkS ((L.drop (20 * k)).take 20))
theorem plS_succ (L : List Nat) (n : Nat) : plS L (n + 1) = plS L n ++ [.wr (mkS ((L.drop (20 * n)).take 20))] := by
  unfold plS
  rw [List.range_succ, List.map_append]; rfl
theorem tyL_plS (L : List Nat) : ∀ n, tyL (plS L n) = L.take (20 * n)
  | 0 => rfl
  | n + 1 => by
    rw [plS_succ, tyL_append, tyL_plS L n]
    show L.take (20 * n) ++ (tl (mkS ((L.drop (20 * n)).take 20)) ++ []) = _
    rw [List.append_nil, tl_mkS, show 20 * (n + 1) = 20 * n + 20 by omega, List.take_add]
theorem run_plS (L : List Nat) : ∀ n, run (plS L n) = (List.range (L.take (20 * n)).length, (L.take (20 * n)).length)
  | 0 => by simp [plS, run]
  | n + 1 => by
    rw [plS_succ, run_append, run_plS L n]
    show (List.range _ ++ List.range' _ _, _ + _) = _
    rw [mkS_len, show 20 * (n + 1) = 20 * n + 20 by omega, List.take_add, List.length_append, List.range_eq_range', List.range_eq_range', ← List.range'_append_1, Nat.zero_add]
theorem ks_plS (L : List Nat) (n : Nat) : ks (plS L n) = List.range (L.take (20 * n)).length := by unfold ks; rw [run_plS]
theorem sz_plS (L : List Nat) : ∀ n, sz (plS L n) = (L.take (20 * n)).length
  | 0 => by simp [plS, sz]
  | n + 1 => by
    rw [plS_succ, sz_append, sz_plS L n]
    show _ + (Str.length (mkS _) + 0) = _
    rw [mkS_len, show 20 * (n + 1) = 20 * n + 20 by omega, List.take_add, List.length_append, Nat.add_zero]
theorem ok_words : ∀ (ss : List Stp) (m : Nat), (∀ s ∈ ss, ∃ w, s = .wr w ∧ okStep 0 s) → m + sz ss ≤ 1000000000000000000 → okFrom m ss
  | [], _, _, _ => trivial
  | s :: r, m, h, hz => by
    obtain ⟨w, rfl, h1⟩ := h s List.mem_cons_self
    have hz : m + (len1 (.wr w) + sz r) ≤ 1000000000000000000 := hz
    exact ⟨h1, by omega, ok_words r _ (fun s hs => h s (List.mem_cons_of_mem _ hs)) (by omega)⟩
theorem ok_plS {L : List Nat} {n : Nat} (hL : ∀ c ∈ L, 97 ≤ c ∧ c ≤ 122) (hn : 20 * n < L.length + 20) (hs : L.length ≤ 1000) : okFrom 0 (plS L n) := by
  refine ok_words _ _ (fun s hs => ?_) (by rw [sz_plS, List.length_take]; omega)
  obtain ⟨k, hk, rfl⟩ := List.mem_map.mp hs
  have hk := List.mem_range.mp hk
  refine ⟨_, rfl, ?_, ?_, fun c hc => hL c (List.mem_of_mem_drop (List.mem_of_mem_take hc))⟩
  · rw [mkS_len, List.length_take, List.length_drop]; omega
  · rw [mkS_len, List.length_take]; omega
theorem plS_len (L : List Nat) (n : Nat) : (plS L n).length = n := by simp [plS]
end L2.Px

set_option Elab.async false
set_option linter.all false
set_option maxRecDepth 100000
set_option maxHeartbeats 1000000
/-! slices and ranges with a step, counts in a list, dicts that differ not; texts of equal letters (law k11) -/
namespace L2.Px
open PySem PySem.Spec PyProof.Rows StX TL
/-! ### text[::k] -/
section
variable {X : Cx} {e st : Expr} {te : TE} {lo hi : Option Expr} {t1 t2 t3 : TO} {pos p2 : Pos}
def Sl3 (X : Cx) (r : V → Option Int → Option Int → Option Int → Hp → VK → Prop) : Prop :=
  ∀ (pins : List (Addr × Obj)) (s : Shared) (σ : St) (H : Hp) (x : V) (v vl vu vk : Value) (lo hi k : Option Int) (sl : Addr) (Q : VK), Inv X pins σ H s → RelV x v → s.heap.IsSliceOf sl vl vu vk → IsPart vl lo → IsPart vu hi → IsPart vk k → r x lo hi k H Q →
    ∃ T id, typeLookup (.type T) "__getitem__" = pure (some (.builtin id)) ∧ s.TypeIs v T ∧ wpAny (model X.prog X.w) X.A (getItem v (.ref sl)) (EP X pins σ Q) X.xe s
def tSl3 (r : V → Option Int → Option Int → Option Int → Hp → VK → Prop) (te : TE) (t1 t2 t3 : TO) : TE := fun σ H Q => te σ H fun x H1 => t1 σ H1 fun l H2 => t2 σ H2 fun u H3 => t3 σ H3 fun k H4 => r x l u k H4 Q
theorem pe_slice3 {r : V → Option Int → Option Int → Option Int → Hp → VK → Prop} (hr : Sl3 X r) (he : PE X e te) (hl : PO X lo t1) (hu : PO X hi t2) (hk : PO X (some st) t3) : PE X (.Subscript e (.Slice lo hi (some st) p2) pos) (tSl3 r te t1 t2 t3) := by
  refine ⟨fun pins s σ H Q I h => ?_⟩
  refine Subscript_ (thn (he.run pins s σ H _ I h) fun v s1 ⟨x, H1, I1, r1, q1⟩ => ?_)
  refine wpAny_Slice (thn (hl.run pins s1 σ H1 _ I1 q1) fun vl s2 ⟨l, H2, I2, pl, q2⟩ => thn (hu.run pins s2 σ H2 _ I2 q2) fun vu s3 ⟨u, H3, I3, pu, q3⟩ => thn (hk.run pins s3 σ H3 _ I3 q3) fun vk s4 ⟨k, H4, I4, pk, q4⟩ => ?_)
  have I5 : Inv X pins σ H4 { s4 with heap := s4.heap.push { cls := .type "slice", data := .fields #[vl, vu, vk] } } := I4.kept (t' := s4.toks) fun b ob q => Heap.get?_push_of_some _ q
  obtain ⟨T, id, hT, ht, hg⟩ := hr pins { s4 with heap := s4.heap.push { cls := .type "slice", data := .fields #[vl, vu, vk] } } σ H4 x v vl vu vk l u k s4.heap.objs.size Q I5 r1 (Heap.IsSliceOf.new ..) pl pu pk q4
  show wpAny (model X.prog X.w) X.A (subscriptTail e (.Slice lo hi (some st) p2) v (.ref s4.heap.objs.size)) (EP X pins σ Q) X.xe { s4 with heap := s4.heap.push { cls := .type "slice", data := .fields #[vl, vu, vk] } }
  exact tail_any (ops := [v, .ref s4.heap.objs.size]) ht hT hg (by with_unfolding_all rfl)
def stepS (z : Str) (k : Nat) : Str := ⟨((List.range ((z.length + k - 1) / k)).filterMap fun i => z.cps[k * i]?).toArray⟩
def rSlS3 : V → Option Int → Option Int → Option Int → Hp → VK → Prop := fun x lo hi k H Q => ∃ z, ∃ m : Nat, x = .str z ∧ lo = none ∧ hi = none ∧ k = some ((m : Nat) : Int) ∧ 2 ≤ m ∧ z.length ≤ sizeLine ∧ Q (.str (stepS z m)) H
theorem step_idx (n m : Nat) (hm : 2 ≤ m) : Builtin.Str.strSliceIndices none none (m : Int) n = (List.range ((n + m - 1) / m)).map fun k => m * k := by
  unfold Builtin.Str.strSliceIndices sliceRange
  have h0 : ((m : Nat) : Int) > 0 := by omega
  simp only [if_pos h0]
  by_cases h : (0 : Int) < (n : Int)
  · rw [if_pos h]
    have e : ((n : Int) - 0 + (m : Int) - 1) / (m : Int) = (((n + m - 1) / m : Nat) : Int) := by
      rw [show ((n : Int) - 0 + (m : Int) - 1) = ((n + m - 1 : Nat) : Int) by omega]
      rfl
    rw [e, Int.toNat_natCast]
    refine List.map_congr_left fun k _ => ?_
    rw [Int.zero_add, ← Int.natCast_mul, Int.toNat_natCast]
  · rw [if_neg h]
    have e : (n + m - 1) / m = 0 := Nat.div_eq_of_lt (by omega)
    rw [e]; rfl
theorem stepS_len (z : Str) {m : Nat} (hm : 2 ≤ m) : (stepS z m).length ≤ z.length := by
  show (((List.range ((z.length + m - 1) / m)).filterMap fun i => z.cps[m * i]?).toArray).size ≤ _
  rw [List.size_toArray]
  refine Nat.le_trans (List.length_filterMap_le _ _) ?_
  rw [List.length_range]
  by_cases h : z.length = 0
  · rw [h, Nat.div_eq_of_lt (by omega)]; omega
  · exact Nat.le_trans (Nat.div_le_of_le_mul (by
      have : z.length * 2 ≤ m * z.length := by rw [Nat.mul_comm m]; exact Nat.mul_le_mul_left _ hm
      have : 1 * m ≤ z.length * m := Nat.mul_le_mul_right _ (by omega)
      rw [Nat.mul_comm m z.length] at *
      show z.length + m - 1 ≤ z.length * m
      obtain ⟨a, ha⟩ : ∃ a, z.length = a + 1 := ⟨z.length - 1, by omega⟩
      obtain ⟨b, hb⟩ : ∃ b, m = b + 2 := ⟨m - 2, by omega⟩
      rw [ha, hb, Nat.add_mul, Nat.mul_add, Nat.mul_add]
      have := Nat.zero_le (a * b)
      omega)) (Nat.le_refl _)
theorem sl_str3 : Sl3 X rSlS3 := by
  intro pins s σ H x v vl vu vk lo hi k sl Q I rx hs pl pu pk h
  obtain ⟨z, m, rfl, rfl, rfl, rfl, hm, hz, q⟩ := h
  obtain ⟨t, rfl⟩ := rx
  obtain ⟨os, hos, hcs, hds⟩ := hs
  cases pl; cases pu
  obtain ⟨c, rfl, hc⟩ := IsPart.raw pk
  refine ⟨"str", _, F.slot_str_getitem.lookup, typeIs_str _ _ _, ?_⟩
  refine wpAny_getItem_str_slice (l := none) (u := none) (st := c) ⟨os, hos, hcs, hds⟩ (by rw [hc]; simp; omega) ?_
  have e : slicePicked z none none c = (List.range ((z.length + m - 1) / m)).map fun k => m * k := by
    unfold slicePicked
    rw [hc]
    exact step_idx z.length m hm
  unfold sliceMade
  rw [e, hc]
  have e2 : ((List.range ((z.length + m - 1) / m)).map fun k => m * k).filterMap (z.cps[·]?) = (List.range ((z.length + m - 1) / m)).filterMap fun i => z.cps[m * i]? := by
    rw [List.filterMap_map]; rfl
  rw [e2, if_neg (by
    have : ¬ ((m : Int) = 1) := by omega
    simp [this])]
  exact ⟨Nat.le_trans (stepS_len z hm) hz, .str _, H, I.tok _, ⟨_, rfl⟩, q⟩
end
section
variable {K : PySem.W.Frag} {CT CP : Addr} {H H' H1 : Hp} {Q : VK} {E : XK} {a b l r : Addr} {ss tt : List Stp} {i j : Int} {L M : List Nat} {f g : Nat → Nat} {cs ds : List Nat} {t1 t2 t3 : TO} {te : TE} {σ : St}
def stepL (L : List Nat) (m : Nat) : List Nat := (List.range ((L.length + m - 1) / m)).map fun i => L[m * i]?.getD 0
theorem stepS_mk (L : List Nat) {m : Nat} (hm : 2 ≤ m) : stepS (mkS L) m = mkS (stepL L m) := by
  unfold stepS stepL
  rw [mkS_len]
  congr 2
  have : ∀ n, n ≤ (L.length + m - 1) / m → (List.range n).filterMap (fun i => (mkS L).cps[m * i]?) = (List.range n).map fun i => L[m * i]?.getD 0 := by
    intro n hn
    induction n with
    | zero => rfl
    | succ n ih =>
      have hlt : m * n < L.length := by
        have h1 : n + 1 ≤ (L.length + m - 1) / m := hn
        have h2 := (Nat.le_div_iff_mul_le (by omega)).mp h1
        rw [Nat.add_mul, Nat.mul_comm n m] at h2
        omega
      have e : (mkS L).cps[m * n]? = some (L[m * n]'hlt) := by
        show (L.toArray)[m * n]? = _
        rw [List.getElem?_toArray, List.getElem?_eq_getElem hlt]
      rw [List.range_succ, List.filterMap_append, List.map_append, ih (by omega)]
      simp only [List.filterMap_cons, List.filterMap_nil, List.map_cons, List.map_nil, e, List.getElem?_eq_getElem hlt, Option.getD_some]
  exact this _ (Nat.le_refl _)
theorem rd_sl3 {rr : V → Option Int → Option Int → Option Int → Hp → VK → Prop} (h : te σ H fun x H1 => t1 σ H1 fun l H2 => t2 σ H2 fun u H3 => t3 σ H3 fun k H4 => rr x l u k H4 Q) : tSl3 rr te t1 t2 t3 σ H Q := h
theorem rd_sl3S {m : Nat} (hm : 2 ≤ m) (hz : L.length ≤ 16777216) (q : Q (.str (mkS (stepL L m))) H) : rSlS3 (.str (mkS L)) none none (some ((m : Nat) : Int)) H Q :=
  ⟨_, m, rfl, rfl, rfl, rfl, hm, by rw [mkS_len, sizeLine_eq]; exact hz, by rw [stepS_mk L hm]; exact q⟩
theorem cutS_mk (L : List Nat) (i j : Nat) (h : i ≤ L.length) : cutS (mkS L) (some (i : Nat)) (some ((i + j : Nat) : Int)) = mkS ((L.drop i).take j) := by
  refine ext_tl ?_
  rw [tl_mkS]
  unfold cutS
  rw [HT.sIx_nat, HT.sIx_nat, mkS_len, Nat.min_eq_left h]
  show (L.drop i).take (min (i + j) L.length - i) = _
  by_cases hj : i + j ≤ L.length
  · rw [Nat.min_eq_left hj, Nat.add_sub_cancel_left]
  · rw [Nat.min_eq_right (by omega), List.take_of_length_le (by rw [List.length_drop]; omega), List.take_of_length_le (by rw [List.length_drop]; omega)]
theorem rd_slMk {i j : Int} (h0 : 0 ≤ i) (h1 : i ≤ L.length) (h2 : i ≤ j) (hz : L.length ≤ 16777216) (q : Q (.str (mkS ((L.drop i.toNat).take (j - i).toNat))) H) : rSlS (.str (mkS L)) (some i) (some j) H Q := by
  refine ⟨_, rfl, by rw [mkS_len, sizeLine_eq]; exact hz, ?_⟩
  have := cutS_mk L i.toNat (j - i).toNat (by omega)
  rw [show ((i.toNat : Nat) : Int) = i by omega, show ((i.toNat + (j - i).toNat : Nat) : Int) = j by omega] at this
  rw [this]
  exact q
/-! ### range(0, n, c) -/
theorem rd_iRng3 {t : TA} {Rr : It → Hp → Prop} (h : t σ H fun vs H1 => ∃ (i j c : Int) (n : Nat), vs = [.int i, .int j, .int c] ∧ RgC i j c n ∧ Rr (Itc i c n) H1) : iRng3 t σ H Rr := h
theorem rgC_up {n m : Nat} (hm : 1 ≤ m) (hm2 : m ≤ 1000) (hn : n ≤ 1000000000) : RgC 0 (n : Nat) (m : Nat) ((n + m - 1) / m) := by
  have e : Builtin.Range.rangeSize 0 (n : Nat) (m : Nat) = (((n + m - 1) / m : Nat) : Int) := by
    unfold Builtin.Range.rangeSize
    rw [if_pos (by omega)]
    by_cases h : (0 : Int) < (n : Nat)
    · rw [if_pos h, show ((n : Nat) : Int) - 0 - 1 = ((n - 1 : Nat) : Int) by omega]
      have e1 : (n + m - 1) / m = (n - 1) / m + 1 := by
        rw [show n + m - 1 = (n - 1) + m by omega, Nat.add_div_right _ (by omega)]
      rw [e1]
      rfl
    · rw [if_neg h, Nat.div_eq_of_lt (by omega)]; rfl
  have hle : (n + m - 1) / m ≤ n + m := Nat.le_trans (Nat.div_le_self _ _) (by omega)
  refine ⟨by omega, by omega, ?_, e⟩
  unfold Builtin.Range.small
  rw [e]
  revert hle
  generalize (n + m - 1) / m = q
  intro hle
  simp only [Builtin.Range.rangeFitsLong, Bool.and_eq_true, Bool.or_eq_true, decide_eq_true_eq, beq_iff_eq, show ((m : Nat) : Int) > 0 by omega, if_true]
  omega
theorem plain_rngC {lo c : Int} {n : Nat} : Plain (Itc lo c n) n (fun i => .int (lo + (i : Nat) * c)) H1 where
  stop := fun H s => Nat.le_refl _
  go := fun i H s hi => hi
  yld := fun i H x H' s hi y => ⟨y.1, y.2⟩
/-! ### counts, indexes, dicts -/
theorem mt_lcountK {X : Cx} (hk : X.K = K) : MtR X "list.count" (rCntI K) := hk ▸ mt_lcount
theorem rd_countN {x : Nat} (h : H l = some (.lst (natV L))) (q : Q (.int (L.count x : Nat)) H) : rCntI K (.ref l) [.int (x : Nat)] H Q := by
  refine ⟨l, L.map fun m => ((m : Nat) : Int), (x : Nat), rfl, rfl, SqL.of (by rw [h, natV_ints]), ?_⟩
  have e : ∀ L : List Nat, (L.map fun m => ((m : Nat) : Int)).count ((x : Nat) : Int) = L.count x := fun L => by
    induction L with
    | nil => rfl
    | cons y L ih =>
      rw [List.map_cons, List.count_cons, List.count_cons, ih]
      have : (((y : Nat) : Int) == ((x : Nat) : Int)) = (y == x) := by
        by_cases h : y = x
        · subst h; simp
        · have h' : ¬ (((y : Nat) : Int) = ((x : Nat) : Int)) := by omega
          rw [beq_eq_false_iff_ne.mpr h, beq_eq_false_iff_ne.mpr h']
      rw [this]
  rw [e]
  exact q
theorem rd_ixCl {c : Nat} (hz : L.length ≤ 16777216) (h0 : L.getLast? = some c) (q : Q (.str ⟨#[c]⟩) H) : rIx K (.str (mkS L)) (.int (-1)) H Q := by
  obtain ⟨l, rfl⟩ := List.getLast?_eq_some_iff.mp h0
  exact rd_ixS (by rw [mkS_len, sizeLine_eq]; exact hz) (atI_last l c) q
theorem neDK {X : Cx} (hu : X.A.units + 64 < cLine) : OpR X (compareOp .NotEq) rNeDA := op_ne_dictA (by omega)
theorem rd_neDL (h : H a = some (.dK (kvL f cs))) (g' : H b = some (.dK (kvL g ds))) (hc : cs.Nodup) (hd : ds.Nodup) (hm : ∀ c, c ∈ cs ↔ c ∈ ds) (hfg : ∀ c ∈ cs, f c = g c) (q : Q (.bl false) H) : rNeDA (.ref a) (.ref b) H Q := by
  refine ⟨a, b, _, _, rfl, rfl, h, g', ?_, fun p hp => ?_, q⟩
  · rw [kvL_len, kvL_len]
    exact Nat.le_antisymm (nodup_len hc fun c z => (hm c).mp z) (nodup_len hd fun c z => (hm c).mpr z)
  · obtain ⟨k, v⟩ := p
    obtain ⟨c, hc, rfl, rfl⟩ := kvL_mem hp
    exact ⟨by rw [kvL_val, if_pos ((hm c).mp hc), hfg c hc], rfl⟩
/-! ### all by the letters -/
theorem tot_ls (ok : okFrom 0 ss) (c : Nat) : ∀ {p : Nat}, p ≤ sz ss → tot ss (keysL ss c) p = ((ls ss).take p).count c
  | 0, _ => by rw [tot_zero]; simp
  | p + 1, h => by
    rw [tot_succ ok _ (by omega), tot_ls ok c (by omega), take_snoc (ls_at ok (by omega)), List.count_append]
    congr 1
    have hk := kat_lt ok (p := p) (by omega)
    by_cases e : lat ss (kat ss p) = c
    · rw [show (keysL ss c).count (kat ss p) = 1 from Nat.le_antisymm (List.nodup_iff_count.mp (keysL_nodup c) _) (List.count_pos_iff.mpr (mem_keysL.mpr ⟨hk, e⟩))]
      simp [e]
    · rw [List.count_eq_zero.mpr fun z => e (mem_keysL.mp z).2]
      simp [List.count_cons, e]
theorem lcn_ls (ok : okFrom 0 ss) {f e : Nat} (h : f ≤ e) (he : e ≤ sz ss) (c : Nat) : lcn ss f e c = ((ls ss).take e).count c - ((ls ss).take f).count c := by
  rw [← tot_ls ok c he, ← tot_ls ok c (Nat.le_trans h he)]
  unfold lcn kcs
  rw [lsum_range]
  exact (sum_sub (keysL ss c) (cn ss e) (cn ss f) fun k _ => cn_mono ss k h).1
theorem nth_ls (o1 : okFrom 0 ss) (o2 : okFrom 0 tt) (hl : ls ss = ls tt) {c n p : Nat} (h : IsNth ss (keysL ss c) n p) : IsNth tt (keysL tt c) n p := by
  have z : sz ss = sz tt := by rw [← ls_len o1, ← ls_len o2, hl]
  obtain ⟨h1, h2, h3⟩ := h
  rw [tot_ls o1 c (by omega)] at h2 h3
  refine ⟨by omega, ?_, ?_⟩
  · rw [tot_ls o2 c (by omega), ← hl]; exact h2
  · rw [tot_ls o2 c (by omega), ← hl]; exact h3
theorem opt_ls (o1 : okFrom 0 ss) (o2 : okFrom 0 tt) (hl : ls ss = ls tt) {c n : Nat} {x y : Option Nat} (h1 : ∀ p, x = some p → IsNth ss (keysL ss c) n p) (h2 : x = none → tot ss (keysL ss c) (sz ss) ≤ n)
    (g1 : ∀ p, y = some p → IsNth tt (keysL tt c) n p) (g2 : y = none → tot tt (keysL tt c) (sz tt) ≤ n) : x = y := by
  cases x with
  | none =>
    cases y with
    | none => rfl
    | some q => have := nth_lt (nth_ls o2 o1 hl.symm (g1 q rfl)); have := h2 rfl; omega
  | some p =>
    cases y with
    | none => have := nth_lt (nth_ls o1 o2 hl (h1 p rfl)); have := g2 rfl; omega
    | some q => rw [nth_unique (nth_ls o1 o2 hl (h1 p rfl)) (g1 q rfl)]
theorem mem_ls (ok : okFrom 0 ss) (c : Nat) : c ∈ tyL ss ↔ c ∈ ls ss := by
  unfold ls
  rw [List.mem_map]
  constructor
  · intro h
    obtain ⟨k, hk⟩ := List.mem_iff_getElem?.mp h
    have hl : k < (tyL ss).length := (List.getElem?_eq_some_iff.mp hk).1
    exact ⟨k, (mem_ks ss k).mpr hl, by unfold lat; rw [hk]; rfl⟩
  · rintro ⟨k, hk, rfl⟩
    exact List.mem_of_getElem? (lat_some ((mem_ks ss k).mp hk))
theorem ls_range (hk : ks ss = List.range (tyL ss).length) : ls ss = tyL ss := by
  unfold ls lat
  rw [hk]
  have := range_mapN (tyL ss) fun x => V.int (x : Nat)
  refine List.ext_getElem? fun i => ?_
  by_cases hi : i < (tyL ss).length
  · rw [List.getElem?_map, List.getElem?_range hi, List.getElem?_eq_getElem hi]; simp [List.getElem?_eq_getElem hi]
  · rw [List.getElem?_eq_none (by simpa using hi), List.getElem?_eq_none (by omega)]
theorem pl_all (L : List Nat) : L.take (20 * ((L.length + 20 - 1) / 20)) = L := List.take_of_length_le (by omega)
theorem ls_pl (L : List Nat) : ls (plS L ((L.length + 20 - 1) / 20)) = L := by
  have e : tyL (plS L ((L.length + 20 - 1) / 20)) = L := by rw [tyL_plS, pl_all]
  rw [ls_range (by rw [ks_plS, pl_all, e]), e]
/-! ### the first place that is not its own key -/
def headV : List Nat → V
  | [] => .non
  | x :: _ => .int (x : Nat)
def early (L : List Nat) : List Nat := (List.range L.length).filter fun p => decide (L[p]?.getD 0 ∈ L.take p)
def due (L : List Nat) : List Nat := (List.range L.length).filter fun p => !decide (L[p]?.getD 0 = p)
theorem headV_find (n : Nat) (p : Nat → Bool) : headV ((List.range n).filter p) = (match (List.range n).find? p with | none => .non | some x => .int (x : Nat)) := by
  rw [← List.head?_filter]
  cases (List.range n).filter p <;> rfl
theorem first_due {L : List Nat} (h : IniS L) {i : Nat} (hi : i < L.length) (hn : L[i]?.getD 0 ≠ i) (hb : ∀ j, j < i → L[j]?.getD 0 = j) : L[i]?.getD 0 ∈ L.take i := by
  have hk : L[i]? = some (L[i]?.getD 0) := by rw [List.getElem?_eq_getElem hi]; rfl
  have a := (few_step h hk).1
  have b := few_le h i
  rw [few_spec h]
  have e : L.take i = List.range i := by
    refine List.ext_getElem? fun j => ?_
    by_cases hj : j < i
    · rw [List.getElem?_take_of_lt hj, List.getElem?_range hj]
      have := hb j hj
      rw [List.getElem?_eq_getElem (by omega)] at this ⊢
      exact congrArg some this
    · rw [List.getElem?_eq_none (by rw [List.length_take]; omega), List.getElem?_eq_none (by rw [List.length_range]; omega)]
  have c : i ≤ few L i := by
    refine Nat.le_of_not_lt fun z => ?_
    have := (few_spec h i (few L i)).mp (by rw [e]; exact List.mem_range.mpr z)
    omega
  omega
theorem early_due {L : List Nat} (h : IniS L) : headV (early L) = headV (due L) := by
  unfold early due
  rw [headV_find, headV_find]
  have e : (List.range L.length).find? (fun p => decide (L[p]?.getD 0 ∈ L.take p)) = (List.range L.length).find? fun p => !decide (L[p]?.getD 0 = p) := by
    have sub : ∀ i, i < L.length → L[i]?.getD 0 ∈ L.take i → L[i]?.getD 0 ≠ i := fun i hi hm => by
      rw [few_spec h] at hm
      have := few_le h i
      omega
    cases e2 : (List.range L.length).find? fun p => !decide (L[p]?.getD 0 = p) with
    | none =>
      rw [List.find?_eq_none] at e2 ⊢
      intro x hx z
      have := e2 x hx
      simp at this z
      exact sub x (List.mem_range.mp hx) z this
    | some i =>
      rw [List.find?_range_eq_some] at e2 ⊢
      obtain ⟨d1, d2, d3⟩ := e2
      simp at d1
      have hi := List.mem_range.mp d2
      have hb : ∀ j, j < i → L[j]?.getD 0 = j := fun j hj => by have := d3 j hj; simpa using this
      refine ⟨by simpa using first_due h hi d1 hb, d2, fun j hj => ?_⟩
      have hb := hb j hj
      have := sub j (by omega)
      simp only [Bool.not_eq_true', decide_eq_false_iff_not]
      exact fun z => this z hb
  rw [e]
theorem unl_range {L : List Nat} : unlV L (List.range L.length) = headV (due L) := by
  unfold due
  rw [headV_find]
  cases e2 : (List.range L.length).find? fun p => !decide (L[p]?.getD 0 = p) with
  | none =>
    rw [List.find?_eq_none] at e2
    have e : L = List.range L.length := by
      refine List.ext_getElem? fun j => ?_
      by_cases hj : j < L.length
      · rw [List.getElem?_range hj]
        have := e2 j (List.mem_range.mpr hj)
        simp at this
        rw [List.getElem?_eq_getElem hj] at this ⊢
        exact congrArg some this
      · rw [List.getElem?_eq_none (by omega), List.getElem?_eq_none (by rw [List.length_range]; omega)]
    rw [← e, unlV_same]
  | some i =>
    rw [List.find?_range_eq_some] at e2
    obtain ⟨d1, d2, d3⟩ := e2
    simp at d1
    have hi := List.mem_range.mp d2
    have hb : ∀ j, j < i → L[j]?.getD 0 = j := fun j hj => by have := d3 j hj; simpa using this
    have e : i = pre L (List.range L.length) := pre_eq (by omega) (by rw [List.length_range]; omega) (fun j hj => by
      rw [List.getElem?_range (by omega)]
      have := hb j hj
      rw [List.getElem?_eq_getElem (by omega)] at this ⊢
      exact congrArg some this) (.inr (.inr (by
        rw [List.getElem?_range hi]
        rw [List.getElem?_eq_getElem hi] at d1 ⊢
        exact fun z => d1 (Option.some.inj z))))
    unfold unlV
    rw [← e, if_neg (by omega)]
/-! ### retyped to one letter -/
theorem rts_all {c : Nat} : ∀ (cs : List (Nat × Nat)) (ss : List Stp) (k : Nat), (∀ x ∈ cs, x.2 = c) → k < (tyL ss).length → (k ∈ cs.map (·.1) ∨ (tyL ss)[k]? = some c) → (tyL (rts cs ss))[k]? = some c
  | [], ss, k, _, _, h => by
    rcases h with h | h
    · simp at h
    · exact h
  | x :: cs, ss, k, ha, hk, h => by
    show (tyL (rts cs (rt x.1 x.2 0 ss)))[k]? = some c
    have hx := ha x List.mem_cons_self
    refine rts_all cs _ k (fun y hy => ha y (List.mem_cons_of_mem _ hy)) (by rw [tyL_rt0, List.length_set]; exact hk) ?_
    rw [tyL_rt0, hx, List.getElem?_set]
    by_cases e : x.1 = k
    · exact .inr (by rw [if_pos e, e, if_pos hk])
    · rw [if_neg e]
      rcases h with h | h
      · rw [List.map_cons, List.mem_cons] at h
        rcases h with h | h
        · exact absurd h.symm e
        · exact .inl h
      · exact .inr h
theorem step_rts {cs : List (Nat × Nat)} {n : Nat} (hk : ks tt = List.range (tyL tt).length) (hn : n = ((tyL tt).length + 7 - 1) / 7) (hc : cs = (List.range n).map fun i => (7 * i, 113)) : stepL (ls (rts cs tt)) 7 = (List.replicate n [113]).flatten := by
  have e : ls (rts cs tt) = tyL (rts cs tt) := ls_range (by rw [ks_rts, hk, tyL_rts_len])
  rw [e, List.flatten_replicate_singleton]
  unfold stepL
  rw [tyL_rts_len, ← hn, List.eq_replicate_iff]
  refine ⟨by simp, fun b hb => ?_⟩
  obtain ⟨i, hi, rfl⟩ := List.mem_map.mp hb
  have hi := List.mem_range.mp hi
  have h1 : i + 1 ≤ ((tyL tt).length + 7 - 1) / 7 := by omega
  have h2 := (Nat.le_div_iff_mul_le (by decide)).mp h1
  rw [rts_all (c := 113) cs tt (7 * i) (fun x hx => by subst hc; obtain ⟨j, _, rfl⟩ := List.mem_map.mp hx; rfl) (by omega) (.inl (by
    subst hc
    rw [List.map_map]
    exact List.mem_map.mpr ⟨i, List.mem_range.mpr hi, rfl⟩))]
  rfl
theorem rd_rgN {n : Nat} (hn : n ≤ 16777216) (q : ∀ p H', Same H H' → H' p = some (.lst (natV (List.range n))) → Q (.ref p) H') : RgOk 0 (n : Nat) ∧ ∀ q, H q = none → Q (.ref q) (upd H q (.lst (rgV 0 (n : Nat)))) := by
  refine rd_rgq ⟨by omega, by omega⟩ ⟨by omega, by omega⟩ (new_of fun p H' S e => q p H' S ?_)
  have := rgV_nat 0 n
  rw [show ((0 : Nat) : Int) = 0 from rfl] at this
  rw [e, this, Nat.sub_zero, ← List.range_eq_range']
  rfl
theorem rgV_zero (n : Nat) : rgV 0 (n : Nat) = natV (List.range n) := by
  have := rgV_nat 0 n
  rw [show ((0 : Nat) : Int) = 0 from rfl] at this
  rw [this, Nat.sub_zero, ← List.range_eq_range']
  rfl
theorem headV_at (L : List Nat) : (natV L ++ [V.non])[0]? = some (headV L) := by cases L <;> rfl
theorem headV_scal (L : List Nat) : scal (headV L) (headV L) = true := by cases L <;> rfl
variable (K CT CP)
def sp_x_law_plain : Sp := fun vs H Q _ => ∃ L, vs = [.str (mkS L)] ∧ (∀ c ∈ L, 97 ≤ c ∧ c ≤ 122) ∧ L.length ≤ 500 ∧ ∀ a H', Same H H' → TX K CT CP H' a (plS L ((L.length + 20 - 1) / 20)) → Q (.ref a) H'
def sp_x_law_are_alike : Sp := fun vs H Q _ => ∃ r a b ss tt, vs = [.ref r, .ref a, .ref b] ∧ RowAt K H r ∧ TX K CT CP H a ss ∧ TX K CT CP H b tt ∧ ls ss = ls tt ∧ sz ss ≤ 500 ∧ ∀ H', Kp H H' → RowAt K H' r → Q (.bl true) H'
variable {K CT CP}
theorem rd_plain (hL : ∀ c ∈ L, 97 ≤ c ∧ c ≤ 122) (hz : L.length ≤ 500) (q : ∀ a H', Same H H' → TX K CT CP H' a (plS L ((L.length + 20 - 1) / 20)) → Q (.ref a) H') : sp_x_law_plain K CT CP [.str (mkS L)] H Q E := ⟨L, rfl, hL, hz, q⟩
theorem rd_areAlike (row : RowAt K H r) (h : TX K CT CP H a ss) (h' : TX K CT CP H b tt) (hl : ls ss = ls tt) (hz : sz ss ≤ 500) (q : ∀ H', Kp H H' → RowAt K H' r → Q (.bl true) H') : sp_x_law_are_alike K CT CP [.ref r, .ref a, .ref b] H Q E := ⟨r, a, b, ss, tt, rfl, row, h, h', hl, hz, q⟩
end
end L2.Px

set_option Elab.async false
set_option linter.all false
set_option maxRecDepth 100000
set_option maxHeartbeats 1000000
/-! tied keys: heads, classes, the fewest changes (mathematics) -/
namespace L2.Px
open PySem PySem.Spec PyProof.Rows StX TL
/-- f leads each key along the heads hs to its root -/
structure Rt (hs : List Nat) (f : Nat → Nat) : Prop where
  le : ∀ k, k < hs.length → hs[k]?.getD 0 ≤ k
  root : ∀ k, k < hs.length → hs[k]?.getD 0 = k → f k = k
  step : ∀ k, k < hs.length → f k = f (hs[k]?.getD 0)
theorem Rt.spec {hs : List Nat} {f : Nat → Nat} (h : Rt hs f) : ∀ k, k < hs.length → f k ≤ k ∧ hs[f k]?.getD 0 = f k ∧ f (f k) = f k := by
  intro k
  induction k using Nat.strongRecOn with
  | _ k ih =>
    intro hk
    by_cases e : hs[k]?.getD 0 = k
    · have r := h.root k hk e
      rw [r]
      exact ⟨Nat.le_refl _, e, r⟩
    · have l := h.le k hk
      obtain ⟨i1, i2, i3⟩ := ih _ (by omega) (show hs[k]?.getD 0 < hs.length by omega)
      rw [h.step k hk]
      exact ⟨by omega, i2, i3⟩
theorem Rt.start (n : Nat) : Rt (List.range n) id := by
  refine ⟨fun k hk => ?_, fun k _ _ => rfl, fun k hk => ?_⟩ <;> rw [List.length_range] at hk <;> rw [List.getElem?_range hk] <;> simp
def tieF (f : Nat → Nat) (a b : Nat) : Nat → Nat := fun k => if f k = max (f a) (f b) then min (f a) (f b) else f k
theorem tieF_at {f : Nat → Nat} {a b k : Nat} : (f k = max (f a) (f b) ∧ tieF f a b k = min (f a) (f b)) ∨ (f k ≠ max (f a) (f b) ∧ tieF f a b k = f k) := by
  unfold tieF
  by_cases h : f k = max (f a) (f b)
  · exact .inl ⟨h, if_pos h⟩
  · exact .inr ⟨h, if_neg h⟩
theorem Rt.tie {hs : List Nat} {f : Nat → Nat} (h : Rt hs f) {a b : Nat} (ha : a < hs.length) (hb : b < hs.length) : Rt (hs.set (max (f a) (f b)) (min (f a) (f b))) (tieF f a b) := by
  obtain ⟨a1, a2, a3⟩ := h.spec a ha
  obtain ⟨b1, b2, b3⟩ := h.spec b hb
  obtain ⟨m, hm, hmax⟩ : ∃ m, m < hs.length ∧ max (f a) (f b) = m := ⟨_, by omega, rfl⟩
  obtain ⟨l, hl, hmin⟩ : ∃ l, l ≤ m ∧ min (f a) (f b) = l := ⟨_, by omega, rfl⟩
  have hfm : f m = m := by
    rcases Nat.le_total (f a) (f b) with z | z
    · rw [← hmax, Nat.max_eq_right z, b3]
    · rw [← hmax, Nat.max_eq_left z, a3]
  have hfl : f l = l := by
    rcases Nat.le_total (f a) (f b) with z | z
    · rw [← hmin, Nat.min_eq_left z, a3]
    · rw [← hmin, Nat.min_eq_right z, b3]
  have T : ∀ k, (f k = m ∧ tieF f a b k = l) ∨ (f k ≠ m ∧ tieF f a b k = f k) := fun k => by
    have := tieF_at (f := f) (a := a) (b := b) (k := k)
    rwa [hmax, hmin] at this
  rw [hmax, hmin]
  refine ⟨fun k hk => ?_, fun k hk e => ?_, fun k hk => ?_⟩ <;> rw [List.length_set] at hk
  · rw [List.getElem?_set]
    by_cases e : m = k
    · rw [if_pos e, if_pos (by omega)]; simp; omega
    · rw [if_neg e]; exact h.le k hk
  · rw [List.getElem?_set] at e
    by_cases e' : m = k
    · rw [if_pos e', if_pos (by omega)] at e
      simp at e
      rcases T k with ⟨t1, t2⟩ | ⟨t1, t2⟩
      · omega
      · subst e'; exact absurd hfm t1
    · rw [if_neg e'] at e
      have := h.root k hk e
      rcases T k with ⟨t1, t2⟩ | ⟨t1, t2⟩
      · omega
      · rw [t2, this]
  · rw [List.getElem?_set]
    by_cases e' : m = k
    · rw [if_pos e', if_pos (by omega)]
      simp only [Option.getD_some]
      rcases T k with ⟨t1, t2⟩ | ⟨t1, t2⟩
      · rcases T l with ⟨u1, u2⟩ | ⟨u1, u2⟩
        · rw [t2, u2]
        · rw [t2, u2, hfl]
      · subst e'; exact absurd hfm t1
    · rw [if_neg e']
      have := h.step k hk
      rcases T k with ⟨t1, t2⟩ | ⟨t1, t2⟩ <;> rcases T (hs[k]?.getD 0) with ⟨u1, u2⟩ | ⟨u1, u2⟩ <;> rw [t2, u2] <;> omega
/-- f is the ties of P, and no more -/
structure Clo (P : List (Nat × Nat)) (f : Nat → Nat) : Prop where
  tied : ∀ p ∈ P, f p.1 = f p.2
  fix : ∀ g : Nat → Nat, (∀ p ∈ P, g p.1 = g p.2) → ∀ k, g (f k) = g k
theorem Clo.start : Clo [] id := ⟨fun p h => (by cases h), fun g _ k => rfl⟩
theorem Clo.tie {P : List (Nat × Nat)} {f : Nat → Nat} (h : Clo P f) (a b : Nat) : Clo (P ++ [(a, b)]) (tieF f a b) := by
  refine ⟨fun p hp => ?_, fun g hg k => ?_⟩
  · rcases List.mem_append.mp hp with hp | hp
    · have := h.tied p hp
      unfold tieF
      rw [this]
    · rw [List.mem_singleton.mp hp]
      show tieF f a b a = tieF f a b b
      rcases tieF_at (f := f) (a := a) (b := b) (k := a) with ⟨t1, t2⟩ | ⟨t1, t2⟩ <;> rcases tieF_at (f := f) (a := a) (b := b) (k := b) with ⟨u1, u2⟩ | ⟨u1, u2⟩ <;> rw [t2, u2] <;> omega
  · have hp := fun p hp => hg p (List.mem_append_left _ hp)
    have hab := hg (a, b) (List.mem_append_right _ List.mem_cons_self)
    have ha := h.fix g hp a
    have hb := h.fix g hp b
    have hk := h.fix g hp k
    have e : g (max (f a) (f b)) = g (min (f a) (f b)) := by
      rcases Nat.le_total (f a) (f b) with z | z
      · rw [Nat.max_eq_right z, Nat.min_eq_left z, ha, hb]; exact hab.symm
      · rw [Nat.max_eq_left z, Nat.min_eq_right z, ha, hb]; exact hab
    rcases tieF_at (f := f) (a := a) (b := b) (k := k) with ⟨t1, t2⟩ | ⟨t1, t2⟩
    · rw [t2, ← e, ← t1, hk]
    · rw [t2, hk]
def tiesF (P : List (Nat × Nat)) : Nat → Nat := P.foldl (fun f p => tieF f p.1 p.2) id
theorem tiesF_snoc (P : List (Nat × Nat)) (a b : Nat) : tiesF (P ++ [(a, b)]) = tieF (tiesF P) a b := by unfold tiesF; rw [List.foldl_append]; rfl
theorem rev_ind {α : Type} {motive : List α → Prop} (h0 : motive []) (hs : ∀ l a, motive l → motive (l ++ [a])) (l : List α) : motive l := by
  have : ∀ n (l : List α), l.length = n → motive l := by
    intro n
    induction n with
    | zero => intro l hl; rw [List.length_eq_zero_iff.mp hl]; exact h0
    | succ n ih =>
      intro l hl
      have hne : l ≠ [] := fun z => by rw [z] at hl; simp at hl
      have e := List.dropLast_concat_getLast hne
      rw [← e]
      exact hs _ _ (ih _ (by rw [List.length_dropLast, hl]; rfl))
  exact this _ l rfl
theorem clo_ties (P : List (Nat × Nat)) : Clo P (tiesF P) := by
  refine rev_ind (motive := fun P => Clo P (tiesF P)) Clo.start (fun l a ih => ?_) P
  rw [show l ++ [a] = l ++ [(a.1, a.2)] from rfl, tiesF_snoc]
  exact ih.tie _ _
/-! ### classes -/
def rootsF (f : Nat → Nat) (n : Nat) : List Nat := (List.range n).filter fun r => decide (f r = r)
def memF (f : Nat → Nat) (n r : Nat) : List Nat := (List.range n).filter fun k => decide (f k = r)
def clsF (f : Nat → Nat) (n : Nat) : List (List Nat) := (rootsF f n).map (memF f n)
theorem memF_succ (f : Nat → Nat) (n r : Nat) : memF f (n + 1) r = if f n = r then memF f n r ++ [n] else memF f n r := by
  unfold memF
  rw [List.range_succ, List.filter_append]
  by_cases h : f n = r
  · rw [if_pos h]; simp [h]
  · rw [if_neg h]; simp [h]
theorem rootsF_succ (f : Nat → Nat) (n : Nat) : rootsF f (n + 1) = if f n = n then rootsF f n ++ [n] else rootsF f n := by
  unfold rootsF
  rw [List.range_succ, List.filter_append]
  by_cases h : f n = n
  · rw [if_pos h]; simp [h]
  · rw [if_neg h]; simp [h]
theorem mem_rootsF {f : Nat → Nat} {n r : Nat} : r ∈ rootsF f n ↔ r < n ∧ f r = r := by unfold rootsF; rw [List.mem_filter, List.mem_range]; simp
theorem mem_memF {f : Nat → Nat} {n r k : Nat} : k ∈ memF f n r ↔ k < n ∧ f k = r := by unfold memF; rw [List.mem_filter, List.mem_range]; simp
/-! ### the most frequent letter -/
def bestQ (l : List Nat) (n : Nat) : Nat × Nat := (List.range n).foldl (fun q i => if q.2 < l.count (97 + i) then (97 + i, l.count (97 + i)) else q) (l[0]?.getD 0, 0)
def bestL (l : List Nat) : Nat := (bestQ l 26).1
theorem bestQ_succ (l : List Nat) (n : Nat) : bestQ l (n + 1) = if (bestQ l n).2 < l.count (97 + n) then (97 + n, l.count (97 + n)) else bestQ l n := by
  unfold bestQ
  rw [List.range_succ, List.foldl_append]; rfl
theorem bestQ_max (l : List Nat) : ∀ n, (∀ i, i < n → l.count (97 + i) ≤ (bestQ l n).2) ∧ ((bestQ l n).2 = 0 ∨ (bestQ l n).2 = l.count (bestQ l n).1)
  | 0 => ⟨fun i h => absurd h (Nat.not_lt_zero _), .inl rfl⟩
  | n + 1 => by
    obtain ⟨h1, h2⟩ := bestQ_max l n
    rw [bestQ_succ]
    by_cases h : (bestQ l n).2 < l.count (97 + n)
    · rw [if_pos h]
      refine ⟨fun i hi => ?_, .inr rfl⟩
      by_cases e : i = n
      · rw [e]; exact Nat.le_refl _
      · exact Nat.le_trans (h1 i (by omega)) (Nat.le_of_lt h)
    · rw [if_neg h]
      refine ⟨fun i hi => ?_, h2⟩
      by_cases e : i = n
      · rw [e]; omega
      · exact h1 i (by omega)
theorem best_spec {l : List Nat} (hl : ∀ c ∈ l, 97 ≤ c ∧ c ≤ 122) (h0 : l ≠ []) : bestL l ∈ l ∧ ∀ c, l.count c ≤ l.count (bestL l) := by
  obtain ⟨h1, h2⟩ := bestQ_max l 26
  have all : ∀ c, l.count c ≤ (bestQ l 26).2 := fun c => by
    by_cases hc : c ∈ l
    · obtain ⟨a, b⟩ := hl c hc
      have := h1 (c - 97) (by omega)
      rwa [show 97 + (c - 97) = c by omega] at this
    · rw [List.count_eq_zero.mpr hc]; exact Nat.zero_le _
  have pos : 0 < (bestQ l 26).2 := by
    cases l with
    | nil => exact absurd rfl h0
    | cons c r => exact Nat.lt_of_lt_of_le (List.count_pos_iff.mpr List.mem_cons_self) (all c)
  have e : (bestQ l 26).2 = l.count (bestL l) := by
    rcases h2 with z | z
    · omega
    · exact z
  exact ⟨List.count_pos_iff.mp (by omega), fun c => by rw [← e]; exact all c⟩
/-! ### the fewest changes -/
/-- the letter that the class of the key k gets -/
def bstF (f : Nat → Nat) (L : List Nat) (r : Nat) : Nat := bestL ((memF f L.length r).map fun k => L[k]?.getD 0)
def chgF (f : Nat → Nat) (L : List Nat) : List (Nat × Nat) := ((List.range L.length).filter fun k => !decide (L[k]?.getD 0 = bstF f L (f k))).map fun k => (k, bstF f L (f k))
/-- of one class -/
def chg1 (f : Nat → Nat) (L : List Nat) (r : Nat) : List (Nat × Nat) := ((memF f L.length r).filter fun k => !decide (L[k]?.getD 0 = bstF f L r)).map fun k => (k, bstF f L r)
def chgs (f : Nat → Nat) (L : List Nat) (rs : List Nat) : List (Nat × Nat) := (rs.map (chg1 f L)).flatten
theorem mem_chg1 {f : Nat → Nat} {L : List Nat} {r : Nat} {p : Nat × Nat} : p ∈ chg1 f L r ↔ p.1 < L.length ∧ f p.1 = r ∧ L[p.1]?.getD 0 ≠ bstF f L r ∧ p.2 = bstF f L r := by
  unfold chg1
  rw [List.mem_map]
  constructor
  · rintro ⟨k, hk, rfl⟩
    rw [List.mem_filter, mem_memF] at hk
    exact ⟨hk.1.1, hk.1.2, by simpa using hk.2, rfl⟩
  · rintro ⟨h1, h2, h3, h4⟩
    exact ⟨p.1, by rw [List.mem_filter, mem_memF]; exact ⟨⟨h1, h2⟩, by simpa using h3⟩, by rw [← h4]⟩
theorem mem_chgF {f : Nat → Nat} {L : List Nat} {p : Nat × Nat} : p ∈ chgF f L ↔ p.1 < L.length ∧ L[p.1]?.getD 0 ≠ bstF f L (f p.1) ∧ p.2 = bstF f L (f p.1) := by
  unfold chgF
  rw [List.mem_map]
  constructor
  · rintro ⟨k, hk, rfl⟩
    rw [List.mem_filter, List.mem_range] at hk
    exact ⟨hk.1, by simpa using hk.2, rfl⟩
  · rintro ⟨h1, h3, h4⟩
    exact ⟨p.1, by rw [List.mem_filter, List.mem_range]; exact ⟨h1, by simpa using h3⟩, by rw [← h4]⟩
theorem mem_chgs {f : Nat → Nat} {L : List Nat} (hf : ∀ k, k < L.length → f k < L.length ∧ f (f k) = f k) (p : Nat × Nat) : p ∈ chgs f L (rootsF f L.length) ↔ p ∈ chgF f L := by
  unfold chgs
  rw [List.mem_flatten, mem_chgF]
  constructor
  · rintro ⟨l, hl, hp⟩
    obtain ⟨r, hr, rfl⟩ := List.mem_map.mp hl
    obtain ⟨h1, h2, h3, h4⟩ := mem_chg1.mp hp
    subst h2
    exact ⟨h1, h3, h4⟩
  · rintro ⟨h1, h3, h4⟩
    obtain ⟨g1, g2⟩ := hf _ h1
    exact ⟨_, List.mem_map.mpr ⟨f p.1, mem_rootsF.mpr ⟨g1, g2⟩, rfl⟩, mem_chg1.mpr ⟨h1, rfl, h3, h4⟩⟩
theorem chgF_rising (f : Nat → Nat) (L : List Nat) : (chgF f L).Pairwise fun a b => a.1 < b.1 := by
  unfold chgF
  rw [List.pairwise_map]
  exact (List.pairwise_lt_range.filter _).imp fun h => h
theorem chgs_len (f : Nat → Nat) (L : List Nat) : ∀ rs : List Nat, (chgs f L rs).length ≤ (rs.map fun r => (memF f L.length r).length).sum
  | [] => Nat.le_refl _
  | r :: rs => by
    have := chgs_len f L rs
    unfold chgs at this ⊢
    rw [List.map_cons, List.flatten_cons, List.length_append, List.map_cons, List.sum_cons]
    have : (chg1 f L r).length ≤ (memF f L.length r).length := by unfold chg1; rw [List.length_map]; exact List.length_filter_le _ _
    omega
theorem chgs_keys_nodup {f : Nat → Nat} {L : List Nat} : ∀ {rs : List Nat}, rs.Nodup → ((chgs f L rs).map (·.1)).Nodup
  | [], _ => List.nodup_nil
  | r :: rs, h => by
    obtain ⟨h1, h2⟩ := List.nodup_cons.mp h
    unfold chgs
    rw [List.map_cons, List.flatten_cons, List.map_append, List.nodup_append]
    refine ⟨?_, chgs_keys_nodup h2, ?_⟩
    · unfold chg1
      rw [List.map_map]
      show (List.map (fun k => k) _).Nodup
      rw [List.map_id']
      exact (List.nodup_range.filter _).filter _
    · intro a ha b hb e
      subst e
      obtain ⟨p, hp, rfl⟩ := List.mem_map.mp ha
      obtain ⟨q, hq, e⟩ := List.mem_map.mp hb
      obtain ⟨l, hl, hq⟩ := List.mem_flatten.mp hq
      obtain ⟨r', hr', rfl⟩ := List.mem_map.mp hl
      have e1 := (mem_chg1.mp hp).2.1
      have e2 := (mem_chg1.mp hq).2.1
      rw [e, e1] at e2
      exact h1 (e2 ▸ hr')
theorem chgs_sorted {f : Nat → Nat} {L : List Nat} (hf : ∀ k, k < L.length → f k < L.length ∧ f (f k) = f k) {ys : List (Nat × Nat)} (hp : ys.Perm (chgs f L (rootsF f L.length))) (hr : ys.Pairwise fun a b => a.1 < b.1) : ys = chgF f L :=
  rising_unique (lt := fun (a b : Nat × Nat) => a.1 < b.1) (fun a => Nat.lt_irrefl _) (fun a b c => Nat.lt_trans) hr (chgF_rising f L) fun x => by rw [hp.mem_iff, mem_chgs hf]
end L2.Px

set_option Elab.async false
set_option linter.all false
set_option maxRecDepth 100000
set_option maxHeartbeats 2000000
/-! rules for the ties: list(d.values()), sorted pairs (key, letter), counts of a sign, a list backward -/
namespace L2.Px
open PySem PySem.Spec PyProof.Rows StX TL
section
variable {X : Cx} {o : Expr} {p pos apos mpos : Pos} {td : TE}
/-- list(o.values()) -/
def tListVals (td : TE) : TE := fun σ H Q => td σ H fun x H1 => ∃ (a : Addr) (kvs : List (Key × V)), x = V.ref a ∧ H1 a = some (.dK kvs) ∧ ∀ q, H1 q = none → Q (.ref q) (upd H1 q (.lst (kvs.map (·.2))))
theorem pe_listVals (hc : X.calm = true) (hg : Gl X "list") (hm : X.mg "list" = none) (hd : PE X o td) (hbase : attributeBase o "values" X.env (eval o X.env) = eval o X.env := by rfl) (hline : (apos.endLine == mpos.line) = true := by rfl)
    (na : starEach [Expr.Call (.Attribute o "values" apos) [] [] mpos] X.env = (false, eval (Expr.Call (.Attribute o "values" apos) [] [] mpos) X.env) :: starEach [] X.env := by rfl) :
    PE X (.Call (.Name "list" p) [.Call (.Attribute o "values" apos) [] [] mpos] [] pos) (tListVals td) := by
  refine ⟨fun pins s σ H Q I h => ?_⟩
  refine Call_ (ld_blt I hg hm boot_list (PyProof.Rows.callWith_type1 (args_cons (wpAny_Call_method0_late hbase hline (thn (hd.run pins s σ H _ I h) fun v s1 ⟨x, H1, I1, r1, a, kvs, ex, ha, q⟩ => ?_)) na) na))
  subst ex
  obtain rfl : v = Value.ref a := r1
  obtain ⟨hz, hsys, vs, rel, dof⟩ := dk_of I1.hok ha
  obtain ⟨ep, dat⟩ := dof.dictAt
  obtain ⟨ob, es, ho, exx, hdat, hko, hpr, hnd⟩ := id dat
  refine ⟨"dict", "dict.values", F.plainAttrs_dict, F.slot_dict_values, F.type_dict_values, ⟨ob, ho, exx.1⟩, fun b e => ?_, Calls.callWith_builtin rfl (PySem.evalArgs_none ?_)⟩
  · cases e; exact ⟨ob, ho, exx.2.1⟩
  refine call_meetsIn F.slot_dict_values ⟨ob, ho, exx.1⟩ F.entry_dict_values (F.args_dict_values_1 _) (meets_dict_values (mixKind X.prog X.w) a hsys) ⟨⟨vs, dof⟩, ?_⟩
  refine args_nil ?_
  have k1 : ∀ b u, s1.heap.get? b = some u → (s1.heap.push { cls := .type "dict_values", data := .fields #[.ref a] }).get? b = some u := fun b u e => Heap.get?_push_of_some _ e
  have hl : kvs.length = vs.length := KV.length rel
  refine PySem.W.kdl_call (r := s1.heap.objs.size) (PySem.W.kdl_values (knd := mixKind X.prog X.w) (kvs := vs) (ep := ep) (d := a)) (I1.ok.hd hc) ⟨⟨_, Heap.get?_push_size _ rfl, rfl, rfl⟩, dat.keep k1⟩ (by rw [← hl]; exact hz) fun h' tk acc' c' hkeep hS hacc => ?_
  have J : Inv X pins σ H1 { s1 with heap := s1.heap.push { cls := .type "dict_values", data := .fields #[.ref a] } } := I1.kept (t' := s1.toks) k1
  refine ⟨.ref _, _, J.laid (t' := tk) (o := .lst (kvs.map (·.2))) hkeep (Nat.le_refl _) (show ObjOk X.prog X.w _ _ _ (.lst (kvs.map (·.2))) from ⟨?_, acc'.toList, c', ?_, ?_⟩), rfl, q _ (J.hok.fresh (Nat.le_refl _))⟩
  · rw [List.length_map]; exact hz
  · have el : acc'.toList.length = acc'.size := by simp
    refine vals_of_at (by rw [List.length_map, el, hacc.1, hl]) fun j x u h1 h2 => ?_
    obtain ⟨k, hk⟩ := hacc.2 j u (by rw [← Array.getElem?_toList]; exact h2)
    obtain ⟨y, g1, g2⟩ := KV.at' rel hk
    have e1 : (kvs.map (·.2))[j]? = some y := by rw [List.getElem?_map, g1]; rfl
    rw [e1] at h1
    cases h1
    exact g2
  · rw [Array.toArray_toList]; exact hS
end
end L2.Px

set_option Elab.async false
set_option linter.all false
set_option maxRecDepth 100000
set_option maxHeartbeats 2000000
/-! sorted pairs (key, letter) with keys of their own -/
namespace L2.Px
open PySem PySem.Spec PyProof.Rows StX TL
section
open SrtO Srt
variable {prog : Program} {w : World} {A : Around} {E : Value → Shared → Prop} {s : Shared} {vs : List Value} {ki : Value → Int} {kc : Value → Str}
/-- a tuple of an int and a text -/
def TupIS (h : Heap) (v : Value) (i : Int) (c : Str) : Prop := ∃ (b : Addr) (ob : Obj) (t1 t2 : Tok) (n : Nat), v = .ref b ∧ h.get? b = some ob ∧ ob.cls = .type "tuple" ∧ ob.data = .seq #[.int i t1, .str c t2] n
theorem TupIS.stays {h h' : Heap} {v : Value} {i : Int} {c : Str} (x : TupIS h v i c) (st : ∀ b ob, h.get? b = some ob → ob.cls = .type "tuple" → h'.get? b = some ob) : TupIS h' v i c :=
  let ⟨b, ob, t1, t2, n, e1, e2, e3, e4⟩ := x; ⟨b, ob, t1, t2, n, e1, st b ob e2 e3, e3, e4⟩
abbrev ltK (ki : Value → Int) : Value → Value → Bool := fun v u => decide (ki v < ki u)
theorem swoK (ki : Value → Int) : Swo (ltK ki) where
  asym := fun x y g => by
    have g := of_decide_eq_true g
    exact decide_eq_false (by omega)
  tr := fun x y z g1 g2 => by
    have g1 := of_decide_eq_false g1
    have g2 := of_decide_eq_false g2
    exact decide_eq_false (by omega)
theorem cmpIS (hx : ∀ v ∈ vs, TupIS s.heap v (ki v) (kc v)) (one : ∀ v ∈ vs, ∀ u ∈ vs, ki v = ki u → kc v = kc u) : SrtO.Cmp prog w A s (tuples' true) (fun p => p.1 ∈ vs) (lt2 (ltK ki)) := by
  intro p q hp hq
  have same := one _ hp _ hq
  have h1 := hx _ hp
  have h2 := hx _ hq
  show wpAny (model prog w) A (keyLt' (tuples' true) p.1 q.1) (fun r s' => s' = s ∧ r = decide (ki p.1 < ki q.1)) (fun _ _ => False) s
  revert same h1 h2
  generalize ki p.1 = i1
  generalize kc p.1 = c1
  generalize ki q.1 = i2
  generalize kc q.1 = c2
  rintro same ⟨b1, o1, t1, u1, n1, e1, g1, k1, d1⟩ ⟨b2, o2, t2, u2, n2, e2, g2, k2, d2⟩
  rw [e1, e2]
  refine PySem.W.kat_lt g1 d1 g2 d2 ?_
  show PySem.W.KatLex prog w A true false _ [(.int i1 t1, .int i2 t2), (.str c1 u1, .str c2 u2)] 0 s
  refine PySem.W.kat_cons (SeqAt.EqAt.int_int i1 t1 i2 t2 prog w _ _ ?_)
  refine PySem.W.kat_go (fun z => ?_) (fun z => ?_)
  · have ei : i1 = i2 := by simpa using z
    have ec := same ei
    subst ei ec
    refine PySem.W.kat_yes (PySem.W.kat_cons (SeqAt.EqAt.str_str c1 u1 c1 u2 prog w _ _ ?_))
    refine PySem.W.kat_go (fun _ => PySem.W.kat_yes (PySem.W.kat_nil ⟨rfl, ?_⟩)) (fun z2 => ?_)
    · exact (decide_eq_false (Int.lt_irrefl i1)).symm
    · exact absurd z2 (by simp)
  · exact PySem.W.kat_no (oneLt_int ⟨rfl, rfl⟩)
theorem tupsIS {h : Heap} : ∀ {vs : List Value}, (∀ v ∈ vs, ∃ i c, TupIS h v i c) → ∃ fs : List Value, PySem.W.KatTups h vs fs ∧ fs.length = vs.length ∧ ∀ x ∈ fs, ∃ i t, x = Value.int i t
  | [], _ => ⟨[], .nil, rfl, fun _ z => absurd z List.not_mem_nil⟩
  | v :: r, hx => by
    obtain ⟨i, c, b, ob, t1, t2, n, rfl, e2, e3, e4⟩ := hx v List.mem_cons_self
    obtain ⟨fs, q1, q2, q3⟩ := tupsIS (vs := r) fun u hu => hx u (List.mem_cons_of_mem _ hu)
    refine ⟨Value.int i t1 :: fs, .cons e2 e3 e4 rfl q1, congrArg (· + 1) q2, fun x z => ?_⟩
    rcases List.mem_cons.mp z with z | z
    · exact ⟨i, t1, z⟩
    · exact q3 x z
theorem sortableIS {a : Addr} (h0 : 0 < vs.length) (hx : ∀ v ∈ vs, TupIS s.heap v (ki v) (kc v)) (one : ∀ v ∈ vs, ∀ u ∈ vs, ki v = ki u → kc v = kc u) (ha : ∀ ob, s.heap.get? a = some ob → ob.cls ≠ .type "tuple") : SortableO prog w A s a vs (ltK ki) := by
  intro g kept
  have hy : ∀ v ∈ vs, TupIS g v (ki v) (kc v) := fun v m => (hx v m).stays fun b ob e c => kept b ob (fun z => ha ob (z ▸ e) c) e
  obtain ⟨fs, q1, q2, q3⟩ := tupsIS fun v m => ⟨_, _, hy v m⟩
  refine ⟨tuples' true, fun Q E hq => PySem.W.kat_kind (T := .type "int") q1 (by omega) (fun x m => ?_) rfl ?_, cmpIS hy one⟩
  · obtain ⟨i, t, rfl⟩ := q3 x m
    exact PySem.W.Looks.now
  · rw [show (Value.type "int" != Value.type "tuple") = true from by decide +kernel]
    exact hq
end
/-- sorted(xs), xs a list of pairs (key, letter), no key twice -/
def rSortIS (K : PySem.W.Frag) : List V → Hp → VK → Prop := fun vs H Q => ∃ (a : Addr) (xs : List V) (ki : V → Int) (kc : V → Str), vs = [V.ref a] ∧ SqL K H a xs ∧ (∀ x ∈ xs, ∃ t, x = V.ref t ∧ H t = some (.tup [.int (ki x), .str (kc x)])) ∧
  (∀ x ∈ xs, ∀ y ∈ xs, ki x = ki y → kc x = kc y) ∧ ∀ (ys : List V) p, ys.Perm xs → ys.Pairwise (fun x y => ki x ≤ ki y) → H p = none → Q (.ref p) (upd H p (.lst ys))
section
variable {X : Cx}
theorem cr_sortIS : CallR X (.builtin "sorted") (rSortIS X.K) := by
  intro pins s σ H vs us Q I r h
  obtain ⟨a, xs, ki, kc, rfl, hs, hx, one, q⟩ := h
  obtain ⟨its, rv, hl, hz⟩ := I.list hs
  obtain ⟨u, rfl, ru⟩ := vals1 r
  obtain rfl : u = Value.ref a := ru
  have isr : ∀ x ∈ xs, ∃ t, x = V.ref t := fun x m => let ⟨t, e, _⟩ := hx x m; ⟨t, e⟩
  obtain ⟨e1, e2⟩ := refs_back rv isr
  have tups : ∀ v ∈ its, TupIS s.heap v (ki (backV v)) (kc (backV v)) := fun v m => by
    obtain ⟨t, rfl⟩ := e2 v m
    obtain ⟨t', z, ht⟩ := hx (V.ref t) (e1 ▸ List.mem_map.mpr ⟨_, m, rfl⟩)
    cases z
    obtain ⟨_, it2, r2, ob, g1, g2, n, g3⟩ := I.hok _ _ ht
    obtain ⟨w1, w2, rfl, ⟨c1, rfl⟩, c2, rfl⟩ := vals2 r2
    exact ⟨t, ob, c1, c2, n, rfl, g1, g2, g3⟩
  have onev : ∀ v ∈ its, ∀ u ∈ its, ki (backV v) = ki (backV u) → kc (backV v) = kc (backV u) := fun v m u m' z =>
    one _ (e1 ▸ List.mem_map.mpr ⟨v, m, rfl⟩) _ (e1 ▸ List.mem_map.mpr ⟨u, m', rfl⟩) z
  refine SrtO.sorted_ord (swoK fun v => ki (backV v)) hl.isList (by rw [← rv.length]; exact hz) (fun h2 g b gb old => sortableIS (kc := fun v => kc (backV v)) (by omega) (fun v m => (tups v m).stays fun c ob e _ => (old c ob e).2) onev fun ob e => ?_) fun out o1 o2 => ?_
  · have z : ob = seqObj "list" its.toArray 0 := Option.some.inj (e.symm.trans gb)
    rw [z]
    exact fun c => absurd (Value.type.inj c) (by decide)
  · obtain ⟨n, hn⟩ := PyProof.Rows.sortedAll_at s.heap its out.toArray
    have o3 : ∀ u ∈ out, ∃ b, u = Value.ref b := fun u m => e2 u (o2.perm.mem_iff.mp m)
    have pr : (out.map backV).Perm xs := by rw [e1]; exact o2.perm.map backV
    refine ⟨.ref (s.heap.objs.size + 1), upd H (s.heap.objs.size + 1) (.lst (out.map backV)), I.laid (t' := s.toks) (fun _ _ => PyProof.Rows.sortedAll_old) (Nat.le_succ _) ⟨by rw [pr.length_eq]; exact hz, out, n, vals_back o3, hn⟩, rfl, q _ _ pr ?_ (I.hok.fresh (Nat.le_succ _))⟩
    rw [List.pairwise_map]
    exact o1.imp fun {x y} g => by
      have g : ¬ ki (backV y) < ki (backV x) := of_decide_eq_false g
      omega
end
end L2.Px

set_option Elab.async false
set_option linter.all false
set_option maxRecDepth 100000
set_option maxHeartbeats 2000000
/-! lists and texts backward; the promises of the ties -/
namespace L2.Px
open PySem PySem.Spec PyProof.Rows StX TL
section
variable {X : Cx} {K : PySem.W.Frag}
def rSlLR (K : PySem.W.Frag) : V → Option Int → Option Int → Option Int → Hp → VK → Prop := fun x lo hi k H Q => ∃ a xs, x = .ref a ∧ lo = none ∧ hi = none ∧ k = some (-1) ∧ SqL K H a xs ∧ ∀ p, H p = none → Q (.ref p) (upd H p (.lst xs.reverse))
theorem sl_listR (hk : X.K = K) : Sl3 X (rSlLR K) := by
  subst hk
  intro pins s σ H x v vl vu vk lo hi k sl Q I rx hs pl pu pk h
  obtain ⟨a, xs, rfl, rfl, rfl, rfl, hx, q⟩ := h
  cases rx
  obtain ⟨its, r, ht, hz⟩ := I.list hx
  have hlen := r.length
  refine ⟨"list", _, slot_list_getitem.lookup, ht.isList.typeIs, ?_⟩
  refine wpAny_getItem_list_slice ht.isList hs pl pu pk (by simp) ?_ (by rw [List.size_toArray] <;> omega)
  rw [PySem.W.krv_pick]
  refine ⟨.ref s.heap.objs.size, _, I.laid (t' := s.toks) (o := .lst xs.reverse) (fun b ob z => Heap.get?_push_of_some _ z) (Nat.le_refl _) ?_, rfl, q _ (I.hok.fresh (Nat.le_refl _))⟩
  exact ⟨by rw [List.length_reverse]; exact hz, its.reverse, 0, vals_of_at (by rw [List.length_reverse, List.length_reverse, hlen]) fun j x u h1 h2 => by
    have hj : j < xs.length := by have := (List.getElem?_eq_some_iff.mp h1).1; rwa [List.length_reverse] at this
    rw [List.getElem?_reverse hj] at h1
    rw [List.getElem?_reverse (by omega), ← hlen] at h2
    obtain ⟨u', e1, e2⟩ := r.get h1
    rw [h2] at e1
    cases e1
    exact e2, Heap.get?_push_size _ rfl⟩
def rSlSR : V → Option Int → Option Int → Option Int → Hp → VK → Prop := fun x lo hi k H Q => ∃ L, x = .str (mkS L) ∧ lo = none ∧ hi = none ∧ k = some (-1) ∧ L.length ≤ sizeLine ∧ Q (.str (mkS L.reverse)) H
theorem sl_strR : Sl3 X rSlSR := by
  intro pins s σ H x v vl vu vk lo hi k sl Q I rx hs pl pu pk h
  obtain ⟨L, rfl, rfl, rfl, rfl, hz, q⟩ := h
  obtain ⟨t, rfl⟩ := rx
  obtain ⟨os, hos, hcs, hds⟩ := hs
  cases pl; cases pu
  obtain ⟨c, rfl, hc⟩ := IsPart.raw pk
  refine ⟨"str", _, F.slot_str_getitem.lookup, typeIs_str _ _ _, ?_⟩
  refine wpAny_getItem_str_slice (l := none) (u := none) (st := c) ⟨os, hos, hcs, hds⟩ (by rw [hc]; decide) ?_
  have e : (slicePicked (mkS L) none none c).filterMap ((mkS L).cps[·]?) = L.reverse := by
    unfold slicePicked
    rw [hc]
    show (sliceRange (((mkS L).length : Int) - 1) (-1) (-1)).filterMap ((mkS L).cps[·]?) = _
    rw [PySem.W.krv_sliceRange, PySem.W.krv_range, List.filterMap_reverse]
    exact congrArg List.reverse (PySem.W.krv_all (mkS L).cps)
  unfold sliceMade
  rw [e, hc, if_neg (by simp)]
  exact ⟨by rw [show (⟨L.reverse.toArray⟩ : Str).length = L.reverse.length from mkS_len _, List.length_reverse]; exact hz, .str _, H, I.tok _, ⟨_, rfl⟩, q⟩
theorem sortIK (hk : X.K = K) : CallR X (.builtin "sorted") (rSortedI K) := hk ▸ cr_sortedI
theorem sortISK (hk : X.K = K) : CallR X (.builtin "sorted") (rSortIS K) := hk ▸ cr_sortIS
end
def tieFs (x : Str) (h : Addr) : List (Str × V) := putF "heads" (.ref h) (putF "letters" (.str x) [])
theorem tieFs_heads {x : Str} {h : Addr} : (tieFs x h).lookup ("heads" : Str) = some (.ref h) := by unfold tieFs; rw [lookup_putF, if_pos rfl]
theorem tieFs_letters {x : Str} {h : Addr} : (tieFs x h).lookup ("letters" : Str) = some (.str x) := by
  unfold tieFs; rw [lookup_putF, if_neg (by decide +kernel), lookup_putF, if_pos rfl]
theorem tieFs_no {x m : Str} {h : Addr} (z : m ≠ "heads" ∧ m ≠ "letters") : (tieFs x h).lookup m = none := by
  unfold tieFs; rw [lookup_putF, if_neg z.1, lookup_putF, if_neg z.2]; rfl
/-- the ties at t of the keys with letters L: f leads to the roots -/
structure TieA (CI : Addr) (H : Hp) (t dx h : Addr) (L hs : List Nat) (f : Nat → Nat) : Prop where
  ins : H t = some (.ins CI dx (tieFs (mkS L) h))
  lst : H h = some (.lst (natV hs))
  rt : Rt hs f
  len : hs.length = L.length
  ne : h ≠ t
section
variable {K : PySem.W.Frag} {CI CT CP : Addr} {H H' H1 : Hp} {t dx h l r p : Addr} {L hs hs' M A B : List Nat} {f f' : Nat → Nat} {Q : VK} {E : XK} {cs : List (List Nat)} {i j : Int} {ss tt : List Stp} {a b : Addr}
theorem TieA.mono (z : TieA CI H t dx h L hs f) (S : Same H H') : TieA CI H' t dx h L hs f := ⟨S _ _ z.ins, S _ _ z.lst, z.rt, z.len, z.ne⟩
theorem TieA.next (z : TieA CI H t dx h L hs f) (B : But h H H') (e : H' h = some (.lst (natV hs'))) (r : Rt hs' f') (n : hs'.length = hs.length) : TieA CI H' t dx h L hs' f' := ⟨B _ _ (Ne.symm z.ne) z.ins, e, r, by rw [n, z.len], z.ne⟩
theorem TieA.insM {m : Str} (z : TieA CI H t dx h L hs f) (hm : m ≠ "heads" ∧ m ≠ "letters" := by decide +kernel) : InsM H t CI m := ⟨dx, _, z.ins, tieFs_no hm⟩
theorem rd_insTi {m : Str} {P : Prop} (z : TieA CI H t dx h L hs f) (hm : m ≠ "heads" ∧ m ≠ "letters") (q : P) : InsM H t CI m ∧ P := ⟨z.insM hm, q⟩
/-- the list at l holds the lists cs -/
def ClsAt (H : Hp) (l : Addr) (cs : List (List Nat)) : Prop := ∃ as : List Addr, H l = some (.lst (as.map V.ref)) ∧ as.length = cs.length ∧ ∀ (i : Nat) c, cs[i]? = some c → ∃ a, as[i]? = some a ∧ H a = some (.lst (natV c))
theorem ClsAt.mono (z : ClsAt H l cs) (S : Same H H') : ClsAt H' l cs := let ⟨as, e, n, g⟩ := z; ⟨as, S _ _ e, n, fun i c hc => let ⟨a, x, y⟩ := g i c hc; ⟨a, x, S _ _ y⟩⟩
def lets (L ms : List Nat) : List Nat := ms.map fun k => L[k]?.getD 0
variable (K CI CT CP)
def sp_Ties_init : Sp := fun vs H Q _ => ∃ x dx L, vs = [.ref x, .str (mkS L)] ∧ H x = some (.ins CI dx []) ∧ L.length ≤ 4000 ∧ ∀ H' h, But x H H' → H h = none → TieA CI H' x dx h L (List.range L.length) id → Q .non H'
def sp_Ties_head : Sp := fun vs H Q _ => ∃ t dx h L hs f, ∃ k : Nat, vs = [.ref t, .int k] ∧ TieA CI H t dx h L hs f ∧ k < L.length ∧ Q (.int (f k : Nat)) H
def sp_Ties_tie : Sp := fun vs H Q _ => ∃ t dx h L hs f, ∃ a b : Nat, vs = [.ref t, .int a, .int b] ∧ TieA CI H t dx h L hs f ∧ a < L.length ∧ b < L.length ∧ ∀ H' hs', But h H H' → TieA CI H' t dx h L hs' (tieF f a b) → Q .non H'
def sp_Ties_tie_rows : Sp := fun vs H Q _ => ∃ t dx h r r' L A B hs, vs = [.ref t, .ref r, .ref r'] ∧ TieA CI H t dx h L hs id ∧ H r = some (.lst (natV A)) ∧ H r' = some (.lst (natV B)) ∧ r ≠ h ∧ r' ≠ h ∧ (∀ x ∈ A, x < L.length) ∧ (∀ x ∈ B, x < L.length) ∧
  ∀ H' hs', But h H H' → TieA CI H' t dx h L hs' (tiesF (A.zip B)) → Q (.ref t) H'
def sp_Ties_classes : Sp := fun vs H Q _ => ∃ t dx h L hs f, vs = [.ref t] ∧ TieA CI H t dx h L hs f ∧ L.length ≤ 4000 ∧ ∀ p H', Same H H' → H p = none → ClsAt H' p (clsF f L.length) → Q (.ref p) H'
def sp_Ties_best_letter : Sp := fun vs H Q _ => ∃ t dx h L hs f m ms, vs = [.ref t, .ref m] ∧ TieA CI H t dx h L hs f ∧ H m = some (.lst (natV ms)) ∧ ms ≠ [] ∧ (∀ k ∈ ms, k < L.length) ∧ ms.length ≤ 4000 ∧ L.length ≤ 4000 ∧ ∀ H', Same H H' → Q (.str ⟨#[bestL (lets L ms)]⟩) H'
def sp_Ties_changes : Sp := fun vs H Q _ => ∃ t dx h L hs f, vs = [.ref t] ∧ TieA CI H t dx h L hs f ∧ L.length ≤ 4000 ∧ (∀ c ∈ L, 97 ≤ c ∧ c ≤ 122) ∧ ∀ p H', Same H H' → ChAt K H' p (chgF f L) L.length → Q (.ref p) H'
def tieP (P : List (Nat × Nat)) (L : List Nat) (H : Hp) (Q : VK) : Prop := ∀ t dx h hs H', Same H H' → TieA CI H' t dx h L hs (tiesF P) → Q (.ref t) H'
def eqP (ss tt : List Stp) : List (Nat × Nat) := (ks ss).zip ((ks tt).map (· + (tyL ss).length))
def miP (ss : List Stp) : List (Nat × Nat) := (ks ss).zip (ks ss).reverse
def peP (ss : List Stp) (n : Nat) : List (Nat × Nat) := (ks ss).zip ((ks ss).drop n)
def sp_ties_of_equal : Sp := fun vs H Q _ => ∃ a b ss tt, vs = [.ref a, .ref b] ∧ TX K CT CP H a ss ∧ TX K CT CP H b tt ∧ sz ss ≤ 2000 ∧ sz tt ≤ 2000 ∧ tieP CI (eqP ss tt) (tyL ss ++ tyL tt) H Q
def sp_ties_of_mirror : Sp := fun vs H Q _ => ∃ a ss, vs = [.ref a] ∧ TX K CT CP H a ss ∧ sz ss ≤ 2000 ∧ tieP CI (miP ss) (tyL ss) H Q
def sp_check_period : Sp := fun vs H Q _ => ∃ a ss, ∃ n : Nat, vs = [.ref a, .int n] ∧ TX K CT CP H a ss ∧ 1 ≤ n ∧ n ≤ max 1 (sz ss) ∧ Q .non H
def sp_ties_of_period : Sp := fun vs H Q _ => ∃ a ss, ∃ n : Nat, vs = [.ref a, .int n] ∧ TX K CT CP H a ss ∧ sz ss ≤ 2000 ∧ 1 ≤ n ∧ n ≤ max 1 (sz ss) ∧ tieP CI (peP ss n) (tyL ss) H Q
def clsP (f : Nat → Nat) (n : Nat) (H : Hp) (Q : VK) : Prop := ∀ p H', Same H H' → ClsAt H' p (clsF f n) → Q (.ref p) H'
def chgP (f : Nat → Nat) (L : List Nat) (H : Hp) (Q : VK) : Prop := ∀ p H', Same H H' → ChAt K H' p (chgF f L) L.length → Q (.ref p) H'
def sp_equal_classes : Sp := fun vs H Q _ => ∃ a b ss tt, vs = [.ref a, .ref b] ∧ TX K CT CP H a ss ∧ TX K CT CP H b tt ∧ sz ss ≤ 2000 ∧ sz tt ≤ 2000 ∧ (sz ss = sz tt → clsP (tiesF (eqP ss tt)) (tyL ss ++ tyL tt).length H Q) ∧ (sz ss ≠ sz tt → ∀ H', Same H H' → Q .non H')
def sp_fewest_for_equal : Sp := fun vs H Q _ => ∃ a b ss tt, vs = [.ref a, .ref b] ∧ TX K CT CP H a ss ∧ TX K CT CP H b tt ∧ sz ss ≤ 2000 ∧ sz tt ≤ 2000 ∧ (sz ss = sz tt → chgP K (tiesF (eqP ss tt)) (tyL ss ++ tyL tt) H Q) ∧ (sz ss ≠ sz tt → ∀ H', Same H H' → Q .non H')
def sp_mirror_classes : Sp := fun vs H Q _ => ∃ a ss, vs = [.ref a] ∧ TX K CT CP H a ss ∧ sz ss ≤ 2000 ∧ clsP (tiesF (miP ss)) (tyL ss).length H Q
def sp_fewest_for_mirror : Sp := fun vs H Q _ => ∃ a ss, vs = [.ref a] ∧ TX K CT CP H a ss ∧ sz ss ≤ 2000 ∧ chgP K (tiesF (miP ss)) (tyL ss) H Q
def sp_period_classes : Sp := fun vs H Q _ => ∃ a ss, ∃ n : Nat, vs = [.ref a, .int n] ∧ TX K CT CP H a ss ∧ sz ss ≤ 2000 ∧ 1 ≤ n ∧ n ≤ max 1 (sz ss) ∧ clsP (tiesF (peP ss n)) (tyL ss).length H Q
def sp_fewest_for_period : Sp := fun vs H Q _ => ∃ a ss, ∃ n : Nat, vs = [.ref a, .int n] ∧ TX K CT CP H a ss ∧ sz ss ≤ 2000 ∧ 1 ≤ n ∧ n ≤ max 1 (sz ss) ∧ chgP K (tiesF (peP ss n)) (tyL ss) H Q
variable {K CI CT CP}
theorem rd_mkTies (hz : L.length ≤ 4000) (q : ∀ t dx h H', Same H H' → H h = none → TieA CI H' t dx h L (List.range L.length) id → Q (.ref t) H') : rMk CI (sp_Ties_init CI) E [.str (mkS L)] H Q := by
  intro x dx nx nd ne
  have S1 : Same H (upd (upd H dx (.own x)) x (.ins CI dx [])) := Same.mut (Same.mut (Same.refl _) nd) nx
  refine ⟨x, dx, L, rfl, upd_same, hz, fun H' h B hn T => ⟨rfl, q x dx h H' (fun b o e => B _ _ (ne_of_none e nx) (S1 _ _ e)) ?_ T⟩⟩
  cases e : H h with
  | none => rfl
  | some o => rw [S1 _ _ e] at hn; cases hn
theorem rd_head {k : Nat} (z : TieA CI H t dx h L hs f) (hk : k < L.length) (q : Q (.int (f k : Nat)) H) : sp_Ties_head CI [.ref t, .int (k : Nat)] H Q E := ⟨t, dx, h, L, hs, f, k, rfl, z, hk, q⟩
theorem rd_sort2 {x y : Nat} (e : H l = some (.lst [.int (x : Nat), .int (y : Nat)])) (q : ∀ p H', Same H H' → H' p = some (.lst [.int (min x y : Nat), .int (max x y : Nat)]) → Q (.ref p) H') : rSortedI K [.ref l] H Q := by
  refine ⟨l, [(x : Int), (y : Int)], rfl, SqL.of e, fun ns p hp hr hn => ?_⟩
  have key : ns = [((min x y : Nat) : Int), ((max x y : Nat) : Int)] := by
    have hl := hp.length_eq
    match ns, hl with
    | [u, v], _ =>
      have hle : u ≤ v := by simpa using hr
      have h1 : u = x ∨ u = y := by simpa using hp.mem_iff.mp (List.mem_cons_self (a := u) (l := [v]))
      have h2 : v = x ∨ v = y := by simpa using hp.mem_iff.mp (List.mem_cons_of_mem u (List.mem_cons_self (a := v) (l := [])))
      have h3 : (x : Int) = u ∨ (x : Int) = v := by simpa using hp.mem_iff.mpr (List.mem_cons_self (a := (x : Int)) (l := [(y : Int)]))
      have h4 : (y : Int) = u ∨ (y : Int) = v := by simpa using hp.mem_iff.mpr (List.mem_cons_of_mem (x : Int) (List.mem_cons_self (a := (y : Int)) (l := [])))
      have e1 : u = ((min x y : Nat) : Int) := by omega
      have e2 : v = ((max x y : Nat) : Int) := by omega
      rw [e1, e2]
  rw [key]
  exact q p _ (Same.new (Same.refl _) hn) upd_same
end
end L2.Px

set_option Elab.async false
set_option linter.all false
set_option maxRecDepth 100000
set_option maxHeartbeats 1000000
/-! the dict that gathers the classes -/
namespace L2.Px
open PySem PySem.Spec PyProof.Rows StX TL
def kvR (rs : List Nat) (cl : Nat → Addr) : List (Key × V) := rs.map fun (r : Nat) => ((Sum.inl (r : Int) : Key), V.ref (cl r))
theorem kvR_val (cl : Nat → Addr) (r : Nat) : ∀ rs : List Nat, valV (kvR rs cl) (Sum.inl (r : Int) : Key) = if r ∈ rs then some (.ref (cl r)) else none
  | [] => rfl
  | x :: rs => by
    show valV (((Sum.inl (x : Int) : Key), V.ref (cl x)) :: kvR rs cl) _ = _
    by_cases e : x = r
    · subst e
      rw [valV_pos rfl, if_pos List.mem_cons_self]
    · rw [valV_neg (by intro z; have := Sum.inl.inj z; omega), kvR_val cl r rs]
      by_cases m : r ∈ rs
      · rw [if_pos m, if_pos (List.mem_cons_of_mem _ m)]
      · rw [if_neg m, if_neg (fun z => by rcases List.mem_cons.mp z with z | z; exact e z.symm; exact m z)]
theorem kvR_put {rs : List Nat} {cl : Nat → Addr} {r : Nat} (a : Addr) (h : r ∉ rs) : putK (kvR rs cl) (Sum.inl (r : Int) : Key) (.ref a) = kvR (rs ++ [r]) (fun x => if x = r then a else cl x) := by
  unfold putK
  rw [if_neg (by
    rw [List.any_eq_true]
    rintro ⟨p, hp, e⟩
    obtain ⟨x, hx, rfl⟩ := List.mem_map.mp hp
    have := Sum.inl.inj (of_decide_eq_true e)
    have : x = r := by omega
    exact h (this ▸ hx))]
  unfold kvR
  rw [List.map_append]
  congr 1
  · exact List.map_congr_left fun x hx => by
      have e : x ≠ r := fun z => h (z ▸ hx)
      simp only [if_neg e]
  · simp
theorem kvR_len (rs : List Nat) (cl : Nat → Addr) : (kvR rs cl).length = rs.length := List.length_map _
theorem rootsF_len (f : Nat → Nat) (n : Nat) : (rootsF f n).length ≤ n := by
  have := List.length_filter_le (fun r => decide (f r = r)) (List.range n)
  rwa [List.length_range] at this
theorem memF_len (f : Nat → Nat) (n r : Nat) : (memF f n r).length ≤ n := by
  have := List.length_filter_le (fun k => decide (f k = r)) (List.range n)
  rwa [List.length_range] at this
/-- the first i keys are gathered in the dict at D; cl tells the lists -/
structure ClsW (f : Nat → Nat) (H H' : Hp) (D : Addr) (i : Nat) (cl : Nat → Addr) : Prop where
  same : Same H H'
  dict : H' D = some (.dK (kvR (rootsF f i) cl))
  cls : ∀ r ∈ rootsF f i, H (cl r) = none ∧ cl r ≠ D ∧ H' (cl r) = some (.lst (natV (memF f i r)))
  inj : ∀ r r', r ∈ rootsF f i → r' ∈ rootsF f i → cl r = cl r' → r = r'
section
variable {f : Nat → Nat} {H H' H1 : Hp} {D p : Addr} {i : Nat} {cl : Nat → Addr}
theorem ClsW.start (hD : H D = none) : ClsW f H (upd H D (.dK [])) D 0 cl := ⟨Same.new (Same.refl _) hD, upd_same, fun r hr => by simp [rootsF] at hr, fun r r' hr => by simp [rootsF] at hr⟩
theorem ClsW.mono (w : ClsW f H H' D i cl) (S : Same H' H1) : ClsW f H H1 D i cl := ⟨w.same.trans S, S _ _ w.dict, fun r hr => let ⟨a, b, c⟩ := w.cls r hr; ⟨a, b, S _ _ c⟩, w.inj⟩
/-- a key of a class that is there -/
theorem ClsW.old (w : ClsW f H H' D i cl) (hm : f i ∈ rootsF f i) : ClsW f H (upd H' (cl (f i)) (.lst (natV (memF f i (f i)) ++ [.int (i : Nat)]))) D (i + 1) cl := by
  have hi := (mem_rootsF.mp hm).1
  have er : rootsF f (i + 1) = rootsF f i := by rw [rootsF_succ, if_neg (by omega)]
  obtain ⟨a, b, c⟩ := w.cls _ hm
  refine ⟨Same.mut w.same a, by rw [upd_ne (Ne.symm b), er]; exact w.dict, fun r hr => ?_, fun r r' hr hr' => ?_⟩
  · rw [er] at hr
    obtain ⟨a', b', c'⟩ := w.cls _ hr
    refine ⟨a', b', ?_⟩
    rw [memF_succ]
    by_cases e : f i = r
    · subst e
      rw [if_pos rfl, upd_same, natV_snoc]
    · rw [if_neg e, upd_ne (fun z => e (w.inj _ _ hm hr z.symm))]
      exact c'
  · rw [er] at hr hr'
    exact w.inj r r' hr hr'
/-- a key that is a root: a new class -/
theorem ClsW.new (w : ClsW f H H' D i cl) (hle : ∀ x, x < i → f x ≤ x) (hD : H D = none) (hr : f i = i) (hp : H' p = none) {H2 : Hp} (S : Same H' H2) : ClsW f H (upd (upd H2 D (.dK (putK (kvR (rootsF f i) cl) (Sum.inl (i : Int) : Key) (.ref p)))) p (.lst [.int (i : Nat)])) D (i + 1) (fun x => if x = i then p else cl x) := by
  have hn : i ∉ rootsF f i := fun z => by have := (mem_rootsF.mp z).1; omega
  have er : rootsF f (i + 1) = rootsF f i ++ [i] := by rw [rootsF_succ, if_pos hr]
  have pH : H p = none := by
    cases e : H p with
    | none => rfl
    | some o => rw [w.same _ _ e] at hp; cases hp
  have pD : p ≠ D := fun z => by subst z; rw [w.dict] at hp; cases hp
  have pc : ∀ r ∈ rootsF f i, cl r ≠ p := fun r hr z => by
    have := (w.cls r hr).2.2
    rw [z, hp] at this
    cases this
  have keep : ∀ b o, b ≠ p → b ≠ D → H' b = some o → upd (upd H2 D (.dK (putK (kvR (rootsF f i) cl) (Sum.inl (i : Int) : Key) (.ref p)))) p (.lst [.int (i : Nat)]) b = some o := fun b o h1 h2 h => by
    rw [upd_ne h1, upd_ne h2]
    exact S _ _ h
  have ne : ∀ r ∈ rootsF f i, r ≠ i := fun r hr z => hn (z ▸ hr)
  refine ⟨fun b o e => keep b o (ne_of_none e pH) (ne_of_none e hD) (w.same _ _ e), ?_, fun r hr' => ?_, fun r r' h1 h2 => ?_⟩
  · rw [upd_ne (Ne.symm pD), upd_same, kvR_put p hn, er]
  · rw [er] at hr'
    rcases List.mem_append.mp hr' with hr' | hr'
    · obtain ⟨a, b, c⟩ := w.cls r hr'
      have e := ne r hr'
      simp only [if_neg e]
      refine ⟨a, b, ?_⟩
      rw [memF_succ, if_neg (by omega)]
      exact keep _ _ (pc r hr') b c
    · have e := List.mem_singleton.mp hr'
      subst e
      simp only [if_pos]
      refine ⟨pH, pD, ?_⟩
      have none' : memF f r r = [] := by
        cases h : memF f r r with
        | nil => rfl
        | cons x l =>
          have hx : x ∈ memF f r r := by rw [h]; exact List.mem_cons_self
          obtain ⟨x1, x2⟩ := mem_memF.mp hx
          have := hle x x1
          omega
      rw [memF_succ, if_pos hr, none', upd_same]
      rfl
  · rw [er] at h1 h2
    rcases List.mem_append.mp h1 with h1 | h1 <;> rcases List.mem_append.mp h2 with h2 | h2
    · simp only [if_neg (ne r h1), if_neg (ne r' h2)]
      exact w.inj r r' h1 h2
    · have e := List.mem_singleton.mp h2
      subst e
      simp only [if_neg (ne r h1), if_pos]
      exact fun z => absurd z (pc r h1)
    · have e := List.mem_singleton.mp h1
      subst e
      simp only [if_neg (ne r' h2), if_pos]
      exact fun z => absurd z.symm (pc r' h2)
    · intro _
      rw [List.mem_singleton.mp h1, List.mem_singleton.mp h2]
theorem ClsW.end (w : ClsW f H H' D i cl) {l : Addr} (S : Same H' H1) (e : H1 l = some (.lst ((kvR (rootsF f i) cl).map (·.2)))) : ClsAt H1 l (clsF f i) := by
  refine ⟨(rootsF f i).map cl, ?_, by unfold clsF; rw [List.length_map, List.length_map], fun j c hc => ?_⟩
  · rw [e]
    unfold kvR
    rw [List.map_map, List.map_map]
    rfl
  · unfold clsF at hc
    rw [List.getElem?_map] at hc
    obtain ⟨r, hr, rfl⟩ := Option.map_eq_some_iff.mp hc
    exact ⟨cl r, by rw [List.getElem?_map, hr]; rfl, S _ _ (w.cls r (List.mem_of_getElem? hr)).2.2⟩
theorem rd_listVals {td : TE} {σ : St} {H : Hp} {Q : VK} (h : td σ H fun x H1 => ∃ (a : Addr) (kvs : List (Key × V)), x = V.ref a ∧ H1 a = some (.dK kvs) ∧ ∀ q, H1 q = none → Q (.ref q) (upd H1 q (.lst (kvs.map (·.2))))) : tListVals td σ H Q := h
end
end L2.Px

set_option Elab.async false
set_option linter.all false
set_option maxRecDepth 100000
set_option maxHeartbeats 1000000
/-! comprehensions with a test that make new objects; sorted changes -/
namespace L2.Px
open PySem PySem.Spec PyProof.Rows StX TL
section
variable {J : It} {n : Nat} {it : Nat → V} {H1 : Hp} {tt : TT} {te : TE} {vs : List Nat} {σ : St} {D : Addr} {Qd : Hp → Prop} {j : Nat}
/-- ys answers the numbers is, one by one -/
def Ans (Rl : Nat → V → Hp → Prop) (H : Hp) (is : List Nat) (ys : List V) : Prop := ys.length = is.length ∧ ∀ (k i : Nat), is[k]? = some i → ∃ y, ys[k]? = some y ∧ Rl i y H
theorem Ans.snoc {Rl : Nat → V → Hp → Prop} {H H' : Hp} {is : List Nat} {ys : List V} (a : Ans Rl H is ys) {i : Nat} {y : V} (m : ∀ i y, Rl i y H → Rl i y H') (r : Rl i y H') : Ans Rl H' (is ++ [i]) (ys ++ [y]) := by
  refine ⟨by simp [a.1], fun k x hk => ?_⟩
  by_cases h : k < is.length
  · rw [List.getElem?_append_left h] at hk
    obtain ⟨z, h1, h2⟩ := a.2 k x hk
    exact ⟨z, by rw [List.getElem?_append_left (by rw [a.1]; exact h)]; exact h1, m _ _ h2⟩
  · have hl : k < (is ++ [i]).length := (List.getElem?_eq_some_iff.mp hk).1
    have hk0 : k = is.length := by simp at hl; omega
    subst hk0
    rw [List.getElem?_append_right (Nat.le_refl _), Nat.sub_self] at hk
    cases hk
    exact ⟨y, by rw [List.getElem?_append_right (by rw [a.1]; exact Nat.le_refl _), a.1, Nat.sub_self]; rfl, r⟩
theorem Ans.mono {Rl : Nat → V → Hp → Prop} {H H' : Hp} {is : List Nat} {ys : List V} (a : Ans Rl H is ys) (m : ∀ i y, Rl i y H → Rl i y H') : Ans Rl H' is ys := ⟨a.1, fun k i hk => let ⟨y, h1, h2⟩ := a.2 k i hk; ⟨y, h1, m _ _ h2⟩⟩
theorem lc_relF (P : Plain J n it H1) (hD : H1 D = none) (hn : n ≤ sizeLine) (hj : ∀ v, wipe ((wipe σ vs).set j (some v)) vs = wipe σ vs) (p : Nat → Bool) (Rl : Nat → V → Hp → Prop) (mono : ∀ i y H H' l, H D = some (.lst l) → But D H H' → Rl i y H → Rl i y H')
    (ht : ∀ i H (R : Bool → Hp → Prop), i < n → Same H1 H → (∀ H', Same H H' → R (p i) H') → tt ((wipe σ vs).set j (some (it i))) H R)
    (hs : ∀ i H (Q : VK), i < n → p i = true → Same H1 H → (∀ y H', Same H H' → Rl i y H' → Q y H') → te ((wipe σ vs).set j (some (it i))) H Q)
    (hd : ∀ H ys, Same H1 H → H D = some (.lst ys) → Ans Rl H ((List.range n).filter p) ys → Qd H) : LcW J (gName j) tt te vs σ H1 D Qd := by
  refine ⟨fun i m H => m = n - i ∧ i ≤ n ∧ Same H1 H ∧ ∃ ys, H D = some (.lst ys) ∧ Ans Rl H ((List.range i).filter p) ys, ⟨_, rfl, Nat.zero_le _, Same.new (Same.refl _) hD, [], upd_same, rfl, fun k i h => by simp at h⟩, ?_⟩
  rintro i m H ⟨rfl, hi, S, ys, eD, an⟩
  have hlen : ys.length ≤ i := by
    have := List.length_filter_le p (List.range i)
    rw [List.length_range] at this
    rw [an.1]; exact this
  by_cases hlt : i < n
  · refine .inr ⟨P.go i H S hlt, fun H' => i + 1 ≤ n ∧ Same H1 H' ∧ ∃ ys, H' D = some (.lst ys) ∧ Ans Rl H' ((List.range (i + 1)).filter p) ys, fun H' z => ⟨n - (i + 1), by omega, rfl, z⟩, fun x H' y => ?_⟩
    obtain ⟨e1, e2⟩ := P.yld i H x H' S hlt y
    subst e1 e2
    refine ⟨hj _, ht i H' _ hlt S fun H2 S2 => ?_⟩
    have ef : (List.range (i + 1)).filter p = (List.range i).filter p ++ (if p i = true then [i] else []) := by
      rw [List.range_succ, List.filter_append]
      cases hp : p i <;> simp [hp]
    cases hp : p i with
    | true =>
      rw [if_pos rfl]
      refine hs i H2 _ hlt hp (S.trans S2) fun y2 H3 S3 r => ⟨ys, S3 _ _ (S2 _ _ eD), by omega, hlt, Same.mut ((S.trans S2).trans S3) hD, ys ++ [y2], upd_same, ?_⟩
      rw [ef, if_pos hp]
      exact an.snoc (fun i y h => mono i y _ _ _ eD (But.at (But.same (S2.trans S3))) h) (mono _ _ _ _ _ (S3 _ _ (S2 _ _ eD)) (But.at But.refl) r)
    | false =>
      rw [if_neg Bool.false_ne_true]
      refine ⟨hlt, S.trans S2, ys, S2 _ _ eD, ?_⟩
      rw [ef, if_neg (by rw [hp]; exact Bool.false_ne_true), List.append_nil]
      exact an.mono fun i y h => mono i y _ _ _ eD (But.same S2) h
  · have e : i = n := by omega
    subst e
    exact .inl ⟨P.stop H S, hd H ys S eD an⟩
end
theorem plain_low {H1 : Hp} : Plain (Its ("abcdefghijklmnopqrstuvwxyz" : Str)) 26 (fun i => .str ⟨#[97 + i]⟩) H1 := by
  have P := plain_str (x := ("abcdefghijklmnopqrstuvwxyz" : Str)) (H1 := H1)
  have hl : (tl ("abcdefghijklmnopqrstuvwxyz" : Str)).length = 26 := by decide +kernel
  rw [hl] at P
  exact ⟨P.stop, P.go, fun i H x H' s hi y => by
    obtain ⟨a, b⟩ := P.yld i H x H' s hi y
    rw [low_at hi] at b
    exact ⟨a, b⟩⟩
theorem cnt_list (c : Nat) : ∀ l : List Nat, PyProof.Rows.cnt c l = ((l.count c : Nat) : Int)
  | [] => rfl
  | x :: l => by
    rw [PyProof.Rows.cnt_cons, cnt_list c l, List.count_cons]
    by_cases h : x = c
    · subst h; simp; omega
    · have : (x == c) = false := beq_eq_false_iff_ne.mpr h
      simp [h, this]
theorem countS (l : List Nat) (c : Nat) : Txt.count (mkS l) ⟨#[c]⟩ = ((l.count c : Nat) : Int) := (count_cnt (mkS l) c).trans (cnt_list c l)
theorem chgs_snoc (f : Nat → Nat) (L : List Nat) (rs : List Nat) (r : Nat) : chgs f L (rs ++ [r]) = chgs f L rs ++ chg1 f L r := by unfold chgs; rw [List.map_append, List.flatten_append]; simp
theorem chgs_small {f : Nat → Nat} {L rs : List Nat} (h : rs.Nodup) : (chgs f L rs).length ≤ L.length := by
  have := nodup_len (l := (chgs f L rs).map (·.1)) (m := List.range L.length) (chgs_keys_nodup h) fun x hx => by
    obtain ⟨p, hp, rfl⟩ := List.mem_map.mp hx
    obtain ⟨l, hl, hp⟩ := List.mem_flatten.mp hp
    obtain ⟨r, hr, rfl⟩ := List.mem_map.mp hl
    exact List.mem_range.mpr (mem_chg1.mp hp).1
  rwa [List.length_map, List.length_range] at this
theorem rootsF_nodup (f : Nat → Nat) (n : Nat) : (rootsF f n).Nodup := List.nodup_range.filter _
theorem chg1_idx (f : Nat → Nat) (L : List Nat) (r : Nat) : chg1 f L r = ((List.range (memF f L.length r).length).filter fun i => !decide (L[(memF f L.length r)[i]?.getD 0]?.getD 0 = bstF f L r)).map fun i => ((memF f L.length r)[i]?.getD 0, bstF f L r) :=
  (range_pick (memF f L.length r) (fun k => !decide (L[k]?.getD 0 = bstF f L r)) (fun k => (k, bstF f L r))).symm
theorem bst_let {f : Nat → Nat} {L : List Nat} {r : Nat} (hL : ∀ c ∈ L, 97 ≤ c ∧ c ≤ 122) (h : memF f L.length r ≠ []) : 97 ≤ bstF f L r ∧ bstF f L r ≤ 122 := by
  have all : ∀ c ∈ (memF f L.length r).map fun k => L[k]?.getD 0, 97 ≤ c ∧ c ≤ 122 := fun c hc => by
    obtain ⟨k, hk, rfl⟩ := List.mem_map.mp hc
    have hk := (mem_memF.mp hk).1
    rw [List.getElem?_eq_getElem hk]
    exact hL _ (List.getElem_mem hk)
  exact all _ (best_spec all (fun z => h (List.map_eq_nil_iff.mp z))).1
theorem cutV_from (xs : List V) (j : Nat) : cutV xs (some (j : Nat)) none = xs.drop j := by
  unfold cutV
  rw [HT.sIx_nat, HT.sIx_none]
  by_cases h : j ≤ xs.length
  · rw [Nat.min_eq_left h, List.take_of_length_le (by rw [List.length_drop]; exact Nat.le_refl _)]
  · rw [Nat.min_eq_right (by omega), List.drop_of_length_le (Nat.le_refl _), List.drop_of_length_le (by omega)]
    simp
theorem natV_rev (L : List Nat) : (natV L).reverse = natV L.reverse := by unfold natV; rw [List.map_reverse]
theorem natV_drop (L : List Nat) (n : Nat) : (natV L).drop n = natV (L.drop n) := by unfold natV; rw [List.map_drop]
theorem rd_slR {K : PySem.W.Frag} {H : Hp} {Q : VK} {a : Addr} {L : List Nat} (h : H a = some (.lst (natV L))) (q : ∀ p H', Same H H' → H p = none → H' p = some (.lst (natV L.reverse)) → Q (.ref p) H') : rSlLR K (.ref a) none none (some (-1)) H Q :=
  ⟨a, _, rfl, rfl, rfl, rfl, SqL.of h, fun p hp => q p _ (Same.new (Same.refl _) hp) hp (by rw [upd_same, natV_rev])⟩
theorem rd_slFrom {K : PySem.W.Frag} {H : Hp} {Q : VK} {a : Addr} {L : List Nat} {j : Nat} (h : H a = some (.lst (natV L))) (q : ∀ p H', Same H H' → H p = none → H' p = some (.lst (natV (L.drop j))) → Q (.ref p) H') : rSlL K (.ref a) (some (j : Nat)) none H Q :=
  ⟨a, _, rfl, SqL.of h, fun p hp => q p _ (Same.new (Same.refl _) hp) hp (by rw [upd_same, cutV_from, natV_drop])⟩
theorem rd_iNat2 {l : Addr} {as : List Addr} {H : Hp} {K : PySem.W.Frag} {A : Prop} (h : H l = some (.lst (as.map V.ref))) (q : A) : (∃ xs, SqL K H l xs) ∧ A := ⟨⟨_, SqL.of h⟩, q⟩
section
variable {K : PySem.W.Frag} {H H' : Hp} {l p F : Addr} {cs ds : List (Nat × Nat)} {n : Nat} {Q : VK}
/-- the pair that stands at x -/
def prAt (H : Hp) (x : V) : Int × Str := match x with
  | .ref t => match H t with
    | some (.tup [.int i, .str c]) => (i, c)
    | _ => (0, ⟨#[]⟩)
  | _ => (0, ⟨#[]⟩)
def prN (q : Int × Str) : Nat × Nat := (q.1.toNat, (tl q.2)[0]?.getD 0)
theorem prN_of (k c : Nat) : prN (((k : Nat) : Int), (⟨#[c]⟩ : Str)) = (k, c) := by unfold prN; rfl
theorem rd_sortCh (h : ChAt K H l cs n) (hn : (cs.map (·.1)).Nodup) (q : ∀ p ys H', Same H H' → ys.Perm cs → ys.Pairwise (fun a b => a.1 < b.1) → ChAt K H' p ys n → Q (.ref p) H') : rSortIS K [.ref l] H Q := by
  obtain ⟨xs, el, hl, hx⟩ := h
  have at_ : ∀ x ∈ xs, ∃ (i : Nat) (c : Nat × Nat), xs[i]? = some x ∧ cs[i]? = some c ∧ c.1 < n ∧ 97 ≤ c.2 ∧ c.2 ≤ 122 ∧ ∃ t, x = V.ref t ∧ H t = some (.tup [.int (c.1 : Nat), .str ⟨#[c.2]⟩]) := fun x hm => by
    obtain ⟨i, hi⟩ := List.mem_iff_getElem?.mp hm
    have hlt := (List.getElem?_eq_some_iff.mp hi).1
    have hc : cs[i]? = some (cs[i]'(by omega)) := List.getElem?_eq_getElem _
    obtain ⟨h1, h2, h3, T, h4, h5⟩ := hx i _ hc
    rw [hi] at h4
    exact ⟨i, _, hi, hc, h1, h2, h3, T, Option.some.inj h4, h5⟩
  have pr : ∀ {t : Addr} {k c : Nat}, H t = some (.tup [.int (k : Nat), .str ⟨#[c]⟩]) → prAt H (.ref t) = (((k : Nat) : Int), (⟨#[c]⟩ : Str)) := fun {t k c} e => by
    simp only [prAt, e]
  have mp : xs.map (fun x => prN (prAt H x)) = cs := by
    refine List.ext_getElem? fun i => ?_
    rw [List.getElem?_map]
    by_cases hi : i < cs.length
    · have hc : cs[i]? = some (cs[i]'hi) := List.getElem?_eq_getElem _
      obtain ⟨h1, h2, h3, T, h4, h5⟩ := hx i _ hc
      rw [h4, hc, Option.map_some, pr h5, prN_of]
    · rw [List.getElem?_eq_none (by omega), List.getElem?_eq_none (by omega)]; rfl
  refine ⟨l, xs, fun x => (prAt H x).1, fun x => (prAt H x).2, rfl, SqL.of el, fun x hm => ?_, fun x hm y hm' e => ?_, fun ys p hp hr hnp => ?_⟩
  · obtain ⟨i, c, _, _, _, _, _, t, rfl, e⟩ := at_ x hm
    exact ⟨t, rfl, by simp only [pr e]; exact e⟩
  · obtain ⟨i, c, g1, g2, _, _, _, t, rfl, e1⟩ := at_ x hm
    obtain ⟨i', c', g1', g2', _, _, _, t', rfl, e1'⟩ := at_ y hm'
    simp only [pr e1, pr e1'] at e ⊢
    have ek : c.1 = c'.1 := by omega
    have ei : i = i' := by
      have hi := (List.getElem?_eq_some_iff.mp g2).1
      exact (List.getElem?_inj (by rw [List.length_map]; exact hi) hn).mp (by rw [List.getElem?_map, List.getElem?_map, g2, g2', Option.map_some, Option.map_some, ek])
    subst ei
    rw [g2] at g2'
    cases g2'
    rfl
  · have hp2 : (ys.map fun x => prN (prAt H x)).Perm cs := by rw [← mp]; exact hp.map _
    have S : Same H (upd H p (.lst ys)) := Same.new (Same.refl _) hnp
    refine q p (ys.map fun x => prN (prAt H x)) _ S hp2 ?_ ⟨ys, upd_same, (List.length_map _).symm, fun i c hc => ?_⟩
    · have nd : ((ys.map fun x => prN (prAt H x)).map (·.1)).Nodup := (hp2.map _).nodup_iff.mpr hn
      have le : ((ys.map fun x => prN (prAt H x)).map (·.1)).Pairwise (· ≤ ·) := by
        rw [List.pairwise_map, List.pairwise_map]
        exact hr.imp fun {x y} h => by
          have h : (prAt H x).1 ≤ (prAt H y).1 := h
          show (prAt H x).1.toNat ≤ (prAt H y).1.toNat
          omega
      have lt : ((ys.map fun x => prN (prAt H x)).map (·.1)).Pairwise (· < ·) := (le.and nd).imp fun h => Nat.lt_of_le_of_ne h.1 h.2
      rwa [List.pairwise_map] at lt
    · rw [List.getElem?_map] at hc
      obtain ⟨x, hx1, rfl⟩ := Option.map_eq_some_iff.mp hc
      obtain ⟨i', c', _, _, d1, d2, d3, t, rfl, e⟩ := at_ x (hp.mem_iff.mp (List.mem_of_getElem? hx1))
      rw [pr e, prN_of]
      exact ⟨d1, d2, d3, t, hx1, S _ _ e⟩
theorem ChAt.but (h : ChAt K H l cs n) (B : But F H H') {xs : List V} (hF : H F = some (.lst xs)) (ne : l ≠ F) : ChAt K H' l cs n := by
  obtain ⟨xs, e, hl, hx⟩ := h
  exact ⟨xs, B _ _ ne e, hl, fun i c hc => let ⟨h1, h2, h3, T, h4, h5⟩ := hx i c hc; ⟨h1, h2, h3, T, h4, B _ _ (fun z => by subst z; rw [hF] at h5; cases h5) h5⟩⟩
/-- two lists of changes behind one another -/
theorem ChAt.app {xs ys : List V} (hx : H F = some (.lst xs)) (hy : H l = some (.lst ys)) (h : ChAt K H F cs n) (g : ChAt K H l ds n) : ChAt K (upd H F (.lst (xs ++ ys))) F (cs ++ ds) n := by
  obtain ⟨xs', e, h1, h2⟩ := h
  rw [hx] at e
  cases e
  obtain ⟨ys', e, g1, g2⟩ := g
  rw [hy] at e
  cases e
  have nt : ∀ {T : Addr} {zs : List V}, H T = some (.tup zs) → upd H F (.lst (xs ++ ys)) T = some (.tup zs) := fun {T zs} q => by
    rw [upd_ne fun z => by subst z; rw [hx] at q; cases q]; exact q
  refine ⟨_, upd_same, by simp [h1, g1], fun i c hc => ?_⟩
  by_cases hi : i < cs.length
  · rw [List.getElem?_append_left hi] at hc
    obtain ⟨a1, a2, a3, T, a4, a5⟩ := h2 i c hc
    exact ⟨a1, a2, a3, T, by rw [List.getElem?_append_left (by omega)]; exact a4, nt a5⟩
  · rw [List.getElem?_append_right (by omega)] at hc
    obtain ⟨a1, a2, a3, T, a4, a5⟩ := g2 _ c hc
    exact ⟨a1, a2, a3, T, by rw [List.getElem?_append_right (by omega), h1]; exact a4, nt a5⟩
end
end L2.Px

set_option Elab.async false
set_option linter.all false
set_option maxRecDepth 100000
set_option maxHeartbeats 2000000
/-! laws over ties: after the changes, how many there are; reading steps -/
namespace L2.Px
open PySem PySem.Spec PyProof.Rows StX TL
/-! ### after changes -/
theorem rts_out : ∀ (cs : List (Nat × Nat)) (ss : List Stp) (k : Nat), k ∉ cs.map (·.1) → (tyL (rts cs ss))[k]? = (tyL ss)[k]?
  | [], _, _, _ => rfl
  | x :: cs, ss, k, h => by
    rw [List.map_cons, List.mem_cons, not_or] at h
    show (tyL (rts cs (rt x.1 x.2 0 ss)))[k]? = _
    rw [rts_out cs _ k h.2, tyL_rt0, List.getElem?_set, if_neg (Ne.symm h.1)]
theorem rts_in {k c : Nat} : ∀ (cs : List (Nat × Nat)) (ss : List Stp), (cs.map (·.1)).Nodup → (k, c) ∈ cs → k < (tyL ss).length → (tyL (rts cs ss))[k]? = some c
  | [], _, _, h, _ => by cases h
  | x :: cs, ss, nd, h, hk => by
    rw [List.map_cons, List.nodup_cons] at nd
    show (tyL (rts cs (rt x.1 x.2 0 ss)))[k]? = _
    rcases List.mem_cons.mp h with e | h
    · subst e
      rw [rts_out cs _ k nd.1, tyL_rt0, List.getElem?_set, if_pos rfl, if_pos hk]
    · exact rts_in cs _ nd.2 h (by rw [tyL_rt0, List.length_set]; exact hk)
theorem rising_keys {cs : List (Nat × Nat)} (h : cs.Pairwise fun a b => a.1 < b.1) : (cs.map (·.1)).Nodup := by
  have : (cs.map (·.1)).Pairwise (· < ·) := List.pairwise_map.mpr h
  exact this.imp fun h => Nat.ne_of_lt h
theorem chg_keys (f : Nat → Nat) (L : List Nat) : ((chgF f L).map (·.1)).Nodup := rising_keys (chgF_rising f L)
/-- the letter of a key after the fewest changes -/
theorem fin_at {f : Nat → Nat} {ss : List Stp} {k : Nat} (hk : k < (tyL ss).length) : lat (rts (chgF f (tyL ss)) ss) k = bstF f (tyL ss) (f k) := by
  unfold lat
  by_cases e : (tyL ss)[k]?.getD 0 = bstF f (tyL ss) (f k)
  · rw [rts_out _ _ _ (fun z => ?_), e]
    obtain ⟨p, hp, rfl⟩ := List.mem_map.mp z
    exact (mem_chgF.mp hp).2.1 e
  · rw [rts_in (c := bstF f (tyL ss) (f k)) _ _ (chg_keys _ _) (mem_chgF.mpr ⟨hk, e, rfl⟩) hk]; rfl
theorem ls_rts (cs : List (Nat × Nat)) (ss : List Stp) : ls (rts cs ss) = (ks ss).map (lat (rts cs ss)) := by unfold ls; rw [ks_rts]
theorem ls_fin (f : Nat → Nat) (ss : List Stp) : ls (rts (chgF f (tyL ss)) ss) = (ks ss).map fun k => bstF f (tyL ss) (f k) := by
  rw [ls_rts]
  exact List.map_congr_left fun k hk => fin_at (ks_lt hk)
/-! ### how many changes -/
theorem chg1_len (f : Nat → Nat) (L : List Nat) (r : Nat) : (chg1 f L r).length = (memF f L.length r).length - (lets L (memF f L.length r)).count (bstF f L r) := by
  have e : ∀ ms : List Nat, ((ms.filter fun k => !decide (L[k]?.getD 0 = bstF f L r)).length) + (lets L ms).count (bstF f L r) = ms.length := fun ms => by
    induction ms with
    | nil => rfl
    | cons k ms ih =>
      unfold lets at ih ⊢
      rw [List.map_cons, List.count_cons]
      by_cases h : L[k]?.getD 0 = bstF f L r
      · rw [List.filter_cons_of_neg (by simp [h]), h, List.length_cons]; simp; omega
      · rw [List.filter_cons_of_pos (by simp [h]), List.length_cons, List.length_cons]
        have : (L[k]?.getD 0 == bstF f L r) = false := beq_eq_false_iff_ne.mpr h
        simp [this]; omega
  unfold chg1
  rw [List.length_map]
  have := e (memF f L.length r)
  omega
/-- the fewest changes of classes -/
def leastN (L : List Nat) (cs : List (List Nat)) : Nat := (cs.map fun c => c.length - (lets L c).count (bestL (lets L c))).sum
theorem leastN_snoc (L : List Nat) (cs : List (List Nat)) (c : List Nat) : leastN L (cs ++ [c]) = leastN L cs + (c.length - (lets L c).count (bestL (lets L c))) := by
  unfold leastN
  rw [List.map_append, List.sum_append]; simp
theorem chgs_sum (f : Nat → Nat) (L : List Nat) : ∀ rs : List Nat, (chgs f L rs).length = leastN L (rs.map (memF f L.length))
  | [] => rfl
  | r :: rs => by
    have ih := chgs_sum f L rs
    unfold chgs leastN at ih ⊢
    rw [List.map_cons, List.flatten_cons, List.length_append, ih, List.map_cons, List.map_cons, List.sum_cons, chg1_len]
    rfl
theorem chg_count {f : Nat → Nat} {L : List Nat} (hf : ∀ k, k < L.length → f k < L.length ∧ f (f k) = f k) : (chgF f L).length = leastN L (clsF f L.length) := by
  have e : (chgF f L).length = (chgs f L (rootsF f L.length)).length := by
    have n1 : (chgF f L).Nodup := (chgF_rising f L).imp fun h z => by rw [z] at h; exact Nat.lt_irrefl _ h
    have n2 : (chgs f L (rootsF f L.length)).Nodup := by
      have := chgs_keys_nodup (f := f) (L := L) (rootsF_nodup f L.length)
      exact List.Pairwise.imp (fun {a b} h z => h (by rw [z])) (List.pairwise_map.mp this)
    exact Nat.le_antisymm (nodup_len n1 fun x hx => (mem_chgs hf x).mpr hx) (nodup_len n2 fun x hx => (mem_chgs hf x).mp hx)
  rw [e, chgs_sum]; rfl
theorem ties_spec {P : List (Nat × Nat)} {n : Nat} (h : ∀ p ∈ P, p.1 < n ∧ p.2 < n) : ∀ k, k < n → tiesF P k < n ∧ tiesF P (tiesF P k) = tiesF P k := by
  have : ∃ hs, hs.length = n ∧ Rt hs (tiesF P) := by
    revert h
    refine rev_ind (motive := fun P => (∀ p ∈ P, p.1 < n ∧ p.2 < n) → ∃ hs, hs.length = n ∧ Rt hs (tiesF P)) (fun _ => ⟨List.range n, by simp, Rt.start n⟩) (fun l a ih h => ?_) P
    obtain ⟨hs, e, r⟩ := ih fun p hp => h p (List.mem_append_left _ hp)
    obtain ⟨h1, h2⟩ := h a (List.mem_append_right _ List.mem_cons_self)
    have r2 := r.tie (a := a.1) (b := a.2) (by omega) (by omega)
    refine ⟨hs.set (max (tiesF l a.1) (tiesF l a.2)) (min (tiesF l a.1) (tiesF l a.2)), (List.length_set ..).trans e, ?_⟩
    rw [show l ++ [a] = l ++ [(a.1, a.2)] from rfl, tiesF_snoc]
    exact r2
  obtain ⟨hs, e, r⟩ := this
  intro k hk
  obtain ⟨a, b, c⟩ := r.spec k (by omega)
  exact ⟨by omega, c⟩
theorem zip_lt {A B : List Nat} {n : Nat} (ha : ∀ x ∈ A, x < n) (hb : ∀ x ∈ B, x < n) : ∀ p ∈ A.zip B, p.1 < n ∧ p.2 < n := fun p hp => ⟨ha _ (List.of_mem_zip hp).1, hb _ (List.of_mem_zip hp).2⟩
/-- letters that agree along the ties -/
theorem zip_eq {A B : List Nat} {g : Nat → Nat} (h : ∀ p ∈ A.zip B, g p.1 = g p.2) (hl : A.length = B.length) : A.map g = B.map g := by
  refine List.ext_getElem? fun i => ?_
  rw [List.getElem?_map, List.getElem?_map]
  by_cases hi : i < A.length
  · have ha : A[i]? = some A[i] := List.getElem?_eq_getElem hi
    have hb : B[i]? = some (B[i]'(by omega)) := List.getElem?_eq_getElem _
    have := h (A[i], B[i]'(by omega)) (List.mem_of_getElem? (by rw [List.getElem?_zip_eq_some]; exact ⟨ha, hb⟩))
    rw [ha, hb]
    exact congrArg some this
  · rw [List.getElem?_eq_none (by omega), List.getElem?_eq_none (by omega)]
theorem eq_zip {A B : List Nat} {g : Nat → Nat} (h : A.map g = B.map g) : ∀ p ∈ A.zip B, g p.1 = g p.2 := fun p hp => by
  obtain ⟨i, hi⟩ := List.mem_iff_getElem?.mp hp
  obtain ⟨h1, h2⟩ := List.getElem?_zip_eq_some.mp hi
  have := congrArg (·[i]?) h
  simp only [List.getElem?_map, h1, h2, Option.map_some] at this
  exact Option.some.inj this
/-- some key of a class has its best letter -/
theorem best_mem {f : Nat → Nat} {L : List Nat} {r k : Nat} (hL : ∀ c ∈ L, 97 ≤ c ∧ c ≤ 122) (hk : k < L.length) (hr : f k = r) : ∃ j, j < L.length ∧ f j = r ∧ L[j]?.getD 0 = bstF f L r := by
  have all : ∀ c ∈ lets L (memF f L.length r), 97 ≤ c ∧ c ≤ 122 := fun c hc => by
    obtain ⟨k, hk, rfl⟩ := List.mem_map.mp hc
    have hk := (mem_memF.mp hk).1
    rw [List.getElem?_eq_getElem hk]
    exact hL _ (List.getElem_mem hk)
  have hm : k ∈ memF f L.length r := mem_memF.mpr ⟨hk, hr⟩
  have ne : lets L (memF f L.length r) ≠ [] := fun z => by rw [List.map_eq_nil_iff.mp z] at hm; cases hm
  obtain ⟨j, hj, e⟩ := List.mem_map.mp (best_spec all ne).1
  obtain ⟨j1, j2⟩ := mem_memF.mp hj
  exact ⟨j, j1, j2, e⟩
/-- without the first change two tied keys differ -/
theorem tail_breaks {P : List (Nat × Nat)} {ss : List Stp} {c : Nat × Nat} {r : List (Nat × Nat)} (hL : ∀ c ∈ tyL ss, 97 ≤ c ∧ c ≤ 122) (e : chgF (tiesF P) (tyL ss) = c :: r) (hz : ∀ p ∈ P, lat (rts r ss) p.1 = lat (rts r ss) p.2) : False := by
  have mc : c ∈ chgF (tiesF P) (tyL ss) := by rw [e]; exact List.mem_cons_self
  obtain ⟨c1, c2, c3⟩ := mem_chgF.mp mc
  have nd := chg_keys (tiesF P) (tyL ss)
  rw [e, List.map_cons, List.nodup_cons] at nd
  obtain ⟨j, j1, j2, j3⟩ := best_mem (f := tiesF P) hL c1 rfl
  have fx := (clo_ties P).fix (lat (rts r ss)) hz
  have e1 : lat (rts r ss) c.1 = (tyL ss)[c.1]?.getD 0 := by unfold lat; rw [rts_out _ _ _ nd.1]
  have nj : j ∉ r.map (·.1) := fun z => by
    obtain ⟨p, hp, rfl⟩ := List.mem_map.mp z
    have := (mem_chgF.mp (show p ∈ chgF (tiesF P) (tyL ss) by rw [e]; exact List.mem_cons_of_mem _ hp)).2.1
    rw [j2] at this
    exact this j3
  have e2 : lat (rts r ss) j = bstF (tiesF P) (tyL ss) (tiesF P c.1) := by unfold lat; rw [rts_out _ _ _ nj, j3]
  have := fx c.1
  have h2 := fx j
  rw [j2] at h2
  rw [this, e1, e2] at h2
  exact c2 h2
/-! ### promises of the laws' helpers -/
section
variable {K : PySem.W.Frag} {CI CT CP : Addr} {H H' H1 : Hp} {a b l r p : Addr} {L M : List Nat} {Q : VK} {E : XK} {cs ds : List (Nat × Nat)} {cl : List (List Nat)} {i j : Int} {ss tt : List Stp} {n c : Nat} {X : Cx}
def rCntS (K : PySem.W.Frag) : V → List V → Hp → VK → Prop := fun x xs H Q => ∃ p L c, x = .ref p ∧ xs = [.str ⟨#[c]⟩] ∧ SqL K H p (sgV L) ∧ Q (.int (L.count c : Nat)) H
theorem mt_scountK (hk : X.K = K) : MtR X "list.count" (rCntS K) := by
  subst hk
  intro pins s σ H x xs v us Q I rx rxs h
  obtain ⟨p, L, c, rfl, rfl, hs, q⟩ := h
  cases rx
  obtain ⟨u, rfl, t, rfl⟩ := rxs.one
  obtain ⟨its, rv, hl, hlen⟩ := I.list hs
  have e : sgV L = (L.map sgn).map V.str := by unfold sgV; rw [List.map_map]; rfl
  rw [e] at rv
  refine count_list_strs hl.isList rv.strs ?_
  have ec : countIn (.str ⟨#[c]⟩) ((L.map sgn).map PyData.str) = ((L.count c : Nat) : Int) := by
    rw [List.map_map]; exact cnt_list c L
  rw [ec]
  exact ⟨.int _, H, I.tok _, ⟨_, rfl⟩, q⟩
theorem rd_scount (h : H l = some (.lst (sgV L))) (q : Q (.int (L.count c : Nat)) H) : rCntS K (.ref l) [.str ⟨#[c]⟩] H Q := ⟨l, L, c, rfl, rfl, SqL.of h, q⟩
/-- max([xs.count(x) for x in xs]) -/
theorem rd_maxCnt (h : H l = some (.lst (natV (L.map fun c => L.count c)))) (hL : ∀ c ∈ L, 97 ≤ c ∧ c ≤ 122) (h0 : L ≠ []) (q : Q (.int (L.count (bestL L) : Nat)) H) : rMax K [.ref l] H Q := by
  refine ⟨l, (L.map fun c => L.count c).map fun m => ((m : Nat) : Int), rfl, SqL.of (by rw [h, natV_ints]), by simp; exact List.length_pos_iff.mpr h0, fun m hm hle => ?_⟩
  obtain ⟨y, hy, rfl⟩ := List.mem_map.mp hm
  obtain ⟨c, hc, rfl⟩ := List.mem_map.mp hy
  obtain ⟨b1, b2⟩ := best_spec hL h0
  have h1 := hle _ (List.mem_map.mpr ⟨_, List.mem_map.mpr ⟨bestL L, b1, rfl⟩, rfl⟩)
  have h2 := b2 c
  rw [show L.count c = L.count (bestL L) by omega]
  exact q
theorem ClsAt.get (h : ClsAt H l cl) {i : Nat} {c : List Nat} (hc : cl[i]? = some c) : ∃ as : List Addr, H l = some (.lst (as.map V.ref)) := let ⟨as, e, _⟩ := h; ⟨as, e⟩
theorem dp_prs : ∀ {xs : List V} {cs : List (Nat × Nat)}, xs.length = cs.length → (∀ (i : Nat) (c : Nat × Nat), cs[i]? = some c → ∃ T, xs[i]? = some (V.ref T) ∧ H T = some (.tup [.int (c.1 : Nat), .str ⟨#[c.2]⟩])) → DpAll K H xs (cs.map fun c => PyData.tuple [.int (c.1 : Nat), .str ⟨#[c.2]⟩])
  | [], [], _, _ => .nil
  | [], _ :: _, h, _ => by simp at h
  | _ :: _, [], h, _ => by simp at h
  | x :: xs, c :: cs, h, g => by
    obtain ⟨T, e1, e2⟩ := g 0 c rfl
    cases e1
    exact .cons (.tup (SqT.of e2) (.cons (.int _) (.cons (.str _) .nil))) (dp_prs (by simpa using h) fun i d hd => g (i + 1) d (by simpa using hd))
theorem dp_ch (h : ChAt K H l cs n) : Dp K H (.ref l) (.list (cs.map fun c => PyData.tuple [.int (c.1 : Nat), .str ⟨#[c.2]⟩])) := by
  obtain ⟨xs, e, hl, hx⟩ := h
  exact .lst (SqL.of e) (dp_prs hl fun i c hc => let ⟨_, _, _, T, a, b⟩ := hx i c hc; ⟨T, a, b⟩)
theorem ch_dok (h : ∀ c ∈ cs, c.2 ≤ 122) : DOk 2 (.list (cs.map fun c => PyData.tuple [.int (c.1 : Nat), .str ⟨#[c.2]⟩])) := .lst fun d hd => by
  obtain ⟨c, hc, rfl⟩ := List.mem_map.mp hd
  refine .tup fun e he => ?_
  rcases List.mem_cons.mp he with e | he
  · rw [e]; exact .int
  · rw [List.mem_singleton.mp he]
    exact .str (strOk_of fun x hx => by cases List.mem_singleton.mp (show x ∈ [c.2] from hx); exact h c hc)
theorem ChAt.let2 (h : ChAt K H l cs n) : ∀ c ∈ cs, c.1 < n ∧ 97 ≤ c.2 ∧ c.2 ≤ 122 := fun c hc => by
  obtain ⟨xs, e, hl, hx⟩ := h
  obtain ⟨i, hi⟩ := List.mem_iff_getElem?.mp hc
  obtain ⟨h1, h2, h3, _⟩ := hx i c hi
  exact ⟨h1, h2, h3⟩
theorem rd_neNil (h : ChAt K H l cs n) (g : H p = some (.lst [])) (q : Q (.bl (!decide (cs = []))) H) : rNeA K (.ref l) (.ref p) H Q := by
  refine rd_ne_dat (dp_ch h) (.lst (SqL.of g) .nil) ((ch_dok fun c hc => (h.let2 c hc).2.2).shaped (by decide)) ((DOk.lst (n := 0) fun d hd => by cases hd).shaped (by decide)) ?_
  cases cs with
  | nil => simpa [PyData.eqv, PyData.eqvAll] using q
  | cons x xs => simpa [PyData.eqv, PyData.eqvAll] using q
theorem rd_eqNil (h : ChAt K H l cs n) (g : H p = some (.lst [])) (q : Q (.bl (decide (cs = []))) H) : rEqA K (.ref l) (.ref p) H Q := by
  refine rd_eq_dat (dp_ch h) (.lst (SqL.of g) .nil) ((ch_dok fun c hc => (h.let2 c hc).2.2).shaped (by decide)) ((DOk.lst (n := 0) fun d hd => by cases hd).shaped (by decide)) ?_
  cases cs with
  | nil => simpa [PyData.eqv, PyData.eqvAll] using q
  | cons x xs => simpa [PyData.eqv, PyData.eqvAll] using q
theorem ChAt.drop {xs : List V} (h : ChAt K H l cs n) (hx : H l = some (.lst xs)) (j : Nat) (e : H p = some (.lst (xs.drop j))) : ChAt K H p (cs.drop j) n := by
  obtain ⟨xs', ex, hl, hc⟩ := h
  rw [hx] at ex
  cases ex
  exact ⟨_, e, by rw [List.length_drop, List.length_drop, hl], fun i c hi => by rw [List.getElem?_drop] at hi ⊢; exact hc _ c hi⟩
theorem rd_slCh {j : Nat} (h : ChAt K H l cs n) (q : ∀ p H', Same H H' → ChAt K H' p (cs.drop j) n → Q (.ref p) H') : rSlL K (.ref l) (some (j : Nat)) none H Q := by
  obtain ⟨xs, ex, hl, hc⟩ := id h
  refine ⟨l, xs, rfl, SqL.of ex, fun p hp => ?_⟩
  have S : Same H (upd H p (.lst (cutV xs (some (j : Nat)) none))) := Same.new (Same.refl _) hp
  exact q p _ S ((h.mono S).drop (S _ _ ex) j (by rw [upd_same, cutV_from]))
theorem rd_lenCh (h : ChAt K H l cs n) (q : Q (.int (cs.length : Nat)) H) : rLenA K [.ref l] H Q := by
  obtain ⟨xs, ex, hl, _⟩ := h
  exact rd_lenL ex (by rw [hl]; exact q)
variable (K CT CP)
def sp_x_law_read : Sp := fun vs H Q _ => ∃ a ss, vs = [.ref a] ∧ TX K CT CP H a ss ∧ sz ss ≤ 1000 ∧ ∀ H', Same H H' → Q (.str (mkS (ls ss))) H'
def sp_x_law_least : Sp := fun vs H Q _ => ∃ l L cl, vs = [.str (mkS L), .ref l] ∧ ClsAt H l cl ∧ (∀ c ∈ cl, c ≠ [] ∧ c.length ≤ 4000 ∧ ∀ k ∈ c, k < L.length) ∧ cl.length ≤ 4000 ∧ L.length ≤ 4000 ∧ (∀ c ∈ L, 97 ≤ c ∧ c ≤ 122) ∧ ∀ H', Same H H' → Q (.int (leastN L cl : Nat)) H'
def sp_x_law_is_mirror : Sp := fun vs H Q _ => ∃ a ss, vs = [.ref a] ∧ TX K CT CP H a ss ∧ sz ss ≤ 500 ∧ ∀ H', Same H H' → Q (.bl true) H'
def sp_x_law_is_period : Sp := fun vs H Q _ => ∃ r a ss, vs = [.ref r, .ref a] ∧ RowAt K H r ∧ TX K CT CP H a ss ∧ sz ss ≤ 500 ∧ ∀ H', Kp H H' → RowAt K H' r → Q (.bl true) H'
variable {K CT CP}
theorem rd_read (h : TX K CT CP H a ss) (hz : sz ss ≤ 1000) (q : ∀ H', Same H H' → Q (.str (mkS (ls ss))) H') : sp_x_law_read K CT CP [.ref a] H Q E := ⟨a, ss, rfl, h, hz, q⟩
theorem rd_least (h : ClsAt H l cl) (h1 : ∀ c ∈ cl, c ≠ [] ∧ c.length ≤ 4000 ∧ ∀ k ∈ c, k < L.length) (h2 : cl.length ≤ 4000) (h3 : L.length ≤ 4000) (h4 : ∀ c ∈ L, 97 ≤ c ∧ c ≤ 122) (q : ∀ H', Same H H' → Q (.int (leastN L cl : Nat)) H') : sp_x_law_least [.str (mkS L), .ref l] H Q E := ⟨l, L, cl, rfl, h, h1, h2, h3, h4, q⟩
theorem cls_ok {f : Nat → Nat} {n : Nat} (hn : n ≤ 4000) : (∀ c ∈ clsF f n, c ≠ [] ∧ c.length ≤ 4000 ∧ ∀ k ∈ c, k < n) ∧ (clsF f n).length ≤ 4000 := by
  refine ⟨fun c hc => ?_, by unfold clsF; rw [List.length_map]; have := rootsF_len f n; omega⟩
  obtain ⟨r, hr, rfl⟩ := List.mem_map.mp hc
  have hr := mem_rootsF.mp hr
  exact ⟨fun z => (by have : r ∈ memF f n r := mem_memF.mpr hr; rw [z] at this; cases this), Nat.le_trans (memF_len f n r) hn, fun k hk => (mem_memF.mp hk).1⟩
theorem rd_fewMirror (h : TX K CT CP H a ss) (hz : sz ss ≤ 2000) (q : ∀ p H', Same H H' → ChAt K H' p (chgF (tiesF (miP ss)) (tyL ss)) (tyL ss).length → Q (.ref p) H') : sp_fewest_for_mirror K CT CP [.ref a] H Q E := ⟨a, ss, rfl, h, hz, q⟩
theorem rd_clsMirror (h : TX K CT CP H a ss) (hz : sz ss ≤ 2000) (q : ∀ p H', Same H H' → ClsAt H' p (clsF (tiesF (miP ss)) (tyL ss).length) → Q (.ref p) H') : sp_mirror_classes K CT CP [.ref a] H Q E := ⟨a, ss, rfl, h, hz, q⟩
theorem rd_fewPeriod (h : TX K CT CP H a ss) (hz : sz ss ≤ 2000) (h1 : 1 ≤ i) (h2 : i ≤ max 1 (sz ss : Int)) (q : ∀ p H', Same H H' → ChAt K H' p (chgF (tiesF (peP ss i.toNat)) (tyL ss)) (tyL ss).length → Q (.ref p) H') : sp_fewest_for_period K CT CP [.ref a, .int i] H Q E := ⟨a, ss, i.toNat, by rw [Int.toNat_of_nonneg (by omega)], h, hz, by omega, by omega, q⟩
theorem rd_clsPeriod (h : TX K CT CP H a ss) (hz : sz ss ≤ 2000) (h1 : 1 ≤ i) (h2 : i ≤ max 1 (sz ss : Int)) (q : ∀ p H', Same H H' → ClsAt H' p (clsF (tiesF (peP ss i.toNat)) (tyL ss).length) → Q (.ref p) H') : sp_period_classes K CT CP [.ref a, .int i] H Q E := ⟨a, ss, i.toNat, by rw [Int.toNat_of_nonneg (by omega)], h, hz, by omega, by omega, q⟩
theorem rd_isMirror (h : TX K CT CP H a ss) (hz : sz ss ≤ 500) (q : ∀ H', Same H H' → Q (.bl true) H') : sp_x_law_is_mirror K CT CP [.ref a] H Q E := ⟨a, ss, rfl, h, hz, q⟩
theorem rd_isPeriod (row : RowAt K H r) (h : TX K CT CP H a ss) (hz : sz ss ≤ 500) (q : ∀ H', Kp H H' → RowAt K H' r → Q (.bl true) H') : sp_x_law_is_period K CT CP [.ref r, .ref a] H Q E := ⟨r, a, ss, rfl, row, h, hz, q⟩
theorem rd_slSR (hz : L.length ≤ 16777216) (q : Q (.str (mkS L.reverse)) H) : rSlSR (.str (mkS L)) none none (some (-1)) H Q := ⟨L, rfl, rfl, rfl, rfl, by rw [sizeLine_eq]; exact hz, q⟩
theorem rd_slSF {j : Nat} (hz : L.length ≤ 16777216) (q : Q (.str (mkS (L.drop j))) H) : rSlS (.str (mkS L)) (some (j : Nat)) none H Q := by
  refine ⟨_, rfl, by rw [mkS_len, sizeLine_eq]; exact hz, ?_⟩
  have e : cutS (mkS L) (some (j : Nat)) none = mkS (L.drop j) := by
    refine ext_tl ?_
    rw [tl_mkS]
    unfold cutS
    rw [HT.sIx_nat, HT.sIx_none, mkS_len]
    show (L.drop (min j L.length)).take (L.length - min j L.length) = _
    by_cases h : j ≤ L.length
    · rw [Nat.min_eq_left h, List.take_of_length_le (by rw [List.length_drop]; exact Nat.le_refl _)]
    · rw [Nat.min_eq_right (by omega), List.drop_of_length_le (Nat.le_refl _), List.drop_of_length_le (by omega)]
      simp
  rw [e]; exact q
theorem rd_slST (hz : L.length ≤ 16777216) (h0 : 0 ≤ j) (q : Q (.str (mkS (L.take j.toNat))) H) : rSlS (.str (mkS L)) none (some j) H Q := by
  refine ⟨_, rfl, by rw [mkS_len, sizeLine_eq]; exact hz, ?_⟩
  have e : cutS (mkS L) none (some j) = mkS (L.take j.toNat) := by
    refine ext_tl ?_
    rw [tl_mkS]
    unfold cutS
    rw [show j = ((j.toNat : Nat) : Int) by omega, HT.sIx_nat, HT.sIx_none, mkS_len, Int.toNat_natCast]
    show (L.drop 0).take (min j.toNat L.length - 0) = _
    rw [List.drop_zero, Nat.sub_zero]
    by_cases h : j.toNat ≤ L.length
    · rw [Nat.min_eq_left h]
    · rw [Nat.min_eq_right (by omega), List.take_of_length_le (Nat.le_refl _), List.take_of_length_le (by omega)]
  rw [e]; exact q
end
end L2.Px

set_option Elab.async false
set_option linter.all false
set_option maxRecDepth 100000
set_option maxHeartbeats 2000000
/-! changes of two texts; texts of one word; comprehensions with a tuple target (law k09) -/
namespace L2.Px
open PySem PySem.Spec PyProof.Rows StX TL
section
variable {J : It} {n : Nat} {it : Nat → V} {H1 : Hp} {g : TG} {tt : TT} {te : TE} {vs : List Nat} {σ : St} {D : Addr} {Qd : Hp → Prop}
theorem lc_relG (P : Plain J n it H1) (hD : H1 D = none) (hn : n ≤ sizeLine) (τ : Nat → St) (hw : ∀ i, wipe (τ i) vs = wipe σ vs) (hg : ∀ i H (R : St → Hp → Prop), i < n → Same H1 H → R (τ i) H → g (it i) (wipe σ vs) H R)
    (p : Nat → Bool) (Rl : Nat → V → Hp → Prop) (mono : ∀ i y H H' l, H D = some (.lst l) → But D H H' → Rl i y H → Rl i y H')
    (ht : ∀ i H (R : Bool → Hp → Prop), i < n → Same H1 H → (∀ H', Same H H' → R (p i) H') → tt (τ i) H R)
    (hs : ∀ i H (Q : VK), i < n → p i = true → Same H1 H → (∀ y H', Same H H' → Rl i y H' → Q y H') → te (τ i) H Q)
    (hd : ∀ H ys, Same H1 H → H D = some (.lst ys) → Ans Rl H ((List.range n).filter p) ys → Qd H) : LcW J g tt te vs σ H1 D Qd := by
  refine ⟨fun i m H => m = n - i ∧ i ≤ n ∧ Same H1 H ∧ ∃ ys, H D = some (.lst ys) ∧ Ans Rl H ((List.range i).filter p) ys, ⟨_, rfl, Nat.zero_le _, Same.new (Same.refl _) hD, [], upd_same, rfl, fun k i h => by simp at h⟩, ?_⟩
  rintro i m H ⟨rfl, hi, S, ys, eD, an⟩
  have hlen : ys.length ≤ i := by
    have := List.length_filter_le p (List.range i)
    rw [List.length_range] at this
    rw [an.1]; exact this
  by_cases hlt : i < n
  · refine .inr ⟨P.go i H S hlt, fun H' => i + 1 ≤ n ∧ Same H1 H' ∧ ∃ ys, H' D = some (.lst ys) ∧ Ans Rl H' ((List.range (i + 1)).filter p) ys, fun H' z => ⟨n - (i + 1), by omega, rfl, z⟩, fun x H' y => ?_⟩
    obtain ⟨e1, e2⟩ := P.yld i H x H' S hlt y
    subst e1 e2
    refine hg i H' _ hlt S ⟨hw i, ht i H' _ hlt S fun H2 S2 => ?_⟩
    have ef : (List.range (i + 1)).filter p = (List.range i).filter p ++ (if p i = true then [i] else []) := by
      rw [List.range_succ, List.filter_append]
      cases hp : p i <;> simp [hp]
    cases hp : p i with
    | true =>
      rw [if_pos rfl]
      refine hs i H2 _ hlt hp (S.trans S2) fun y2 H3 S3 r => ⟨ys, S3 _ _ (S2 _ _ eD), by omega, hlt, Same.mut ((S.trans S2).trans S3) hD, ys ++ [y2], upd_same, ?_⟩
      rw [ef, if_pos hp]
      exact an.snoc (fun i y h => mono i y _ _ _ eD (But.at (But.same (S2.trans S3))) h) (mono _ _ _ _ _ (S3 _ _ (S2 _ _ eD)) (But.at But.refl) r)
    | false =>
      rw [if_neg Bool.false_ne_true]
      refine ⟨hlt, S.trans S2, ys, S2 _ _ eD, ?_⟩
      rw [ef, if_neg (by rw [hp]; exact Bool.false_ne_true), List.append_nil]
      exact an.mono fun i y h => mono i y _ _ _ eD (But.same S2) h
  · have e : i = n := by omega
    subst e
    exact .inl ⟨P.stop H S, hd H ys S eD an⟩
end
section
variable {K : PySem.W.Frag} {CT CP : Addr} {H H' : Hp} {l p D : Addr} {cs : List (Nat × Nat)} {n m : Nat} {Q : VK} {E : XK} {w : List Nat} {A B L : List Nat} {f : Nat → Nat} {ss : List Stp}
/-- the changes that a test lets through, by their places -/
theorem ChAt.filt {xs : List V} (h : ChAt K H l cs n) (hx : H l = some (.lst xs)) (q : Nat × Nat → Bool) (hq : ∀ c, q c = true → c.1 < m) (e : H D = some (.lst (((List.range cs.length).filter fun i => q (cs[i]?.getD (0, 0))).map fun i => (xs[i]?).getD .non))) : ChAt K H D (cs.filter q) m := by
  obtain ⟨xs', ex, hl, hc⟩ := h
  rw [hx] at ex
  cases ex
  have ec : cs.filter q = ((List.range cs.length).filter fun i => q (cs[i]?.getD (0, 0))).map fun i => cs[i]?.getD (0, 0) := by
    have := range_pickV (0, 0) cs q id
    simpa using this.symm
  refine ⟨_, e, by rw [ec, List.length_map, List.length_map], fun j c hj => ?_⟩
  have hqc := (List.mem_filter.mp (List.mem_of_getElem? hj)).2
  rw [ec, List.getElem?_map] at hj
  obtain ⟨i, hi, rfl⟩ := Option.map_eq_some_iff.mp hj
  have hil : i < cs.length := List.mem_range.mp (List.mem_filter.mp (List.mem_of_getElem? hi)).1
  have hci : cs[i]? = some (cs[i]?.getD (0, 0)) := by rw [List.getElem?_eq_getElem hil]; rfl
  obtain ⟨h1, h2, h3, T, h4, h5⟩ := hc i _ hci
  exact ⟨hq _ hqc, h2, h3, T, by rw [List.getElem?_map, hi, Option.map_some, h4]; rfl, h5⟩
/-- the right text's changes, by its own keys -/
def shiftC (n : Nat) (cs : List (Nat × Nat)) : List (Nat × Nat) := (cs.filter fun c => !decide (c.1 < n)).map fun c => (c.1 - n, c.2)
theorem shift_idx (n : Nat) (cs : List (Nat × Nat)) : shiftC n cs = ((List.range cs.length).filter fun i => !decide ((cs[i]?.getD (0, 0)).1 < n)).map fun i => ((cs[i]?.getD (0, 0)).1 - n, (cs[i]?.getD (0, 0)).2) :=
  (range_pickV (0, 0) cs (fun c => !decide (c.1 < n)) fun c => (c.1 - n, c.2)).symm
theorem mem_shift {n : Nat} {cs : List (Nat × Nat)} {k c : Nat} : (k, c) ∈ shiftC n cs ↔ (k + n, c) ∈ cs := by
  unfold shiftC
  rw [List.mem_map]
  constructor
  · rintro ⟨⟨a, b⟩, hx, e⟩
    rw [List.mem_filter] at hx
    have hx2 : ¬ a < n := by simpa using hx.2
    cases e
    rw [show a - n + n = a by omega]
    exact hx.1
  · intro h
    exact ⟨(k + n, c), List.mem_filter.mpr ⟨h, by simp⟩, by simp⟩
theorem filt_keys (q : Nat × Nat → Bool) (h : (cs.map (·.1)).Nodup) : ((cs.filter q).map (·.1)).Nodup := h.sublist (List.filter_sublist.map _)
theorem shift_keys (h : (cs.map (·.1)).Nodup) : ((shiftC n cs).map (·.1)).Nodup := by
  unfold shiftC
  rw [List.map_map]
  have h2 := filt_keys (fun c => !decide (c.1 < n)) h
  rw [show ((·.1) ∘ fun c : Nat × Nat => (c.1 - n, c.2)) = (fun k => k - n) ∘ (·.1) from rfl, ← List.map_map]
  refine List.pairwise_map.mpr ((List.Pairwise.and_mem.mp h2).imp fun {a b} z => ?_)
  obtain ⟨ha, hb, hne⟩ := z
  have ge : ∀ x ∈ (cs.filter fun c => !decide (c.1 < n)).map (·.1), n ≤ x := fun x hx => by
    obtain ⟨c, hc, rfl⟩ := List.mem_map.mp hx
    have := (List.mem_filter.mp hc).2
    have : ¬ c.1 < n := by simpa using this
    omega
  have h1 := ge a ha
  have h2 := ge b hb
  omega
/-- letters after the changes of the left part -/
theorem fin_left {k : Nat} (hL : L = tyL ss ++ B) (hk : k < (tyL ss).length) : lat (rts ((chgF f L).filter fun c => decide (c.1 < (tyL ss).length)) ss) k = bstF f L (f k) := by
  have hLk : L[k]?.getD 0 = (tyL ss)[k]?.getD 0 := by rw [hL, List.getElem?_append_left hk]
  have hlen : k < L.length := by rw [hL, List.length_append]; omega
  unfold lat
  by_cases e : L[k]?.getD 0 = bstF f L (f k)
  · rw [rts_out _ _ _ (fun z => ?_), ← hLk, e]
    obtain ⟨p, hp, rfl⟩ := List.mem_map.mp z
    exact (mem_chgF.mp (List.mem_filter.mp hp).1).2.1 e
  · rw [rts_in (c := bstF f L (f k)) _ _ (filt_keys _ (chg_keys _ _)) (List.mem_filter.mpr ⟨mem_chgF.mpr ⟨hlen, e, rfl⟩, decide_eq_true hk⟩) hk]; rfl
theorem fin_right {k : Nat} (hL : L = A ++ tyL ss) (hk : k < (tyL ss).length) : lat (rts (shiftC A.length (chgF f L)) ss) k = bstF f L (f (k + A.length)) := by
  have hLk : L[k + A.length]?.getD 0 = (tyL ss)[k]?.getD 0 := by rw [hL, List.getElem?_append_right (by omega), Nat.add_sub_cancel]
  have hlen : k + A.length < L.length := by rw [hL, List.length_append]; omega
  unfold lat
  by_cases e : L[k + A.length]?.getD 0 = bstF f L (f (k + A.length))
  · rw [rts_out _ _ _ (fun z => ?_), ← hLk, e]
    obtain ⟨p, hp, rfl⟩ := List.mem_map.mp z
    exact (mem_chgF.mp (mem_shift.mp (show (p.1, p.2) ∈ _ from hp))).2.1 e
  · rw [rts_in (c := bstF f L (f (k + A.length))) _ _ (shift_keys (chg_keys _ _)) (mem_shift.mpr (mem_chgF.mpr ⟨hlen, e, rfl⟩)) hk]; rfl
/-- both texts read the same after the changes -/
theorem fin_equal {ss tt : List Stp} (hz : sz ss = sz tt) (o1 : okFrom 0 ss) (o2 : okFrom 0 tt) : ls (rts ((chgF (tiesF (eqP ss tt)) (tyL ss ++ tyL tt)).filter fun c => decide (c.1 < (tyL ss).length)) ss) = ls (rts (shiftC (tyL ss).length (chgF (tiesF (eqP ss tt)) (tyL ss ++ tyL tt))) tt) := by
  rw [ls_rts, ls_rts, List.map_congr_left fun k hk => fin_left (f := tiesF (eqP ss tt)) (B := tyL tt) rfl (ks_lt hk), List.map_congr_left fun k hk => fin_right (f := tiesF (eqP ss tt)) (A := tyL ss) rfl (ks_lt hk)]
  have := zip_eq (A := ks ss) (B := (ks tt).map (· + (tyL ss).length)) (g := fun k => bstF (tiesF (eqP ss tt)) (tyL ss ++ tyL tt) (tiesF (eqP ss tt) k)) (fun p hp => congrArg (bstF (tiesF (eqP ss tt)) (tyL ss ++ tyL tt)) ((clo_ties (eqP ss tt)).tied p hp)) (by rw [List.length_map, ks_len o1, ks_len o2, hz])
  rw [this, List.map_map]; rfl
/-- letters that agree so many places apart -/
theorem per_eq {A : List Nat} {g : Nat → Nat} {m : Nat} (h : ∀ p ∈ A.zip (A.drop m), g p.1 = g p.2) : (A.map g).drop m = (A.map g).take (A.length - m) := by
  refine List.ext_getElem? fun i => ?_
  rw [List.getElem?_drop]
  by_cases hi : i < A.length - m
  · rw [List.getElem?_take_of_lt hi, List.getElem?_map, List.getElem?_map]
    have ha : A[i]? = some (A[i]'(by omega)) := List.getElem?_eq_getElem _
    have hb : A[m + i]? = some (A[m + i]'(by omega)) := List.getElem?_eq_getElem _
    have := h (A[i]'(by omega), A[m + i]'(by omega)) (List.mem_of_getElem? (i := i) (by rw [List.getElem?_zip_eq_some]; exact ⟨ha, by rw [List.getElem?_drop]; exact hb⟩))
    rw [ha, hb]
    exact congrArg some this.symm
  · rw [List.getElem?_eq_none (by rw [List.length_map]; omega), List.getElem?_eq_none (by rw [List.length_take, List.length_map]; omega)]
theorem eq_per {A : List Nat} {g : Nat → Nat} {m : Nat} (h : (A.map g).drop m = (A.map g).take (A.length - m)) : ∀ p ∈ A.zip (A.drop m), g p.1 = g p.2 := fun p hp => by
  obtain ⟨i, hi⟩ := List.mem_iff_getElem?.mp hp
  obtain ⟨h1, h2⟩ := List.getElem?_zip_eq_some.mp hi
  rw [List.getElem?_drop] at h2
  have hlt := (List.getElem?_eq_some_iff.mp h2).1
  have := congrArg (·[i]?) h
  simp only [List.getElem?_drop, List.getElem?_take_of_lt (show i < A.length - m by omega), List.getElem?_map, h1, h2, Option.map_some] at this
  exact (Option.some.inj this).symm
theorem mirror_eq {A : List Nat} {g : Nat → Nat} (h : ∀ p ∈ A.zip A.reverse, g p.1 = g p.2) : (A.map g).reverse = A.map g := by
  rw [← List.map_reverse]
  exact (zip_eq h (by simp)).symm
theorem eq_mirror {A : List Nat} {g : Nat → Nat} (h : (A.map g).reverse = A.map g) : ∀ p ∈ A.zip A.reverse, g p.1 = g p.2 := eq_zip (by rw [List.map_reverse]; exact h.symm)
theorem per_ok {ss : List Stp} (n : Nat) : ∀ p ∈ peP ss n, p.1 < (tyL ss).length ∧ p.2 < (tyL ss).length := zip_lt (fun x hx => ks_lt hx) (fun x hx => ks_lt (List.mem_of_mem_drop hx))
theorem mir_ok {ss : List Stp} : ∀ p ∈ miP ss, p.1 < (tyL ss).length ∧ p.2 < (tyL ss).length := zip_lt (fun x hx => ks_lt hx) (fun x hx => ks_lt (List.mem_reverse.mp hx))
theorem eqP_ok {ss tt : List Stp} : ∀ p ∈ eqP ss tt, p.1 < (tyL ss ++ tyL tt).length ∧ p.2 < (tyL ss ++ tyL tt).length := zip_lt (fun x hx => by have := ks_lt hx; rw [List.length_append]; omega) (fun x hx => by
  obtain ⟨y, hy, rfl⟩ := List.mem_map.mp hx
  have := ks_lt hy
  rw [List.length_append]; omega)
theorem chg_small (f : Nat → Nat) (L : List Nat) : (chgF f L).length ≤ L.length := by
  unfold chgF
  rw [List.length_map]
  have := List.length_filter_le (fun k => !decide (L[k]?.getD 0 = bstF f L (f k))) (List.range L.length)
  rwa [List.length_range] at this
theorem rd_slSTe {j : Int} (q : Q (.str (mkS [])) H) : rSlS (.str (mkS [])) none (some j) H Q := by
  refine ⟨_, rfl, by rw [mkS_len, sizeLine_eq]; exact Nat.zero_le _, ?_⟩
  have e : cutS (mkS []) none (some j) = mkS [] := by
    refine ext_tl ?_
    rw [tl_mkS]
    unfold cutS
    show List.take _ (List.drop _ []) = []
    simp
  rw [e]; exact q
/-- the last letters against the first ones -/
theorem rd_perS {L : List Nat} {m : Nat} {R : VK} (hz : L.length ≤ 1000) (hm : m ≤ max 1 L.length) (h : L.drop m = L.take (L.length - m)) (q : R (.str (mkS (L.drop m))) H) : rSlS (.str (mkS L)) none (some ((L.length : Int) - (m : Nat))) H R := by
  by_cases hl : m ≤ L.length
  · rw [show ((L.length : Int) - (m : Nat)) = ((L.length - m : Nat) : Int) by omega]
    refine rd_slST (by omega) (by omega) ?_
    rw [Int.toNat_natCast, ← h]
    exact q
  · have e : L = [] := List.length_eq_zero_iff.mp (by omega)
    subst e
    refine rd_slSTe ?_
    rwa [List.drop_nil] at q
/-! ### a text of one word -/
variable (K CT CP)
def sp_Text_of_word : Sp := fun vs H Q _ => ∃ w, vs = [.ref CT, .str (mkS w)] ∧ 1 ≤ w.length ∧ w.length ≤ 20 ∧ (∀ c ∈ w, 97 ≤ c ∧ c ≤ 122) ∧ ∀ p H', Same H H' → TX K CT CP H' p [.wr (mkS w)] → Q (.ref p) H'
variable {K CT CP}
theorem rd_ofWord (h1 : 1 ≤ w.length) (h2 : w.length ≤ 20) (h3 : ∀ c ∈ w, 97 ≤ c ∧ c ≤ 122) (q : ∀ p H', Same H H' → TX K CT CP H' p [.wr (mkS w)] → Q (.ref p) H') : sp_Text_of_word K CT CP [.ref CT, .str (mkS w)] H Q E := ⟨w, rfl, h1, h2, h3, q⟩
theorem rd_makeV {C : Addr} {sp : Sp} {tf : TE} {t : TA} {σ : St} (h : tf σ H fun c H0 => c = V.ref C ∧ t σ H0 fun vs H1 => rMk C sp E vs H1 Q) : tMakeV C sp E tf t σ H Q := h
theorem wr_ok (h1 : 1 ≤ w.length) (h2 : w.length ≤ 20) (h3 : ∀ c ∈ w, 97 ≤ c ∧ c ≤ 122) (n : Nat) : okStep n (.wr (mkS w)) := ⟨by rw [mkS_len]; exact h1, by rw [mkS_len]; exact h2, h3⟩
theorem rd_mkWord {T : Addr} (hT : H T = some (.tup [.str ("write" : Str), .str (mkS w)])) (h1 : 1 ≤ w.length) (h2 : w.length ≤ 20) (h3 : ∀ c ∈ w, 97 ≤ c ∧ c ≤ 122) (q : ∀ p H', Same H H' → TX K CT CP H' p [.wr (mkS w)] → Q (.ref p) H') : rMk CT (spStar 1 (sp_Text_init K CT CP)) E [.ref T] H Q :=
  rd_mkText (rs := [.ref T]) (ss := [.wr (mkS w)]) (.one ⟨T, rfl, SqT.of hT⟩) ⟨wr_ok h1 h2 h3 0, by show 0 + (mkS w).length ≤ _; rw [mkS_len]; omega, trivial⟩ (show 1 ≤ 30 by decide) fun x Hc t _ S T e => q x Hc S ⟨t, T, e⟩
end
end L2.Px

set_option Elab.async false
set_option linter.all false
set_option maxRecDepth 100000
set_option maxHeartbeats 1000000
/-! what the package's defs raise: texts -/
namespace L2.Px
open PySem PySem.Spec PyProof.Rows StX TL ClX
/-- v as a step of a text of n places: b whether it is one -/
def StVal (K : PySem.W.Frag) (H : Hp) (n : Int) (v : V) (b : Bool) : Prop := (NoSeq v ∧ b = false) ∨ ∃ a xs, v = .ref a ∧ (∀ x ∈ xs, NoSeq x ∧ ∀ z, x = .str z → z.length ≤ sizeLine) ∧ ((SqT K H a xs ∧ b = isSt n xs) ∨ (SqL K H a xs ∧ b = false))
def sp_is_stepG (K : PySem.W.Frag) : Sp := fun vs H Q _ => ∃ (v : V) (n : Nat) (b : Bool), vs = [v, .int n] ∧ StVal K H n v b ∧ ∀ H', Same H H' → Q (.bl b) H'
/-- the values rs are no steps of a text -/
def Rej (K : PySem.W.Frag) (CIS CTL : Addr) (E : XK) (H : Hp) (rs : List V) : Prop := ∃ (ss : List Stp) (v : V), StepsAt K H (rs.take ss.length) ss ∧ okFrom 0 ss ∧ rs[ss.length]? = some v ∧ ss.length ≤ 30 ∧
  (((ss.length = 30 ∨ StVal K H (sz ss : Nat) v false) ∧ ∀ d H', Same H H' → H' d = some (.xd [("index", .int (ss.length : Nat))]) → E (.ref CIS) (some d) H') ∨
    ∃ s, StepAt K H v s ∧ okStep (sz ss) s ∧ ss.length < 30 ∧ 1000000000000000000 < sz ss + len1 s ∧ ∀ H', Same H H' → E (.ref CTL) none H')
section
variable {K : PySem.W.Frag} {CIS CTL CT CP : Addr} {E : XK} {H H' : Hp} {rs : List V} {v : V} {n : Int} {b : Bool} {Q : VK}
theorem StVal.mono (e : Same H H') (h : StVal K H n v b) : StVal K H' n v b := by
  rcases h with h | ⟨a, xs, ev, hx, h | h⟩
  · exact .inl h
  · exact .inr ⟨a, xs, ev, hx, .inl ⟨Same.tup e h.1, h.2⟩⟩
  · exact .inr ⟨a, xs, ev, hx, .inr ⟨e.seq h.1, h.2⟩⟩
theorem Rej.mono (e : Same H H') (h : Rej K CIS CTL E H rs) : Rej K CIS CTL E H' rs := by
  obtain ⟨ss, v, h1, h2, h3, h4, h5⟩ := h
  refine ⟨ss, v, h1.mono e, h2, h3, h4, ?_⟩
  rcases h5 with ⟨h5, h6⟩ | ⟨s, a1, a2, a3, a4, a5⟩
  · exact .inl ⟨h5.imp id (·.mono e), fun d H'' S hd => h6 d H'' (e.trans S) hd⟩
  · exact .inr ⟨s, a1.mono e, a2, a3, a4, fun H'' S => a5 H'' (e.trans S)⟩
end
theorem StepAt.val {K : PySem.W.Frag} {H : Hp} {v : V} {s : Stp} {n : Nat} (h : StepAt K H v s) (ok : okStep n s) : StVal K H (n : Nat) v true := by
  obtain ⟨a, rfl, hq⟩ := h
  refine .inr ⟨a, stV s, rfl, fun x hx => ⟨stV_noseq s x hx, fun z hz => ?_⟩, .inl ⟨hq, ?_⟩⟩
  · subst hz
    cases s with
    | wr w =>
      simp only [stV, List.mem_cons, List.not_mem_nil, or_false, V.str.injEq] at hx
      rcases hx with rfl | rfl
      · rw [sizeLine_eq]; decide
      · exact str_small ok.2.1
    | pa f l t =>
      simp only [stV, List.mem_cons, List.not_mem_nil, or_false, V.str.injEq, reduceCtorEq] at hx
      subst hx
      rw [sizeLine_eq]; decide
  · cases s with
    | wr w =>
      have e : isWd (.str w) = true := decide_eq_true (by rw [← len_tl]; exact ok)
      simp [stV, isSt, e]
    | pa f l t =>
      obtain ⟨o1, o2, o3, o4⟩ := ok
      have e1 : isInt 0 ((n : Int) - 1) (.int l) = true := decide_eq_true (by omega)
      have e2 : isInt 0 (l : Int) (.int f) = true := decide_eq_true (by omega)
      have e3 : isInt 1 1000000000 (.int t) = true := decide_eq_true (by omega)
      simp [stV, isSt, e1, e2, e3, intOf]
section
variable (K : PySem.W.Frag) (CIS CTL CT CP : Addr)
def sp_Text_initR : Sp := fun vs H _ E => ∃ x dx m rs, vs = [.ref x, .ref m] ∧ H x = some (.ins CT dx []) ∧ SqT K H m rs ∧ Rej K CIS CTL E H rs
def sp_Text_of_stepsR : Sp := fun vs H _ E => ∃ a ms, vs = [.ref CT, .ref a] ∧ (SqT K H a ms ∨ SqL K H a ms) ∧ Rej K CIS CTL E H ms ∧ ms.length ≤ sizeLine
def sp_Text_of_wordR : Sp := fun vs H _ E => ∃ x, vs = [.ref CT, x] ∧ NoSeq x ∧ (∀ z, x = .str z → z.length ≤ sizeLine) ∧ isWd x = false ∧ ∀ d H', Same H H' → H' d = some (.xd [("index", .int 0)]) → E (.ref CIS) (some d) H'
end
def sp_Text_check_placeR (K : PySem.W.Frag) (CIP CT CP : Addr) : Sp := fun vs H _ E => ∃ a t v, vs = [.ref a, v] ∧ TextAt K CT CP H a t ∧ NoSeq v ∧ isInt 0 ((sz t.ss : Int) - 1) v = false ∧ E (.ref CIP) none H
def sp_Text_callR := sp_Text_check_placeR
def sp_Text_getitemR := sp_Text_check_placeR
def sp_Text_check_keyR (K : PySem.W.Frag) (CIK CT CP : Addr) : Sp := fun vs H _ E => ∃ a t v, vs = [.ref a, v] ∧ TextAt K CT CP H a t ∧ NoSeq v ∧ isInt 0 (((tyL t.ss).length : Int) - 1) v = false ∧ E (.ref CIK) none H
def sp_Text_check_keyQ (K : PySem.W.Frag) (CIK CT CP : Addr) : Sp := fun vs H Q E => sp_Text_check_key K CT CP vs H Q E ∨ sp_Text_check_keyR K CIK CT CP vs H Q E
def sp_Text_retypedR (K : PySem.W.Frag) (CIK CIL CT CP : Addr) : Sp := fun vs H _ E => ∃ a t v w, vs = [.ref a, v, w] ∧ TextAt K CT CP H a t ∧ NoSeq v ∧ NoSeq w ∧ (∀ z, w = .str z → z.length ≤ sizeLine) ∧
  ((isInt 0 (((tyL t.ss).length : Int) - 1) v = false ∧ E (.ref CIK) none H) ∨ (isInt 0 (((tyL t.ss).length : Int) - 1) v = true ∧ isLet w = false ∧ E (.ref CIL) none H))
/-- x + y is too long -/
def Long (ss : List Stp) : Prop := ∃ pre s post, ss = pre ++ s :: post ∧ okFrom 0 pre ∧ pre.length < 30 ∧ okStep (sz pre) s ∧ 1000000000000000000 < sz pre + len1 s
def sp_Text_addR (K : PySem.W.Frag) (CTL CT CP : Addr) : Sp := fun vs H _ E => ∃ a b t u, vs = [.ref a, .ref b] ∧ TextAt K CT CP H a t ∧ TextAt K CT CP H b u ∧ Long (joinS t.ss u.ss) ∧ ∀ H', Same H H' → E (.ref CTL) none H'
def sp_joinedR := sp_Text_addR
def sp_repeatedR (K : PySem.W.Frag) (CTL CT CP : Addr) : Sp := fun vs H _ E => ∃ a t, ∃ (n : Nat), vs = [.ref a, .int n] ∧ TextAt K CT CP H a t ∧ 1 ≤ n ∧ n ≤ 1000000000 ∧ Long (mulS t.ss n) ∧ ∀ H', Same H H' → E (.ref CTL) none H'
def sp_Text_mulR (K : PySem.W.Frag) (CTL CIN CT CP : Addr) : Sp := fun vs H Q E => sp_repeatedR K CTL CT CP vs H Q E ∨ ∃ a t v, vs = [.ref a, v] ∧ TextAt K CT CP H a t ∧ NoSeq v ∧ isInt 1 1000000000 v = false ∧ E (.ref CIN) none H
theorem Long.not {ss : List Stp} (h : Long ss) (ok : okFrom 0 ss) : False := by
  obtain ⟨pre, s, post, rfl, h1, h2, h3, h4⟩ := h
  have := (ok_at ok (j := pre.length) (s := s) (by rw [List.getElem?_append_right (Nat.le_refl _), Nat.sub_self]; rfl)).2
  rw [List.take_left'] at this
  · omega
  · rfl
theorem Long.rej {K : PySem.W.Frag} {CIS CTL : Addr} {E : XK} {H : Hp} {rs : List V} {ss : List Stp} (h : Long ss) (hs : StepsAt K H rs ss) (k : ∀ H', Same H H' → E (.ref CTL) none H') : Rej K CIS CTL E H rs := by
  obtain ⟨pre, s, post, rfl, h1, h2, h3, h4⟩ := h
  have hl := hs.1
  rw [List.length_append, List.length_cons] at hl
  obtain ⟨v, hv, hst⟩ := hs.2 pre.length s (by rw [List.getElem?_append_right (Nat.le_refl _), Nat.sub_self]; rfl)
  refine ⟨pre, v, ⟨by rw [List.length_take]; omega, fun j u hj => ?_⟩, h1, hv, by omega, .inr ⟨s, hst, h3, h2, h4, k⟩⟩
  have hj' : j < pre.length := (List.getElem?_eq_some_iff.mp hj).1
  obtain ⟨v', e1, e2⟩ := hs.2 j u (by rw [List.getElem?_append_left hj']; exact hj)
  exact ⟨v', by rw [List.getElem?_take, if_pos hj']; exact e1, e2⟩
section
variable {K : PySem.W.Frag} {CIS CTL CT CP : Addr} {E : XK} {H : Hp} {rs : List V} {Q : VK}
theorem rd_mkTextR (h : Rej K CIS CTL E H rs) (hz : rs.length ≤ sizeLine) : rMk CT (spStar 1 (sp_Text_initR K CIS CTL CT)) E rs H Q := by
  intro x dx nx ndx hn
  refine ⟨[.ref x], rs, rfl, rfl, hz, fun p hp => ⟨x, dx, p, rs, rfl, ?_, SqT.of upd_same, ?_⟩⟩
  · rw [upd_ne fun z => by subst z; rw [upd_same] at hp; cases hp]; exact upd_same
  · refine h.mono ?_
    exact Same.new (Same.new (Same.new (Same.refl _) ndx) (by rw [upd_ne fun z => hn z.symm]; exact nx)) hp
theorem rd_mkWordR {x : V} {q : Addr} (h1 : H q = some (.tup [.str "write", x])) (hx : NoSeq x) (hz : ∀ z, x = .str z → z.length ≤ sizeLine) (hw : isWd x = false) (k : ∀ d H', Same H H' → H' d = some (.xd [("index", .int 0)]) → E (.ref CIS) (some d) H') : rMk CT (spStar 1 (sp_Text_initR K CIS CTL CT)) E [.ref q] H Q := by
  refine rd_mkTextR ⟨[], .ref q, ⟨rfl, fun j s hj => by simp at hj⟩, trivial, rfl, Nat.zero_le _, .inl ⟨.inr (.inr ⟨q, _, rfl, fun y hy => ?_, .inl ⟨SqT.of h1, ?_⟩⟩), fun d H' S e => k d H' S e⟩⟩ one_line
  · simp only [List.mem_cons, List.not_mem_nil, or_false] at hy
    rcases hy with rfl | rfl
    · exact ⟨trivial, fun z e => by cases e; rw [sizeLine_eq]; decide⟩
    · exact ⟨hx, hz⟩
  · simp [isSt, hw]
end
end L2.Px

set_option Elab.async false
set_option linter.all false
set_option maxRecDepth 100000
set_option maxHeartbeats 1000000
/-! laws that ask what is raised: facts over heaps but for rows and tables; the readings of a raised word -/
namespace L2.Px
open PySem PySem.Spec PyProof.Rows StX TL ClX LamX
def sp_lawL (K : PySem.W.Frag) (T : List (Addr × Str)) : Sp := fun vs H Q _ => ∃ (a : Addr) (sc : List Int), vs = [.ref a] ∧ SqL K H a (sc.map V.int) ∧ Tabs T H ∧ ∀ H', Q (.bl true) H'
section
variable {K : PySem.W.Frag} {CT CP : Addr} {H H' H1 : Hp} {Q : VK} {E : XK} {a b r p q : Addr} {ss tt : List Stp} {i j : Int} {v : V} {o : HO} {xs : List V} {L : List Nat} {T : List (Addr × Str)}
theorem Kl.at_ (e : Kl T H H') (n : ¬ isRow o) (m : ∀ ps, o ≠ .tbl ps) (h : H a = some o) : H' a = some o := e.keep a o n m h
theorem StepAt.kl {s : Stp} (h : StepAt K H v s) (e : Kl T H H') : StepAt K H' v s := let ⟨a, ev, q⟩ := h; ⟨a, ev, e.tup q⟩
theorem StepsAt.kl {ms : List V} (h : StepsAt K H ms ss) (e : Kl T H H') : StepsAt K H' ms ss := ⟨h.1, fun j s q => let ⟨v, a, b⟩ := h.2 j s q; ⟨v, a, b.kl e⟩⟩
theorem PartAt.kl {n y : Nat} {s : Stp} (h : PartAt CP H v n y s) (e : Kl T H H') : PartAt CP H' v n y s := by
  cases s with
  | wr w => obtain ⟨p, dx, ev, q⟩ := h; exact ⟨p, dx, ev, e.keep _ _ nr_ins (fun _ z => nomatch z) q⟩
  | pa f l t => obtain ⟨p, dx, ev, q⟩ := h; exact ⟨p, dx, ev, e.keep _ _ nr_ins (fun _ z => nomatch z) q⟩
theorem PartsAt.kl {ps : List V} (h : PartsAt CP H ps ss) (e : Kl T H H') : PartsAt CP H' ps ss := ⟨h.1, fun j s q => let ⟨v, a, b⟩ := h.2 j s q; ⟨v, a, b.kl e⟩⟩
theorem TextAt.kl {t : TxI} (h : TextAt K CT CP H a t) (e : Kl T H H') : TextAt K CT CP H' a t :=
  ⟨e.keep _ _ nr_ins (fun _ z => nomatch z) h.ins, e.tup h.made, h.stp.kl e, e.keep _ _ (nr_refs h.prt.refs) (fun _ z => nomatch z) h.pls, h.prt.kl e, h.ok, h.few⟩
theorem TX.kl (h : TX K CT CP H a ss) (e : Kl T H H') : TX K CT CP H' a ss := let ⟨t, x, y⟩ := h; ⟨t, x.kl e, y⟩
theorem TS'.kl (h : TS' K H a ss) (e : Kl T H H') : TS' K H' a ss := let ⟨ms, x, y⟩ := h; ⟨ms, e.tup x, y.kl e⟩
theorem SX.kl (h : SX K H a ss) (e : Kl T H H') : SX K H' a ss := let ⟨ms, x, y⟩ := h; ⟨ms, x.imp (e.tup ·) (e.keep _ _ (nr_refs y.refs) (fun _ z => nomatch z) ·), y.kl e⟩
theorem kl_natV {l : Addr} (h : H l = some (.lst (natV L))) (k : Kl T H H') : H' l = some (.lst (natV L)) := k.keep _ _ nr_natV (fun _ z => nomatch z) h
theorem kl_sgV {l : Addr} (h : H l = some (.lst (sgV L))) (k : Kl T H H') : H' l = some (.lst (sgV L)) := k.keep _ _ nr_sgV (fun _ z => nomatch z) h
/-- x(lambda: body): made and run -/
theorem rd_giv {X : Cx} {k : Nat} {TT : (XK → Hp → VK → Prop) → Hp → VK → Prop} {t : XK → TE} {σ : St} (hT : Tabs T H) (h : ∀ H1, Kx T H H1 → TT (fun E H' Q' => t E σ H' Q') H1 Q) : tGiv X k TT (tMkL T (IsLam X k t)) σ H Q :=
  ⟨hT, fun f H1 kl _ il => ⟨f, t, rfl, il, h H1 kl⟩⟩
theorem rd_mkL {IL : Addr → Hp → Prop} {σ : St} (hT : Tabs T H) (h : ∀ f H1, Kx T H H1 → H f = none → IL f H1 → Q (.ref f) H1) : tMkL T IL σ H Q := ⟨hT, h⟩
/-! ### the words -/
theorem dp_w1 {w : Str} (h : H p = some (.tup [.str w])) : Dp K H (.ref p) (.tuple [.str w]) := .tup (SqT.of h) (.cons (.str w) .nil)
theorem dp_w2 {w : Str} {n : Int} (h : H p = some (.tup [.str w, .int n])) : Dp K H (.ref p) (.tuple [.str w, .int n]) := .tup (SqT.of h) (.cons (.str w) (.cons (.int n) .nil))
theorem dok_w1 {w : Str} (hw : PySem.PyData.strOk w = true) : DOk 1 (.tuple [.str w]) := .tup fun d hd => by
  simp only [List.mem_cons, List.not_mem_nil, or_false] at hd
  subst hd
  exact .str hw
theorem dok_w2 {w : Str} {n : Int} (hw : PySem.PyData.strOk w = true) : DOk 1 (.tuple [.str w, .int n]) := .tup fun d hd => by
  simp only [List.mem_cons, List.not_mem_nil, or_false] at hd
  rcases hd with rfl | rfl
  · exact .str hw
  · exact .int
theorem rd_neW1 {w : Str} (h : H p = some (.tup [.str w])) (g : H q = some (.tup [.str w])) (hw : PySem.PyData.strOk w = true) (k : Q (.bl false) H) : rNeA K (.ref p) (.ref q) H Q :=
  rd_ne_dat (dp_w1 h) (dp_w1 g) (dok_w1 hw).shaped (dok_w1 hw).shaped (by simpa [PyData.eqv, PyData.eqvAll] using k)
theorem rd_neW2 {w : Str} {n m : Int} (e : n = m) (h : H p = some (.tup [.str w, .int n])) (g : H q = some (.tup [.str w, .int m])) (hw : PySem.PyData.strOk w = true) (k : Q (.bl false) H) : rNeA K (.ref p) (.ref q) H Q := by
  subst e
  exact rd_ne_dat (dp_w2 h) (dp_w2 g) (dok_w2 hw).shaped (dok_w2 hw).shaped (by simpa [PyData.eqv, PyData.eqvAll] using k)
theorem rd_eqW1 {w : Str} (h : H p = some (.tup [.str w])) (g : H q = some (.tup [.str w])) (hw : PySem.PyData.strOk w = true) (k : Q (.bl true) H) : rEqA K (.ref p) (.ref q) H Q :=
  rd_eq_dat (dp_w1 h) (dp_w1 g) (dok_w1 hw).shaped (dok_w1 hw).shaped (by simpa [PyData.eqv, PyData.eqvAll] using k)
theorem rd_eqW2 {w : Str} {n m : Int} (e : n = m) (h : H p = some (.tup [.str w, .int n])) (g : H q = some (.tup [.str w, .int m])) (hw : PySem.PyData.strOk w = true) (k : Q (.bl true) H) : rEqA K (.ref p) (.ref q) H Q := by
  subst e
  exact rd_eq_dat (dp_w2 h) (dp_w2 g) (dok_w2 hw).shaped (dok_w2 hw).shaped (by simpa [PyData.eqv, PyData.eqvAll] using k)
theorem rz_num {CE C d : Addr} {Cs : List Addr} {i : Nat} {n : Int} (w : Str) (z : RzC K CE Cs i C) (zf : RzF K C "index") (hi : i < 2) (hw : rzW[i]? = some w) (hx : H d = some (.xd [("index", .int n)])) (k : ∀ p H', Same H H' → H' p = some (.tup [.str w, .int n]) → Q (.ref p) H') : RzAns K CE Cs (.ref C) (some d) H Q :=
  ⟨i, C, w, rfl, z, hw, .inl ⟨hi, zf, d, n, _, rfl, hx, by simp [List.lookup], k⟩⟩
theorem rz_word {CE C : Addr} {Cs : List Addr} {i : Nat} (w : Str) (z : RzC K CE Cs i C) (hi : ¬ i < 2) (hw : rzW[i]? = some w) (k : ∀ p H', Same H H' → H' p = some (.tup [.str w]) → Q (.ref p) H') : RzAns K CE Cs (.ref C) none H Q :=
  ⟨i, C, w, rfl, z, hw, .inr ⟨hi, rfl, k⟩⟩
/-! ### calls that raise -/
variable {CIP CIK CIL CIN CTL CIS : Addr}
theorem rd_oCallR (h : TX K CT CP H a ss) (hv : NoSeq v) (hi : isInt 0 ((sz ss : Int) - 1) v = false) (k : E (.ref CIP) none H) : InsA H a CT ∧ sp_Text_callR K CIP CT CP [.ref a, v] H Q E := by
  obtain ⟨t, ht, rfl⟩ := h
  exact ⟨ht.insA, a, t, v, rfl, ht, hv, hi, k⟩
theorem rd_oItemR (h : TX K CT CP H a ss) (hv : NoSeq v) (hi : isInt 0 ((sz ss : Int) - 1) v = false) (k : E (.ref CIP) none H) : ∃ a', V.ref a = .ref a' ∧ InsA H a' CT ∧ sp_Text_getitemR K CIP CT CP [.ref a', v] H Q E := by
  obtain ⟨t, ht, rfl⟩ := h
  exact ⟨a, rfl, ht.insA, a, t, v, rfl, ht, hv, hi, k⟩
theorem rd_mRetypedK {w : V} (h : TX K CT CP H a ss) (hv : NoSeq v) (hw : NoSeq w) (hz : ∀ z, w = .str z → z.length ≤ sizeLine) (hi : isInt 0 (((tyL ss).length : Int) - 1) v = false) (k : E (.ref CIK) none H) : sp_Text_retypedR K CIK CIL CT CP [.ref a, v, w] H Q E := by
  obtain ⟨t, ht, rfl⟩ := h
  exact ⟨a, t, v, w, rfl, ht, hv, hw, hz, .inl ⟨hi, k⟩⟩
theorem rd_mRetypedL {w : V} (h : TX K CT CP H a ss) (hv : NoSeq v) (hw : NoSeq w) (hz : ∀ z, w = .str z → z.length ≤ sizeLine) (hi : isInt 0 (((tyL ss).length : Int) - 1) v = true) (hl : isLet w = false) (k : E (.ref CIL) none H) : sp_Text_retypedR K CIK CIL CT CP [.ref a, v, w] H Q E := by
  obtain ⟨t, ht, rfl⟩ := h
  exact ⟨a, t, v, w, rfl, ht, hv, hw, hz, .inr ⟨hi, hl, k⟩⟩
end
end L2.Px

set_option Elab.async false
set_option linter.all false
set_option maxRecDepth 100000
set_option maxHeartbeats 1000000
/-! texts that are too long; what k01's law wants -/
namespace L2.Px
open PySem PySem.Spec PyProof.Rows StX TL ClX LamX
theorem cross {M : Nat} : ∀ {n : Nat} {b : List Stp}, n ≤ M → M < n + sz b → ∃ j s, b[j]? = some s ∧ n + sz (b.take j) ≤ M ∧ M < n + sz (b.take j) + len1 s
  | n, [], h, g => by simp only [sz] at g; omega
  | n, s :: r, h, g => by
    by_cases c : M < n + len1 s
    · exact ⟨0, s, rfl, by simpa [sz] using h, by simpa [sz] using c⟩
    · obtain ⟨j, u, e, h1, h2⟩ := cross (M := M) (n := n + len1 s) (b := r) (by omega) (by simp only [sz] at g; omega)
      exact ⟨j + 1, u, e, by simp only [List.take_succ_cons, sz]; omega, by simp only [List.take_succ_cons, sz]; omega⟩
theorem long_join {a b : List Stp} (ha : okFrom 0 a) (hb : okFrom 0 b) (hl : a.length + b.length ≤ 30) (hs : sz a ≤ 1000000000000000000) (hz : 1000000000000000000 < sz a + sz b) : Long (joinS a b) := by
  obtain ⟨j, s, e, h1, h2⟩ := cross hs hz
  have hj := (List.getElem?_eq_some_iff.mp e).1
  refine ⟨joinS a (b.take j), mv (sz a) s, (b.drop (j + 1)).map (mv (sz a)), ?_, ok_join ha (ok_take hb j) h1, ?_, ?_, ?_⟩
  · unfold joinS
    rw [List.append_assoc]
    congr 1
    rw [← List.map_cons, ← List.map_append]
    congr 1
    obtain ⟨_, rfl⟩ := List.getElem?_eq_some_iff.mp e
    rw [← List.drop_eq_getElem_cons hj, List.take_append_drop]
  · unfold joinS
    simp only [List.length_append, List.length_map, List.length_take]
    omega
  · rw [sz_join]
    have o := (ok_at hb e).1
    cases s with
    | wr w => exact o
    | pa f l t =>
      obtain ⟨o1, o2, o3, o4⟩ := o
      show f + sz a ≤ l + sz a ∧ l + sz a < _ ∧ 1 ≤ t ∧ t ≤ 1000000000
      exact ⟨by omega, by omega, o3, o4⟩
  · rw [sz_join]
    have e2 : len1 (mv (sz a) s) = len1 s := by
      cases s with
      | wr w => rfl
      | pa f l t => show (l + sz a - (f + sz a) + 1) * t = (l - f + 1) * t; rw [Nat.add_sub_add_right]
    rw [e2]; exact h2
theorem long_mul {a : List Stp} {n : Nat} (ha : okFrom 0 a) (hl : a.length < 30) (h0 : 1 ≤ sz a) (hs : sz a ≤ 1000000000000000000) (hn : n ≤ 1000000000) (hz : 1000000000000000000 < sz a * n) : Long (mulS a n) := by
  have n2 : 2 ≤ n := by
    rcases n with _ | _ | n
    · omega
    · omega
    · omega
  have e : mulS a n = a ++ [.pa 0 (sz a - 1) (n - 1)] := by unfold mulS; rw [if_neg (by omega)]
  refine ⟨a, .pa 0 (sz a - 1) (n - 1), [], e, ha, hl, ⟨by omega, by omega, by omega, by omega⟩, ?_⟩
  show 1000000000000000000 < sz a + (sz a - 1 - 0 + 1) * (n - 1)
  rw [show sz a - 1 - 0 + 1 = sz a by omega, show sz a + sz a * (n - 1) = sz a * n by
    obtain ⟨m, rfl⟩ : ∃ m, n = m + 1 := ⟨n - 1, by omega⟩
    rw [Nat.add_sub_cancel, Nat.mul_succ, Nat.add_comm]]
  exact hz
section
variable {K : PySem.W.Frag} {CT CP : Addr} {H : Hp} {Q : VK} {E : XK} {a b : Addr} {ss tt : List Stp} {v : V} {CTL CIN CIS : Addr}
theorem rd_opAddR (h : TX K CT CP H a ss) (g : TX K CT CP H b tt) (hz : 1000000000000000000 < sz ss + sz tt) (hl : ss.length + tt.length ≤ 30) (k : ∀ H', Same H H' → E (.ref CTL) none H') : rOwn CT (sp_Text_addR K CTL CT CP) E (.ref a) (.ref b) H Q := by
  obtain ⟨t, ht, rfl⟩ := h
  obtain ⟨u, hu, rfl⟩ := g
  exact ⟨a, b, rfl, rfl, ht.insA, hu.insA, a, b, t, u, rfl, ht, hu, long_join ht.ok hu.ok hl (sz_le ht.ok) hz, k⟩
theorem rd_opMulR {n : Nat} (h : TX K CT CP H a ss) (h0 : 1 ≤ sz ss) (hn : n ≤ 1000000000) (hn1 : 1 ≤ n) (hz : 1000000000000000000 < sz ss * n) (hl : ss.length < 30) (k : ∀ H', Same H H' → E (.ref CTL) none H') : sp_Text_mulR K CTL CIN CT CP [.ref a, .int (n : Nat)] H Q E := by
  obtain ⟨t, ht, rfl⟩ := h
  exact .inl ⟨a, t, n, rfl, ht, hn1, hn, long_mul ht.ok hl h0 (sz_le ht.ok) hn hz, k⟩
theorem rd_opMulN (h : TX K CT CP H a ss) (hv : NoSeq v) (hi : isInt 1 1000000000 v = false) (k : E (.ref CIN) none H) : sp_Text_mulR K CTL CIN CT CP [.ref a, v] H Q E := by
  obtain ⟨t, ht, rfl⟩ := h
  exact .inr ⟨a, t, v, rfl, ht, hv, hi, k⟩
end
/-! ### x op y by x's own method, y no instance -/
structure BTy (K : PySem.W.Frag) (C : Addr) (op : Operator) (T : String) : Prop where
  h1 : ∃ fo, PySem.W.findIn K (.type T) (PySem.dunder op.info.2) = some fo
  h2 : ∃ ro, PySem.W.findIn K (.type T) (dunderR op.info.2) = some ro
  sub : PySem.W.subIn K (.type T) (.ref C) = some false
/-- y an int, a bool or None -/
def isIBN : V → Bool
  | .int _ => true
  | .bl _ => true
  | .non => true
  | _ => false
def rOwnA (C : Addr) (sp : Sp) (E : XK) : R2 := fun x y H Q => ∃ a, x = .ref a ∧ isIBN y = true ∧ InsA H a C ∧ sp [x, y] H Q E
theorem oOwnA {X : Cx} {CX : CXT} {k : Nat} {C : Addr} {sp : Sp} {E : XK} {op : Operator} (G : XOk X.prog X.w X.K X.mg X.base CX k (BOwnI X.K C op) sp) (tb : BTy X.K C op "bool") (tn : BTy X.K C op "NoneType") (hr : Room k X.A) (hx : Passes CX X E) : OpR X (binaryOp op) (rOwnA C sp E) := by
  obtain ⟨f, F, b⟩ := G
  intro pins s σ H x y v u Q I rx ry h
  obtain ⟨a, rfl, hy, ia, q⟩ := h
  obtain rfl : v = Value.ref a := rx
  obtain ⟨ox, od, J⟩ := ia.at I
  obtain ⟨m, Fr0⟩ := I.fr
  have all : ∀ {T : String}, typeOf u = pure (.type T) → BTy X.K C op T → wpAny (model X.prog X.w) X.A (binaryOp op (.ref a) u) (EP X pins σ Q) X.xe s := fun {T} ty t => by
    obtain ⟨fo, h1⟩ := t.h1
    obtain ⟨ro, h2⟩ := t.h2
    refine PySem.W.ksp_binT Fr0 I.ok.mod.kin J (T := T) ty b.first b.at_ b.fn b.rr (.inl rfl) h1 h2 t.sub ?_
    exact wpAny_call (codeAny_mono (run_fnR (us := [.ref a, u]) (vs := [.ref a, y]) F hr hx I (.cons rfl (.cons ry .nil)) q) fun r s' hq => match r, hq with
      | .error e, hq => hq
      | .ok (.ret w), hq => let ⟨v', H', I', rv, q'⟩ := hq; ncb rv ⟨v', H', I', rv, q'⟩
      | .ok .next, hq => hq
      | .ok .brk, hq => hq
      | .ok .cont, hq => hq)
  cases y with
  | int i => obtain ⟨t, rfl⟩ := ry; exact all rfl ⟨b.h1, b.h2, b.sub⟩
  | bl c => cases ry; exact all rfl tb
  | non => cases ry; exact all rfl tn
  | _ => cases hy
theorem rd_ownA {K : PySem.W.Frag} {CT CP : Addr} {H : Hp} {Q : VK} {E : XK} {a : Addr} {ss : List Stp} {sp : Sp} {v : V} (h : TX K CT CP H a ss) (hv : isIBN v = true) (k : sp [.ref a, v] H Q E) : rOwnA CT sp E (.ref a) v H Q := ⟨a, rfl, hv, h.insA, k⟩
end L2.Px
namespace L2.Px
open PySem PySem.Spec PyProof.Rows StX TL ClX LamX
def sp_x_law_is_long (K : PySem.W.Frag) (CT CP : Addr) (T : List (Addr × Str)) : Sp := fun vs H Q _ => ∃ r, vs = [.ref r] ∧ RowAt K H r ∧ Tabs T H ∧ ∀ H', Kl T H H' → RowAt K H' r → Q (.bl true) H'
end L2.Px
namespace L2.Px
open PySem PySem.Spec PyProof.Rows StX TL ClX LamX
theorem abs_len (n : Nat) : (List.replicate (n + 1) (tl (Str.ofString "ab"))).flatten.length = 2 * (n + 1) := by
  rw [List.length_flatten, List.map_replicate, List.sum_replicate_nat, show (tl (Str.ofString "ab")).length = 2 by decide +kernel, Nat.mul_comm]
theorem abs_let (n : Nat) : ∀ c ∈ (List.replicate (n + 1) (tl (Str.ofString "ab"))).flatten, 97 ≤ c ∧ c ≤ 122 := by
  intro c hc
  obtain ⟨l, hl, hc⟩ := List.mem_flatten.mp hc
  rw [List.mem_replicate] at hl
  rw [hl.2] at hc
  exact (by decide +kernel : ∀ c ∈ tl (Str.ofString "ab"), 97 ≤ c ∧ c ≤ 122) c hc
theorem mulS_len (a : List Stp) (n : Nat) : (mulS a n).length ≤ a.length + 1 := by
  unfold mulS
  split
  · omega
  · rw [List.length_append]; exact Nat.le_refl _
theorem rd_p18 {H : Hp} {Q : VK} (q : ∀ B : Int, B = 1000000000000000000 → Q (.int B) H) : rI CPow (fun i j => V.int (i ^ j.toNat)) (.int 10) (.int 18) H Q := rd_I ⟨by decide, by decide, by decide⟩ (q _ (by decide +kernel))
theorem div_fact {B : Int} {z : Nat} (hB : B = 1000000000000000000) (h1 : 2000000000 ≤ z) (h2 : z ≤ 10000000000) : ∃ m : Nat, B / (z : Nat) = (m : Nat) ∧ 2 ≤ m ∧ m ≤ 1000000000 ∧ z * m ≤ 1000000000000000000 ∧ 1000000000000000000 < z * m + z := by
  subst hB
  have e : (1000000000000000000 : Int) / (z : Nat) = ((1000000000000000000 / z : Nat) : Int) := by rw [Int.natCast_ediv]; rfl
  have d := Nat.div_add_mod 1000000000000000000 z
  have r := Nat.mod_lt 1000000000000000000 (show 0 < z by omega)
  have lo : 100000000 ≤ 1000000000000000000 / z := (Nat.le_div_iff_mul_le (by omega)).mpr (by omega)
  have hi : 1000000000000000000 / z ≤ 500000000 := Nat.div_le_of_le_mul (by omega)
  exact ⟨_, e, by omega, by omega, by omega, by omega⟩
end L2.Px
namespace L2.Px
open PySem PySem.Spec PyProof.Rows StX TL ClX LamX
def sp_x_law_are_steps_rejected (K : PySem.W.Frag) (CT CP : Addr) (T : List (Addr × Str)) : Sp := fun vs H Q _ => ∃ r a ss, vs = [.ref r, .ref a] ∧ RowAt K H r ∧ Tabs T H ∧ TS' K H a ss ∧ okFrom 0 ss ∧ ss.length ≤ 10 ∧ sz ss ≤ 300 ∧ ∀ H', Kl T H H' → RowAt K H' r → Q (.bl true) H'
end L2.Px

set_option Elab.async false
set_option linter.all false
set_option maxRecDepth 100000
set_option maxHeartbeats 1000000
/-! k01: values that are no steps -/
namespace L2.Px
open PySem PySem.Spec PyProof.Rows StX TL ClX LamX
theorem slTA {X : Cx} {K : PySem.W.Frag} (hk : X.K = K) : SlR X (rSlA K) := hk ▸ sl_tupA
section
variable {K : PySem.W.Frag} {H H' : Hp} {Q : VK} {a p : Addr} {ss : List Stp} {ms xs : List V} {n : Int} {v : V}
theorem StepsAt.take' (h : StepsAt K H ms ss) (k : Nat) : StepsAt K H (ms.take k) (ss.take k) :=
  ⟨by rw [List.length_take, List.length_take, h.1], fun j s e => by
    rw [List.getElem?_take] at e ⊢
    split at e
    · rename_i hj; rw [if_pos hj]; exact h.2 j s e
    · cases e⟩
theorem StepsAt.drop' (h : StepsAt K H ms ss) (k : Nat) : StepsAt K H (ms.drop k) (ss.drop k) :=
  ⟨by rw [List.length_drop, List.length_drop, h.1], fun j s e => by rw [List.getElem?_drop] at e ⊢; exact h.2 (k + j) s e⟩
theorem TS'.len (h : TS' K H a ss) (q : Q (.int (ss.length : Nat)) H) : rLenA K [.ref a] H Q := by
  obtain ⟨ms, h1, h2⟩ := h
  exact rd_len_tup h1 (by rw [h2.1]; exact q)
theorem sIx_le (m d k : Nat) (h : k ≤ m) : HT.sIx m d (some (k : Int)) = k := by rw [HT.sIx_nat, Nat.min_eq_left h]
theorem rd_slTake {k : Nat} (h : TS' K H a ss) (hk : k ≤ ss.length) (q : ∀ p H', Same H H' → TS' K H' p (ss.take k) → Q (.ref p) H') : rSlA K (.ref a) none (some (k : Nat)) H Q := by
  obtain ⟨ms, h1, h2⟩ := h
  refine ⟨a, ms, rfl, h1, fun hw => ?_, fun hw p hp => ?_⟩
  · have hz : HT.sIx ms.length ms.length (some (k : Nat)) = ms.length := hw.2
    rw [sIx_le _ _ _ (by rw [h2.1]; exact hk)] at hz
    exact q a H (Same.refl _) ⟨ms, h1, by rw [show k = ss.length by rw [hz, h2.1], List.take_length]; exact h2⟩
  · refine q p _ (Same.new (Same.refl _) hp) ⟨_, SqT.of upd_same, ?_⟩
    rw [cutV_to]
    exact (h2.take' k).mono (Same.new (Same.refl _) hp)
theorem rd_slDrop {k : Nat} (h : TS' K H a ss) (hk : k ≤ ss.length) (q : ∀ p H', Same H H' → TS' K H' p (ss.drop k) → Q (.ref p) H') : rSlA K (.ref a) (some (k : Nat)) none H Q := by
  obtain ⟨ms, h1, h2⟩ := h
  refine ⟨a, ms, rfl, h1, fun hw => ?_, fun hw p hp => ?_⟩
  · have hz : HT.sIx ms.length 0 (some (k : Nat)) = 0 := hw.1
    rw [sIx_le _ _ _ (by rw [h2.1]; exact hk)] at hz
    exact q a H (Same.refl _) ⟨ms, h1, by rw [hz, List.drop_zero]; exact h2⟩
  · refine q p _ (Same.new (Same.refl _) hp) ⟨_, SqT.of upd_same, ?_⟩
    rw [cutV_from]
    exact (h2.drop' k).mono (Same.new (Same.refl _) hp)
/-- plain and short -/
def nsB : V → Bool
  | .str z => decide (z.length ≤ 1000)
  | .non => true
  | .bl _ => true
  | .int _ => true
  | _ => false
theorem nsB_ok (h : xs.all nsB = true) : ∀ x ∈ xs, NoSeq x ∧ ∀ z, x = .str z → z.length ≤ sizeLine := fun x hx => by
  have := List.all_eq_true.mp h x hx
  cases x with
  | str z => exact ⟨trivial, fun y e => by cases e; rw [sizeLine_eq]; have := of_decide_eq_true this; omega⟩
  | non => exact ⟨trivial, fun _ e => nomatch e⟩
  | bl _ => exact ⟨trivial, fun _ e => nomatch e⟩
  | int _ => exact ⟨trivial, fun _ e => nomatch e⟩
  | _ => cases this
theorem bad_tup (e : H p = some (.tup xs)) (hx : xs.all nsB = true) (hb : isSt n xs = false) : StVal K H n (.ref p) false := .inr ⟨p, xs, rfl, nsB_ok hx, .inl ⟨SqT.of e, hb.symm⟩⟩
theorem bad_lst (e : H p = some (.lst xs)) (hx : xs.all nsB = true) : StVal K H n (.ref p) false := .inr ⟨p, xs, rfl, nsB_ok hx, .inr ⟨SqL.of e, rfl⟩⟩
theorem isSt_write (h : isWd v = false) : isSt n [.str "write", v] = false := by simp [isSt, h]
theorem isSt_two {z : Str} (h : z ≠ "write") : isSt n [.str z, v] = false := by simp [isSt, h]
theorem isSt_paste {f l t : V} (h : (isInt 0 (n - 1) l && isInt 0 (intOf l) f && isInt 1 1000000000 t) = false) : isSt n [.str "paste", f, l, t] = false := by
  simp only [isSt, h, Bool.and_false]
/-- a list of values that are no steps for n places -/
def BadL (K : PySem.W.Frag) (H : Hp) (n : Int) (bs : List V) : Prop := ∀ b ∈ bs, StVal K H n b false
theorem BadL.mono {bs : List V} (h : BadL K H n bs) (e : Same H H') : BadL K H' n bs := fun b hb => (h b hb).mono e
theorem StVal.kx {T : List (Addr × Str)} {b : Bool} (h : StVal K H n v b) (e : Kx T H H') : StVal K H' n v b := by
  rcases h with h | ⟨a, xs, ev, hx, h | h⟩
  · exact .inl h
  · exact .inr ⟨a, xs, ev, hx, .inl ⟨e.tup h.1, h.2⟩⟩
  · exact .inr ⟨a, xs, ev, hx, .inr ⟨e.lst h.1, h.2⟩⟩
/-- the steps ahead of k, then no step -/
theorem rej_at {CIS CTL : Addr} {E : XK} {k : Nat} {b : V} {rest : List V} (h : StepsAt K H ms (ss.take k)) (ok : okFrom 0 ss) (hk : k ≤ ss.length) (hl : ss.length ≤ 30) (hb : StVal K H (sz (ss.take k) : Nat) b false) (q : ∀ d H', Same H H' → H' d = some (.xd [("index", .int (k : Nat))]) → E (.ref CIS) (some d) H') :
    Rej K CIS CTL E H (ms ++ b :: rest) := by
  have lk : (ss.take k).length = k := by rw [List.length_take]; omega
  have lm : ms.length = k := by rw [h.1, lk]
  refine ⟨ss.take k, b, ?_, ok_take ok k, ?_, by omega, .inl ⟨.inr hb, fun d H' S e => q d H' S (by rw [lk] at e; exact e)⟩⟩
  · rw [lk, List.take_left' lm]; exact h
  · rw [lk, List.getElem?_append_right (by omega), lm, Nat.sub_self]; rfl
theorem wr_a (h : H a = some (.tup [.str (Str.ofString "write"), .str (Str.ofString "a")])) : StepAt K H (.ref a) (.wr (Str.ofString "a")) := ⟨a, rfl, SqT.of h⟩
theorem ok_wra : okStep n.toNat (.wr (Str.ofString "a")) := by
  refine ⟨by decide +kernel, by decide +kernel, ?_⟩
  exact (by decide +kernel : ∀ c ∈ tl (Str.ofString "a"), 97 ≤ c ∧ c ≤ 122)
theorem ok_reps : ∀ (m n : Nat), n + m ≤ 1000 → okFrom n (List.replicate m (.wr (Str.ofString "a"))) := fun m => by
  induction m with
  | zero => exact fun _ _ => trivial
  | succ m ih =>
    intro n h
    have e : len1 (.wr (Str.ofString "a")) = 1 := by decide +kernel
    refine ⟨ok_wra (n := (n : Int)), by rw [e]; omega, ?_⟩
    rw [e]
    exact ih (n + 1) (by omega)
/-- 31 steps -/
theorem rej_31 {CIS CTL : Addr} {E : XK} (h : H a = some (.tup [.str (Str.ofString "write"), .str (Str.ofString "a")])) (q : ∀ d H', Same H H' → H' d = some (.xd [("index", .int 30)]) → E (.ref CIS) (some d) H') :
    Rej K CIS CTL E H (List.replicate 31 (.ref a)) := by
  refine ⟨List.replicate 30 (.wr (Str.ofString "a")), .ref a, ⟨by simp, fun j s hj => ?_⟩, ok_reps 30 0 (by omega), by simp, by simp, .inl ⟨.inl (by simp), fun d H' S e => q d H' S (by simpa using e)⟩⟩
  have hj' := (List.getElem?_eq_some_iff.mp hj).1
  rw [List.length_replicate] at hj'
  rw [List.getElem?_replicate, if_pos hj'] at hj
  cases hj
  refine ⟨.ref a, ?_, wr_a h⟩
  rw [List.getElem?_take, List.length_replicate, if_pos hj', List.getElem?_replicate, if_pos (by omega)]
/-- a paste of a place that is not there -/
theorem rej_2 {CIS CTL : Addr} {E : XK} {b : Addr} (h : H a = some (.tup [.str (Str.ofString "write"), .str (Str.ofString "a")])) (g : H b = some (.tup [.str (Str.ofString "paste"), .int 0, .int 1, .int 1])) (q : ∀ d H', Same H H' → H' d = some (.xd [("index", .int 1)]) → E (.ref CIS) (some d) H') :
    Rej K CIS CTL E H [.ref a, .ref b] := by
  have e : sz [.wr (Str.ofString "a")] = 1 := by decide +kernel
  refine ⟨[.wr (Str.ofString "a")], .ref b, (wr_a h).one', ?_, rfl, by show 1 ≤ 30; decide, .inl ⟨.inr ?_, fun d H' S e => q d H' S e⟩⟩
  · exact ok_reps 1 0 (by omega)
  · rw [e]
    exact bad_tup g (by decide +kernel) (isSt_paste (by decide))
theorem rep1 {x : V} {m : Nat} : (List.replicate m [x]).flatten = List.replicate m x := by
  induction m with
  | zero => rfl
  | succ m ih => rw [List.replicate_succ, List.flatten_cons, ih]; rfl
/-- steps != () -/
theorem rd_neSNil (h : TS' K H a ss) (ok : okFrom 0 ss) (g : H p = some (.tup [])) (q : Q (.bl (decide (ss ≠ []))) H) : rNeA K (.ref a) (.ref p) H Q := by
  obtain ⟨ms, h1, h2⟩ := h
  have e : PyData.eqv (.tuple (ss.map stD)) (.tuple []) = decide (ss = []) := by
    have := stDs_eq ss []
    simpa [PyData.eqv] using this
  have e2 : DOk 1 (PyData.tuple []) := .tup fun d hd => by simp at hd
  refine rd_ne_dat (.tup h1 h2.dp) (.tup (SqT.of g) .nil) (steps_dok ok).shaped e2.shaped ?_
  rw [e]
  by_cases c : ss = []
  · simpa [c] using q
  · simpa [c] using q
/-- [] != [] -/
theorem rd_neLL0 {b : Addr} (h : H a = some (.lst [])) (g : H b = some (.lst [])) (q : Q (.bl false) H) : rNeA K (.ref a) (.ref b) H Q := by
  have e2 : DOk 1 (PyData.list []) := .lst fun d hd => by simp at hd
  exact rd_ne_dat (.lst (SqL.of h) .nil) (.lst (SqL.of g) .nil) e2.shaped e2.shaped (by simpa [PyData.eqv, PyData.eqvAll] using q)
theorem tyL_pos (ok : okFrom 0 ss) (h : ss ≠ []) : 1 ≤ (tyL ss).length := by
  cases ss with
  | nil => exact absurd rfl h
  | cons s r =>
    obtain ⟨o, _⟩ := ok
    cases s with
    | wr w =>
      have h1 : 1 ≤ (tl w).length := by have := o.1; have := len_tl w; omega
      rw [tyL, ty1, List.length_append]
      omega
    | pa f l t => obtain ⟨_, o2, _⟩ := o; omega
end
section
variable {K : PySem.W.Frag} {H1 : Hp} {tt : TT} {te : TE} {vs : List Nat} {σ : St} {D l : Addr} {Qd : Hp → Prop} {j : Nat} {ys : List V} {T : List (Addr × Str)}
/-- [.. for x in l if p x], p false of each; p may fill tables of code -/
theorem lc_noneK (hl : SqL K H1 l ys) (hD : H1 D = none) (hj : ∀ v, wipe ((wipe σ vs).set j (some v)) vs = wipe σ vs)
    (ht : ∀ v H (R : Bool → Hp → Prop), v ∈ ys → Kx T H1 H → (∀ H', Kx T H H' → R false H') → tt ((wipe σ vs).set j (some v)) H R)
    (hd : ∀ H, Kx T H1 H → H D = some (.lst []) → Qd H) : LcW (Itl K l) (gName j) tt te vs σ H1 D Qd := by
  refine ⟨fun i m H => m = ys.length - i ∧ i ≤ ys.length ∧ Kx T H1 H ∧ H D = some (.lst []), ⟨_, rfl, Nat.zero_le _, .same (Same.new (Same.refl _) hD), upd_same⟩, ?_⟩
  rintro i m H ⟨rfl, hi, S, eD⟩
  have hl' := S.lst hl
  by_cases hlt : i < ys.length
  · refine .inr ⟨⟨ys, ys[i], hl', by simp [hlt]⟩, fun H' => i + 1 ≤ ys.length ∧ Kx T H1 H' ∧ H' D = some (.lst []), fun H' z => ⟨ys.length - (i + 1), by omega, rfl, z⟩, fun x H' y => ?_⟩
    obtain ⟨e1, e2⟩ := y
    have e3 := e2 ys hl'
    subst e1
    refine ⟨hj _, ht x H' _ (List.mem_of_getElem? e3) S fun H2 S2 => ?_⟩
    rw [if_neg Bool.false_ne_true]
    exact ⟨hlt, S.trans S2, S2.keep _ _ (fun ps z => nomatch z) eD⟩
  · exact .inl ⟨⟨ys, hl', by omega⟩, hd H S eD⟩
end
theorem rd_givB {X : Cx} {k i : Nat} {TT : (XK → Hp → VK → Prop) → Hp → VK → Prop} {t : XK → TE} {σ σ0 : St} {H : Hp} {Q : VK} {f : Addr} (hs : σ[i]? = some (some (.ref f))) (il : IsLam X k t f H) (h : TT (fun E H' Q' => t E σ0 H' Q') H Q) : tGivB X k TT σ0 (tVar i) σ H Q := ⟨_, hs, f, t, rfl, il, h⟩
end L2.Px

set_option Elab.async false
set_option linter.all false
set_option maxRecDepth 100000
set_option maxHeartbeats 1000000
/-! the end of a law with exceptions: what the top leaves -/
namespace L2.Px
open PySem PySem.Spec PyProof.Rows StX ClX LamX
section
variable {K : PySem.W.Frag} {h : Heap} {mg : Str → Option Value} {x qual : Str} {st : Stmt} {ps fs : List Str} {C D CT f : Addr}
theorem defI_mk (a : PySem.W.findIn K (.ref C) "__init__" = some (some (.ref f))) (t : PySem.W.typeIn K (.ref f) = some (.type "function")) (l : AtF K "__init__" qual st f) (k : PySem.W.keepIn K (.ref f) = true) (b : BF "__init__" qual st ps) : DefI K C qual st ps := by
  obtain ⟨fd, F⟩ := l.fun k
  exact ⟨f, fd, F, a, t, F.binds b⟩
theorem oex_mk {nm q : Str} {N : Addr} {bs bm : List Value} {sn : List Str} {sub : List Value} {ab : Bool} {col : Option Bool} {dd : Option Addr} {k0 k1 k2 k3 k5 : Option Value}
    (l : K.lookup C = some (excClassObj nm q C N bs bm true sn sub ab col dd k0 k1 k2 k3 k5 "ValueError.__new__")) (r : PySem.HandSPX.refsVE bm = true) (sa : PySem.W.findIn K (.ref C) "__setattr__" = some (some (.builtin "object.__setattr__")))
    (e : PySem.W.subIn K (.ref C) (.type "BaseException") = some true) (t : PySem.W.typeIn K (.ref C) = some (.type "type")) (k : PySem.W.keepIn K (.ref C) = true) : OexC K C := ⟨⟨nm, q, N, bs, bm, sn, sub, ab, col, dd, k0, k1, k2, k3, k5, l, r⟩, sa, e, t, k⟩
theorem xf_mk (a : PySem.W.findIn K (.ref C) "__getattribute__" = some (some (.builtin "BaseException.__getattribute__"))) (b : PySem.W.findIn K (.ref C) "__getattr__" = some none) (c : PySem.W.subIn K (.ref C) (.type "BaseException") = some true) (d : PySem.W.hasDictIn K C = true) : XfC K C := ⟨a, b, c, d⟩
theorem no1 {f : Str} (a : PySem.W.findIn K (.ref C) f = some none) : ∀ g ∈ [f], PySem.W.findIn K (.ref C) g = some none := fun g hg => by
  rw [List.mem_singleton] at hg; rw [hg]; exact a
theorem exm_mk (h1 : PySem.W.subIn K (.ref C) (.type "BaseException") = some true) (hd : PySem.W.hasDictIn K C = true) (ht : PySem.W.typeIn K (.ref C) = some (.type "type")) (h4 : PySem.W.subIn K (.ref D) (.ref C) = some true) : PySem.W.exmOne K (.ref D) (.ref C) = some true :=
  PySem.W.exm_ref h1 hd ht h4
theorem kit_ve (h : PySem.W.subIn K (.ref D) (.type "ValueError") = some true) : PySem.W.kitOne K (.ref D) (.type "ValueError") = some true := by
  unfold PySem.W.kitOne
  rw [if_neg (by simp)]
  exact h
theorem kit_all {C0 C1 C2 C3 C4 C5 C6 : Addr} {i : Nat} (k0 : PySem.W.kitOne K (.ref D) (.ref C0) = some (decide (0 = i))) (k1 : PySem.W.kitOne K (.ref D) (.ref C1) = some (decide (1 = i))) (k2 : PySem.W.kitOne K (.ref D) (.ref C2) = some (decide (2 = i))) (k3 : PySem.W.kitOne K (.ref D) (.ref C3) = some (decide (3 = i)))
    (k4 : PySem.W.kitOne K (.ref D) (.ref C4) = some (decide (4 = i))) (k5 : PySem.W.kitOne K (.ref D) (.ref C5) = some (decide (5 = i))) (k6 : PySem.W.kitOne K (.ref D) (.ref C6) = some (decide (6 = i))) :
    ∀ (j : Nat) C, [C0, C1, C2, C3, C4, C5, C6][j]? = some C → PySem.W.kitOne K (.ref D) (.ref C) = some (decide (j = i)) := fun j C hj => by
  match j, hj with
  | 0, hj => cases hj; exact k0
  | 1, hj => cases hj; exact k1
  | 2, hj => cases hj; exact k2
  | 3, hj => cases hj; exact k3
  | 4, hj => cases hj; exact k4
  | 5, hj => cases hj; exact k5
  | 6, hj => cases hj; exact k6
theorem excC_mk (hg : PySem.W.findIn K (.ref D) "__getattribute__" = some (some (.builtin "BaseException.__getattribute__"))) (hk : PySem.W.findIn K (.ref D) "__getattr__" = some none) (hs : PySem.W.subIn K (.ref D) (.type "BaseException") = some true) (hd : PySem.W.hasDictIn K D = true)
    (ha : PySem.W.findIn K (.ref D) "__class__" = some (some (.builtin "object.__class__"))) (hn : PySem.W.specialIn K (.builtin "object.__class__") "__get__" = some (some (.builtin "getset_descriptor.__get__"))) (ht : PySem.W.takesIn K (.builtin "object.__class__") = some true) (hm : PySem.W.mroIn K D (.type "object") = some true) : ExcC K D :=
  ⟨hg, hk, hs, hd, ha, hn, ht, hm⟩
theorem cread_mk {mc : Value} (a : PySem.W.readsIn K C mc = true) (b : PySem.W.specialIn K (.ref C) "__getattribute__" = some (some (.builtin "type.__getattribute__"))) : CRead K C mc := ⟨a, b⟩
theorem cval_mk {mc u : Value} {v : V} {x : Str} (a : PySem.W.findCls K (.ref C) mc x = some (.val u)) (r : RelV v u) : ∃ u, CVal K C mc x v u := ⟨u, a, r⟩
end
end L2.Px

set_option Elab.async false
set_option linter.all false
set_option maxRecDepth 100000
set_option maxHeartbeats 1000000
/-! what the defs of counts raise -/
namespace L2.Px
open PySem PySem.Spec PyProof.Rows StX TL ClX LamX
/-- v, w are no range of a text -/
def NoRng (ss : List Stp) (v w : V) : Prop := isInt 0 (sz ss : Nat) v = false ∨ ∃ i : Int, v = .int i ∧ isInt 0 (sz ss : Nat) v = true ∧ isInt (i - 1) ((sz ss : Nat) - 1) w = false
def sp_check_rangeR (K : PySem.W.Frag) (CIP CT CP : Addr) : Sp := fun vs H _ E => ∃ a ss v w, vs = [.ref a, v, w] ∧ TX K CT CP H a ss ∧ NoSeq v ∧ NoSeq w ∧ NoRng ss v w ∧ E (.ref CIP) none H
def sp_check_rangeQ (K : PySem.W.Frag) (CIP CT CP : Addr) : Sp := fun vs H Q E => sp_check_range K CT CP vs H Q E ∨ sp_check_rangeR K CIP CT CP vs H Q E
def sp_key_countsR := sp_check_rangeR
def sp_letter_countsR := sp_check_rangeR
def sp_letters_betweenR (K : PySem.W.Frag) (CIP CIN CT CP : Addr) : Sp := fun vs H Q E => sp_check_rangeR K CIP CT CP vs H Q E ∨ ∃ a ss, ∃ f e : Nat, vs = [.ref a, .int f, .int ((e : Int) - 1)] ∧ TX K CT CP H a ss ∧ f ≤ e ∧ e ≤ sz ss ∧ f + 1000 < e ∧ E (.ref CIN) none H
section
variable {K : PySem.W.Frag} {CIP CIN CT CP : Addr} {H : Hp} {Q : VK} {E : XK} {a : Addr} {ss : List Stp} {v w : V}
theorem rd_rangeR (h : TX K CT CP H a ss) (hv : NoSeq v) (hw : NoSeq w) (hn : NoRng ss v w) (k : E (.ref CIP) none H) : sp_check_rangeR K CIP CT CP [.ref a, v, w] H Q E := ⟨a, ss, v, w, rfl, h, hv, hw, hn, k⟩
theorem rd_betweenR (h : TX K CT CP H a ss) (hv : NoSeq v) (hw : NoSeq w) (hn : NoRng ss v w) (k : E (.ref CIP) none H) : sp_letters_betweenR K CIP CIN CT CP [.ref a, v, w] H Q E := .inl ⟨a, ss, v, w, rfl, h, hv, hw, hn, k⟩
theorem rd_betweenN {i j : Int} (h : TX K CT CP H a ss) (h1 : 0 ≤ i) (h3 : j + 1 ≤ sz ss) (h4 : i + 1000 ≤ j) (k : E (.ref CIN) none H) : sp_letters_betweenR K CIP CIN CT CP [.ref a, .int i, .int j] H Q E :=
  .inr ⟨a, ss, i.toNat, (j + 1).toNat, by rw [show ((i.toNat : Nat) : Int) = i by omega, show (((j + 1).toNat : Nat) : Int) - 1 = j by omega], h, by omega, by omega, by omega, k⟩
end
end L2.Px

set_option Elab.async false
set_option linter.all false
set_option maxRecDepth 100000
set_option maxHeartbeats 1000000
/-! what the defs of ties raise; changes that are none -/
namespace L2.Px
open PySem PySem.Spec PyProof.Rows StX TL ClX LamX
section
variable {P : Program} {w : World} {K : PySem.W.Frag} {mg : Str → Option Value} {base : Heap} {k : Nat} {x : Str} {st : Stmt} {ps : List Str} {dvs : List V} {sp : Sp}
theorem DefGF.okX {N : List Str} (D : DefGF K mg x st ps dvs) (S : FnScope N ps (defScope st)) (len : ∀ vs H Q E, sp vs H Q E → vs.length = ps.length)
    (hbody : ∀ (f : Addr) (cdv : Value) (A : Around) (outer : List Env) (s : Shared) (H : Hp) (vs : List V) (Q : VK) (E : XK), Room k (A.deeper (envOfC x (defScope st) s.heap.objs.size f cdv)) → sp vs H Q E →
      ∃ t, PSs (cxOf (L2.CX P w) P w K mg base N x (defScope st) f cdv A outer s H E) (defBody st) t ∧ t { nx := fun _ H' => Q .non H', rt := Q } (start N vs) H) : GOk P w K mg base (L2.CX P w) (k + 1) x (fun vs => sp (vs ++ dvs)) := by
  obtain ⟨f, fd, F, a, ⟨ds, hd, b⟩, b0⟩ := D
  exact ⟨f, FnOk.toR1 (F.ok (CX := L2.CX P w) S len fun cdv A outer s H vs Q E hr h => hbody f cdv A outer s H vs Q E hr h) b hd, a, F.kp⟩
end
def sp_key_rowR (K : PySem.W.Frag) (CTL CT CP : Addr) : Sp := fun vs H _ E => ∃ a ss, ∃ m : Nat, vs = [.ref a, .int m] ∧ TX K CT CP H a ss ∧ m < sz ss ∧ E (.ref CTL) none H
def sp_tie_patternR (K : PySem.W.Frag) (CTL CT CP : Addr) : Sp := fun vs H _ E => ∃ a ss, vs = [.ref a] ∧ TX K CT CP H a ss ∧ 2000 < sz ss ∧ ∀ H', Same H H' → E (.ref CTL) none H'
def sp_tie_patternQ (K : PySem.W.Frag) (CTL CT CP : Addr) : Sp := fun vs H Q E => sp_tie_pattern K CT CP vs H Q E ∨ sp_tie_patternR K CTL CT CP vs H Q E
def sp_first_unlike_tieR (K : PySem.W.Frag) (CTL CT CP : Addr) : Sp := fun vs H _ E => ∃ a b ss tt, vs = [.ref a, .ref b] ∧ TX K CT CP H a ss ∧ TX K CT CP H b tt ∧ (2000 < sz ss ∨ (sz ss ≤ 2000 ∧ 2000 < sz tt)) ∧ ∀ H', Same H H' → E (.ref CTL) none H'
/-- v is no change of a text of n keys -/
def isCh (n : Int) : List V → Bool
  | [x, y] => isInt 0 (n - 1) x && isLet y
  | _ => false
def BadCh (K : PySem.W.Frag) (H : Hp) (n : Int) (v : V) : Prop := NoSeq v ∨ ∃ a xs, v = .ref a ∧ (∀ x ∈ xs, NoSeq x ∧ ∀ z, x = .str z → z.length ≤ sizeLine) ∧ ((SqT K H a xs ∧ isCh n xs = false) ∨ SqL K H a xs)
def sp_retyped_byR (K : PySem.W.Frag) (CIC CT CP : Addr) : Sp := fun vs H _ E => ∃ a v ss, vs = [.ref a, v] ∧ TX K CT CP H a ss ∧
  (((isIBN v = true ∨ ∃ p xs, v = .ref p ∧ SqT K H p xs) ∧ ∀ d H', Same H H' → H' d = some (.xd [("index", .int 0)]) → E (.ref CIC) (some d) H') ∨
    ∃ (l : Addr) (xs : List V) (cs : List (Nat × Nat)) (b : V), v = .ref l ∧ H l = some (.lst xs) ∧ xs.length ≤ 1000 ∧ xs[cs.length]? = some b ∧ BadCh K H (tyL ss).length b ∧
      (∀ (i : Nat) (c : Nat × Nat), cs[i]? = some c → c.1 < (tyL ss).length ∧ 97 ≤ c.2 ∧ c.2 ≤ 122 ∧ ∃ T, xs[i]? = some (V.ref T) ∧ H T = some (.tup [.int (c.1 : Nat), .str ⟨#[c.2]⟩])) ∧
      ∀ d H', Same H H' → H' d = some (.xd [("index", .int (cs.length : Nat))]) → E (.ref CIC) (some d) H')
section
variable {K : PySem.W.Frag} {H H' : Hp} {n : Int} {v : V}
theorem BadCh.mono (h : BadCh K H n v) (e : Same H H') : BadCh K H' n v := by
  rcases h with h | ⟨a, xs, ev, hx, h | h⟩
  · exact .inl h
  · exact .inr ⟨a, xs, ev, hx, .inl ⟨Same.tup e h.1, h.2⟩⟩
  · exact .inr ⟨a, xs, ev, hx, .inr (e.seq h)⟩
theorem rd_isi_ibn_list {Q : VK} (h : isIBN v = true) (q : Q (.bl false) H) : rIsi K [v, .ty "list"] H Q := by
  cases v with
  | int i => exact rd_isi_int_list q
  | bl c => exact rd_isi_bl_list q
  | non => exact rd_isi_non_list q
  | _ => cases h
end
theorem BadCh.kx {K : PySem.W.Frag} {H H' : Hp} {n : Int} {v : V} {T : List (Addr × Str)} (h : BadCh K H n v) (e : Kx T H H') : BadCh K H' n v := by
  rcases h with h | ⟨a, xs, ev, hx, h | h⟩
  · exact .inl h
  · exact .inr ⟨a, xs, ev, hx, .inl ⟨e.tup h.1, h.2⟩⟩
  · exact .inr ⟨a, xs, ev, hx, .inr (e.lst h)⟩
/-- alike, to a depth; None too -/
def AlX (K : PySem.W.Frag) (H : Hp) : Nat → V → V → Prop
  | 0, _, _ => False
  | n + 1, v, w => (∃ i, v = .int i ∧ w = .int i) ∨ (∃ x, v = .str x ∧ w = .str x ∧ x.length ≤ sizeLine) ∨ (v = .non ∧ w = .non) ∨ ∃ a b xs ys, v = .ref a ∧ w = .ref b ∧ (SqT K H a xs ∧ SqT K H b ys ∨ SqL K H a xs ∧ SqL K H b ys) ∧ xs.length = ys.length ∧ xs.length ≤ sizeLine ∧ ∀ (i : Nat) x y, xs[i]? = some x → ys[i]? = some y → AlX K H n x y
theorem AlX.mono {K : PySem.W.Frag} {H H' : Hp} (e : Same H H') : ∀ {n : Nat} {v w : V}, AlX K H n v w → AlX K H' n v w
  | 0, _, _, h => h.elim
  | n + 1, _, _, h => by
    rcases h with h | h | h | ⟨a, b, xs, ys, h1, h2, h3, h4, h5, h6⟩
    · exact .inl h
    · exact .inr (.inl h)
    · exact .inr (.inr (.inl h))
    · refine .inr (.inr (.inr ⟨a, b, xs, ys, h1, h2, ?_, h4, h5, fun i x y p q => AlX.mono e (h6 i x y p q)⟩))
      rcases h3 with ⟨p, q⟩ | ⟨p, q⟩
      · exact .inl ⟨Same.tup e p, Same.tup e q⟩
      · exact .inr ⟨e.seq p, e.seq q⟩
def sp_x_law_alikeX (K : PySem.W.Frag) (n : Nat) : Sp := fun vs H Q _ => ∃ v w, vs = [v, w] ∧ AlX K H n v w ∧ ∀ H', Same H H' → Q (.bl true) H'
end L2.Px
namespace L2.Px
open PySem PySem.Spec PyProof.Rows StX TL ClX LamX
def sp_x_law_is_changed (K : PySem.W.Frag) (CT CP : Addr) (T : List (Addr × Str)) : Sp := fun vs H Q _ => ∃ r a l ss, vs = [.ref r, .ref a, .ref l, .str (mkS (tyL ss))] ∧ RowAt K H r ∧ Tabs T H ∧ TX K CT CP H a ss ∧ sz ss ≤ 2000 ∧ H l = some (.lst (natV (ks ss))) ∧ ∀ H', Kl T H H' → RowAt K H' r → Q (.bl true) H'
end L2.Px
namespace L2.Px
open PySem PySem.Spec PyProof.Rows StX TL ClX LamX
/-- x(lambda: body), the reading without its maker: for lambdas made in a comprehension -/
def tGivL (T : List (Addr × Str)) (TT : (XK → Hp → VK → Prop) → Hp → VK → Prop) (t : XK → TE) : TE := fun σ H Q => Tabs T H ∧ ∀ H1, Kx T H H1 → TT (fun E H' Q' => t E σ H' Q') H1 Q
theorem pe_givL {X : Cx} {k : Nat} {T : List (Addr × Str)} {TT : (XK → Hp → VK → Prop) → Hp → VK → Prop} {t : XK → TE} {e : Expr} (h : PE X e (tGiv X k TT (tMkL T (IsLam X k t)))) : PE X e (tGivL T TT t) :=
  ⟨fun pins s σ H Q I ⟨h1, h2⟩ => h.run pins s σ H Q I (rd_giv h1 h2)⟩
end L2.Px
namespace L2.Px
open PySem PySem.Spec PyProof.Rows StX TL ClX LamX
theorem vals_signs {x : Str} : ∀ {l : List Nat} {us : List Value}, us.length = l.length → (∀ (j : Nat) (v : Value), us[j]? = some v → ∃ (c : Nat) (u : Tok), l[j]? = some c ∧ v = Value.str ⟨#[c]⟩ u) → Vals (sgV l) us
  | [], [], _, _ => .nil
  | [], _ :: _, h, _ => by simp at h
  | _ :: _, [], h, _ => by simp at h
  | c :: l, u :: us, h, a => by
    obtain ⟨c', t, e1, e2⟩ := a 0 u rfl
    cases e1
    exact .cons ⟨t, e2⟩ (vals_signs (x := x) (by simpa using h) fun j v e => a (j + 1) v e)
def rListStr : List V → Hp → VK → Prop := fun xs H Q => ∃ x : Str, xs = [.str x] ∧ x.length ≤ sizeLine ∧ ∀ l, H l = none → Q (.ref l) (upd H l (.lst (sgV (tl x))))
theorem cr_listStr {X : Cx} (hc : X.calm = true) : CallR X (.type "list") rListStr := by
  intro pins s σ H xs us Q I r h
  obtain ⟨x, rfl, hz, q⟩ := h
  obtain ⟨u, rfl, rx⟩ := vals1 r
  obtain ⟨t, rfl⟩ := rx
  refine call_list_str (I.ok.hd hc) x t (fun h' tk acc c k e it => ?_) hz
  have hl : acc.toList.length = (tl x).length := by rw [Array.length_toList, it.1]; exact (Array.length_toList (xs := x.cps)).symm
  have hv : Vals (sgV (tl x)) acc.toList := vals_signs (x := x) hl fun j v hj => by
    obtain ⟨c, u, e1, e2⟩ := it.2 j v (by rw [← Array.getElem?_toList]; exact hj)
    exact ⟨c, u, by show x.cps.toList[j]? = some c; rw [Array.getElem?_toList]; exact e1, e2⟩
  have hz2 : (sgV (tl x)).length ≤ sizeLine := by unfold sgV; rw [List.length_map, ← len_tl]; exact hz
  exact ⟨.ref s.heap.objs.size, _, I.laid (t' := tk) k (Nat.le_refl _) (show ObjOk X.prog X.w _ h' _ (.lst (sgV (tl x))) from ⟨hz2, acc.toList, c, hv, by simpa using e⟩), rfl, q _ (I.hok.fresh (Nat.le_refl _))⟩
end L2.Px
namespace L2.Px
open PySem PySem.Spec PyProof.Rows StX TL ClX LamX
theorem mul_flag (n : Nat) (L : List Nat) : ∃ m : Nat, (n : Int) * (if (!decide (mkS L = Str.ofString "")) = true then 1 else 0) = (m : Nat) ∧ m ≤ n ∧ (1 ≤ m → 1 ≤ L.length) := by
  by_cases h : L = []
  · subst h
    refine ⟨0, ?_, Nat.zero_le _, fun h => absurd h (by omega)⟩
    rw [show decide (mkS [] = Str.ofString "") = true from by decide +kernel]
    simp
  · have hl : 1 ≤ L.length := by cases L with | nil => exact absurd rfl h | cons _ _ => simp
    by_cases g : mkS L = Str.ofString ""
    · exact ⟨0, by rw [decide_eq_true g]; simp, Nat.zero_le _, fun h => absurd h (by omega)⟩
    · exact ⟨n, by rw [decide_eq_false g]; simp, Nat.le_refl _, fun _ => hl⟩
end L2.Px
namespace L2.Px
open PySem PySem.Spec PyProof.Rows StX TL ClX LamX
theorem ChAt.snoc {K : PySem.W.Frag} {H : Hp} {F p : Addr} {cs : List (Nat × Nat)} {n k c : Nat} {xs : List V} (h : ChAt K H F cs n) (hF : H F = some (.lst xs)) (c1 : k < n) (c2 : 97 ≤ c ∧ c ≤ 122) (hp : H p = some (.tup [.int (k : Nat), .str ⟨#[c]⟩])) :
    ChAt K (upd H F (.lst (xs ++ [.ref p]))) F (cs ++ [(k, c)]) n := by
  obtain ⟨xs', e, h1, h2⟩ := h
  rw [hF] at e
  cases e
  refine ⟨xs ++ [.ref p], upd_same, by simp [h1], fun i d hd => ?_⟩
  by_cases hi : i < cs.length
  · rw [List.getElem?_append_left hi] at hd
    obtain ⟨a1, a2, a3, T, b1, b2⟩ := h2 i d hd
    exact ⟨a1, a2, a3, T, by rw [List.getElem?_append_left (by omega)]; exact b1, by rw [upd_ne (fun z => by subst z; rw [hF] at b2; cases b2)]; exact b2⟩
  · have hi' : i = cs.length := by
      have := (List.getElem?_eq_some_iff.mp hd).1
      rw [List.length_append, List.length_singleton] at this
      omega
    subst hi'
    rw [List.getElem?_append_right (Nat.le_refl _), Nat.sub_self] at hd
    cases hd
    exact ⟨c1, c2.1, c2.2, p, by rw [← h1, List.getElem?_append_right (Nat.le_refl _), Nat.sub_self]; rfl, by rw [upd_ne (fun z => by subst z; rw [hF] at hp; cases hp)]; exact hp⟩
theorem sgV_set (L : List Nat) (k c : Nat) : (sgV L).set k (.str ⟨#[c]⟩) = sgV (L.set k c) := by unfold sgV; rw [List.map_set]
end L2.Px
namespace L2.Px
open PySem PySem.Spec PyProof.Rows StX TL ClX LamX
section
variable {K : PySem.W.Frag} {H : Hp} {p : Addr} {xs : List V} {n : Int} {x y : V}
theorem bch_tup (e : H p = some (.tup xs)) (hx : xs.all nsB = true) (hb : isCh n xs = false) : BadCh K H n (.ref p) := .inr ⟨p, xs, rfl, nsB_ok hx, .inl ⟨SqT.of e, hb⟩⟩
theorem bch_lst (e : H p = some (.lst xs)) (hx : xs.all nsB = true) : BadCh K H n (.ref p) := .inr ⟨p, xs, rfl, nsB_ok hx, .inr (SqL.of e)⟩
theorem isCh_no (h : isInt 0 (n - 1) x = false) : isCh n [x, y] = false := by show (isInt 0 (n - 1) x && isLet y) = false; rw [h]; rfl
theorem isCh_let (h : isLet y = false) : isCh n [x, y] = false := by show (isInt 0 (n - 1) x && isLet y) = false; rw [h, Bool.and_false]
end
end L2.Px
namespace L2.Px
open PySem PySem.Spec PyProof.Rows StX TL ClX LamX
section
variable {K : PySem.W.Frag} {CT CP CIC : Addr} {H : Hp} {Q : VK} {E : XK} {a l : Addr} {ss : List Stp} {xs : List V}
theorem rd_slToV {j : Nat} (h : H l = some (.lst xs)) (q : ∀ p H', Same H H' → H' p = some (.lst (xs.take j)) → Q (.ref p) H') : rSlL K (.ref l) none (some (j : Nat)) H Q :=
  rd_slL (SqL.of h) fun p hp => q p _ (Same.new (Same.refl _) hp) (by rw [upd_same, cutV_to])
theorem rd_slFromV {j : Nat} (h : H l = some (.lst xs)) (q : ∀ p H', Same H H' → H' p = some (.lst (xs.drop j)) → Q (.ref p) H') : rSlL K (.ref l) (some (j : Nat)) none H Q :=
  rd_slL (SqL.of h) fun p hp => q p _ (Same.new (Same.refl _) hp) (by rw [upd_same, cutV_from])
theorem rd_badCh {cs : List (Nat × Nat)} {b : V} {k : Nat} (T1 : TX K CT CP H a ss) (hk : k ≤ cs.length) (hl : cs.length ≤ 500) (hxl : xs.length = cs.length) (el : H l = some (.lst (xs.take k ++ [b] ++ xs.drop k))) (hb : BadCh K H (tyL ss).length b)
    (hx : ∀ (i : Nat) (c : Nat × Nat), cs[i]? = some c → c.1 < (tyL ss).length ∧ 97 ≤ c.2 ∧ c.2 ≤ 122 ∧ ∃ T, xs[i]? = some (V.ref T) ∧ H T = some (.tup [.int (c.1 : Nat), .str ⟨#[c.2]⟩]))
    (q : ∀ d H', Same H H' → H' d = some (.xd [("index", .int (k : Nat))]) → E (.ref CIC) (some d) H') : sp_retyped_byR K CIC CT CP [.ref a, .ref l] H Q E := by
  have hkl : (cs.take k).length = k := by rw [List.length_take]; omega
  have hxk : (xs.take k).length = k := by rw [List.length_take]; omega
  refine ⟨a, _, ss, rfl, T1, .inr ⟨l, _, cs.take k, b, rfl, el, ?_, ?_, hb, fun i c hc => ?_, by rw [hkl]; exact q⟩⟩
  · simp only [List.length_append, List.length_cons, List.length_nil, List.length_take, List.length_drop]; omega
  · rw [hkl, List.append_assoc, List.getElem?_append_right (by omega), hxk, Nat.sub_self]; rfl
  · have hi : i < k := by have := (List.getElem?_eq_some_iff.mp hc).1; omega
    rw [List.getElem?_take_of_lt hi] at hc
    obtain ⟨a1, a2, a3, T, b1, b2⟩ := hx i c hc
    exact ⟨a1, a2, a3, T, by rw [List.append_assoc, List.getElem?_append_left (by omega), List.getElem?_take_of_lt hi]; exact b1, b2⟩
theorem rd_badNo {v : V} (T1 : TX K CT CP H a ss) (hv : isIBN v = true ∨ ∃ p xs, v = .ref p ∧ SqT K H p xs) (q : ∀ d H', Same H H' → H' d = some (.xd [("index", .int 0)]) → E (.ref CIC) (some d) H') : sp_retyped_byR K CIC CT CP [.ref a, v] H Q E :=
  ⟨a, v, ss, rfl, T1, .inl ⟨hv, q⟩⟩
end
theorem rd_eqLL0 {K : PySem.W.Frag} {H : Hp} {Q : VK} {a b : Addr} (h : H a = some (.lst [])) (g : H b = some (.lst [])) (q : Q (.bl true) H) : rEqA K (.ref a) (.ref b) H Q :=
  rd_eq_dat (.lst (SqL.of h) .nil) (.lst (SqL.of g) .nil) rfl rfl (by simpa [PyData.eqv, PyData.eqvAll] using q)
section
variable {K : PySem.W.Frag} {H1 : Hp} {tt : TT} {te : TE} {vs : List Nat} {σ : St} {D l : Addr} {Qd : Hp → Prop} {j : Nat} {ys : List V} {T : List (Addr × Str)}
/-- [.. for x in tuple if p x], p false of each; p may fill tables of code -/
theorem lc_noneT (hl : SqT K H1 l ys) (hD : H1 D = none) (hj : ∀ v, wipe ((wipe σ vs).set j (some v)) vs = wipe σ vs)
    (ht : ∀ v H (R : Bool → Hp → Prop), v ∈ ys → Kx T H1 H → (∀ H', Kx T H H' → R false H') → tt ((wipe σ vs).set j (some v)) H R)
    (hd : ∀ H, Kx T H1 H → H D = some (.lst []) → Qd H) : LcW (Itt K l) (gName j) tt te vs σ H1 D Qd := by
  refine ⟨fun i m H => m = ys.length - i ∧ i ≤ ys.length ∧ Kx T H1 H ∧ H D = some (.lst []), ⟨_, rfl, Nat.zero_le _, .same (Same.new (Same.refl _) hD), upd_same⟩, ?_⟩
  rintro i m H ⟨rfl, hi, S, eD⟩
  have hl' := S.tup hl
  by_cases hlt : i < ys.length
  · refine .inr ⟨⟨ys, ys[i], hl', by simp [hlt]⟩, fun H' => i + 1 ≤ ys.length ∧ Kx T H1 H' ∧ H' D = some (.lst []), fun H' z => ⟨ys.length - (i + 1), by omega, rfl, z⟩, fun x H' y => ?_⟩
    obtain ⟨e1, e2⟩ := y
    have e3 := e2 ys hl'
    subst e1
    refine ⟨hj _, ht x H' _ (List.mem_of_getElem? e3) S fun H2 S2 => ?_⟩
    rw [if_neg Bool.false_ne_true]
    exact ⟨hlt, S.trans S2, S2.keep _ _ (fun ps z => nomatch z) eD⟩
  · exact .inl ⟨⟨ys, hl', by omega⟩, hd H S eD⟩
end
end L2.Px

set_option Elab.async false
set_option linter.all false
set_option maxRecDepth 100000
set_option maxHeartbeats 1000000
/-! readings of law k07 -/
namespace L2.Px
open PySem PySem.Spec PyProof.Rows StX TL ClX LamX
section
variable {K : PySem.W.Frag} {CT CP : Addr} {H : Hp} {Q : VK} {E : XK} {a b : Addr} {ss tt : List Stp} {v w : V}
theorem rd_changed {r a l : Addr} {T : List (Addr × Str)} (row : RowAt K H r) (tab : Tabs T H) (h : TX K CT CP H a ss) (hz : sz ss ≤ 2000) (el : H l = some (.lst (natV (ks ss)))) (q : ∀ H', Kl T H H' → RowAt K H' r → Q (.bl true) H') :
    sp_x_law_is_changed K CT CP T [.ref r, .ref a, .ref l, .str (mkS (tyL ss))] H Q E := ⟨r, a, l, ss, rfl, row, tab, h, hz, el, q⟩
theorem alX_nats {n : Nat} {l m : Addr} {L : List Nat} (h : H l = some (.lst (natV L))) (g : H m = some (.lst (natV L))) (hz : L.length ≤ sizeLine) : AlX K H (n + 2) (.ref l) (.ref m) :=
  .inr (.inr (.inr ⟨l, m, _, _, rfl, rfl, .inr ⟨SqL.of h, SqL.of g⟩, rfl, by rw [natV_len]; exact hz, fun i x y hx hy => by
    rw [hx] at hy
    cases hy
    obtain ⟨k, _, rfl⟩ := List.mem_map.mp (List.mem_of_getElem? hx)
    exact .inl ⟨_, rfl, rfl⟩⟩))
theorem alX_unl {n : Nat} (L M : List Nat) : AlX K H (n + 1) (unlV L M) (unlV L M) := by
  unfold unlV
  split
  · exact .inr (.inr (.inl ⟨rfl, rfl⟩))
  · exact .inl ⟨_, rfl, rfl⟩
theorem rd_alX {n : Nat} (h : AlX K H n v w) (q : ∀ H', Same H H' → Q (.bl true) H') : sp_x_law_alikeX K n [v, w] H Q E := ⟨v, w, rfl, h, q⟩
theorem rd_ifJ {c : Bool} {σ : St} {t u : TE} (J : V → Hp → Prop) (hj : ∀ v H', J v H' → Q v H') (h : ∀ R : VK, (∀ v H', J v H' → R v H') → if c = true then t σ H R else u σ H R) : if c = true then t σ H Q else u σ H Q := h Q hj
theorem ok_one {n : Nat} (h : okFrom 0 ss) (hl : ss.length ≤ 1) (hz : n + sz ss ≤ 1000000000000000000) : okFrom n ss := by
  match ss, hl, h, hz with
  | [], _, _, _ => trivial
  | [.wr w], _, h, hz => exact ⟨h.1, by simpa [sz] using hz, trivial⟩
  | [.pa f l t], _, h, _ => obtain ⟨⟨_, h2, _⟩, _⟩ := h; omega
end
end L2.Px
namespace L2.Px
open PySem PySem.Spec PyProof.Rows StX TL ClX LamX
section
variable {K : PySem.W.Frag} {H H1 : Hp} {T : List (Addr × Str)} {l : Addr} {xs : List V} {o : HO}
theorem codeO_nl {c : Addr} {q : Str} : CodeO c q ≠ .lst xs := fun z => by
  unfold CodeO at z
  cases z
theorem upd_keep {b : Addr} {u : HO} (h : H l = some (.lst xs)) (e : H b = some u) (n : u ≠ .lst xs) : upd H l o b = some u := by
  rw [upd_ne fun z => by subst z; rw [h] at e; exact n (Option.some.inj e).symm]; exact e
theorem tabs_upd (t : Tabs T H) (h : H l = some (.lst xs)) : Tabs T (upd H l o) := fun p hp =>
  let ⟨ps, a, b, d⟩ := t p hp
  ⟨ps, upd_keep h a (fun z => nomatch z), b, fun pos cv hc => let ⟨c, x, y⟩ := d pos cv hc; ⟨c, x, upd_keep h y codeO_nl⟩⟩
theorem Kx.updL (x : Kx T H H1) (n : H l = none) (e : H1 l = some (.lst xs)) : Kx T H (upd H1 l o) :=
  ⟨fun b u hn h => by rw [upd_ne (ne_of_none h n)]; exact x.keep b u hn h, fun t => tabs_upd (x.tabs t) e⟩
theorem IsLam.updL {X : Cx} {k : Nat} {t : XK → TE} {f : Addr} (h : IsLam X k t f H) (e : H l = some (.lst xs)) : IsLam X k t f (upd H l o) := by
  obtain ⟨p, b, sc, dV, bs, c', h0, h1, h2, h3, h4⟩ := h
  refine ⟨p, b, sc, dV, bs, c', h0, upd_keep e h1 (fun z => by unfold lamOb at z; cases z), upd_keep e h2 codeO_nl, ?_, h4⟩
  rcases h3 with h3 | ⟨T, v, y, a1, a2, a3, a4⟩
  · exact .inl h3
  · exact .inr ⟨T, v, y, a1, a2, upd_keep e a3 (fun z => nomatch z), a4⟩
end
end L2.Px
namespace L2.Px
open PySem PySem.Spec PyProof.Rows StX TL ClX LamX
section
variable {K : PySem.W.Frag} {H : Hp} {Q : VK} {l a b : Addr} {L M : List Nat} {xs : List V}
theorem cutV_one (xs : List V) (k : Nat) : cutV xs (some (k : Nat)) (some ((k : Nat) + 1)) = (xs.drop k).take 1 := by
  rcases Nat.lt_or_ge k xs.length with h | h
  · have := cutV_nat xs k (k + 1) (by omega)
    rw [show ((k + 1 : Nat) : Int) = (k : Nat) + 1 by omega] at this
    rw [this, show k + 1 - k = 1 by omega]
  · unfold cutV
    rw [HT.sIx_nat, show ((k : Nat) : Int) + 1 = ((k + 1 : Nat) : Int) by omega, HT.sIx_nat, Nat.min_eq_right h, Nat.min_eq_right (by omega), List.drop_of_length_le (Nat.le_refl _), List.drop_of_length_le h]; simp
theorem rd_slOne {k : Nat} (h : H l = some (.lst (natV L))) (q : ∀ p H', Same H H' → H' p = some (.lst (natV ((L.drop k).take 1))) → Q (.ref p) H') : rSlL K (.ref l) (some (k : Nat)) (some ((k : Nat) + 1)) H Q :=
  rd_slL (SqL.of h) fun p hp => q p _ (Same.new (Same.refl _) hp) (by rw [upd_same, cutV_one]; unfold natV; rw [← List.map_drop, ← List.map_take])
theorem slOne_iff (L M : List Nat) (k : Nat) : (L.drop k).take 1 = (M.drop k).take 1 ↔ L[k]? = M[k]? := by
  rw [List.take_one, List.take_one, List.head?_drop, List.head?_drop]
  cases L[k]? <;> cases M[k]? <;> simp
def unlL (L M : List Nat) : List Nat := (List.range (max L.length M.length)).filter fun k => !decide ((L.drop k).take 1 = (M.drop k).take 1)
theorem unl_nil (h : unlL L M = []) : unlV L M = .non := by
  have e : L = M := List.ext_getElem? fun k => by
    rcases Nat.lt_or_ge k (max L.length M.length) with hk | hk
    · have := List.filter_eq_nil_iff.mp h k (List.mem_range.mpr hk)
      simp only [Bool.not_eq_true', decide_eq_false_iff_not, Classical.not_not] at this
      exact (slOne_iff L M k).mp this
    · rw [List.getElem?_eq_none (by omega), List.getElem?_eq_none (by omega)]
  rw [e, unlV_same]
theorem unl_cons {x : Nat} (h : (unlL L M)[0]? = some x) : unlV L M = .int (x : Nat) := by
  rw [← List.head?_eq_getElem?] at h
  unfold unlL at h
  rw [List.head?_filter, List.find?_range_eq_some] at h
  obtain ⟨h1, h2, h3⟩ := h
  rw [List.mem_range] at h2
  simp only [Bool.not_eq_true', decide_eq_false_iff_not, slOne_iff] at h1
  have he : ∀ j, j < x → L[j]? = M[j]? := fun j hj => by
    have := h3 j hj
    simp only [Bool.not_not, decide_eq_true_eq, slOne_iff] at this
    exact this
  have l1 : x ≤ L.length := by
    rcases Nat.lt_or_ge L.length x with g | g
    · have := he L.length g
      rw [List.getElem?_eq_none (Nat.le_refl _)] at this
      have := List.getElem?_eq_none_iff.mp this.symm
      omega
    · exact g
  have l2 : x ≤ M.length := by
    rcases Nat.lt_or_ge M.length x with g | g
    · have := he M.length g
      rw [List.getElem?_eq_none (Nat.le_refl M.length)] at this
      have := List.getElem?_eq_none_iff.mp this
      omega
    · exact g
  have e := pre_eq l1 l2 he (.inr (.inr h1))
  unfold unlV
  rw [if_neg (by omega), ← e]
theorem alX_two {n : Nat} {x1 x2 y1 y2 : V} (h : H a = some (.lst [x1, x2])) (g : H b = some (.lst [y1, y2])) (q1 : AlX K H n x1 y1) (q2 : AlX K H n x2 y2) : AlX K H (n + 1) (.ref a) (.ref b) :=
  .inr (.inr (.inr ⟨a, b, _, _, rfl, rfl, .inr ⟨SqL.of h, SqL.of g⟩, rfl, by rw [sizeLine_eq]; show 2 ≤ 16777216; decide, fun i x y hx hy => by
    match i, hx, hy with
    | 0, hx, hy => cases hx; cases hy; exact q1
    | 1, hx, hy => cases hx; cases hy; exact q2
    | i + 2, hx, _ => simp at hx⟩))
theorem filt_nat {n : Nat} (L M : List Nat) (hn : n = max L.length M.length) : ((List.range n).filter fun k => !decide ((L.drop k).take 1 = (M.drop k).take 1)).map (fun k => V.int (k : Nat)) = natV (unlL L M) := by subst hn; rfl
end
end L2.Px

set_option Elab.async false
set_option linter.all false
set_option maxRecDepth 100000
set_option maxHeartbeats 4000000
namespace L2.Px
open PySem PySem.Spec PyProof.Rows StX TL ClX
def top (i : Nat) : Stmt := PySem.Challenge.pw_pastekeys_k07_changes_and_patterns.main.body.getD i (.Pass ⟨0, 0, 0, 0⟩)
abbrev s_is_integer : Stmt := top 15
abbrev N_is_integer : List Str := ["value", "low", "high"]
theorem sc_is_integer : FnScope N_is_integer ["value", "low", "high"] (defScope s_is_integer) := ⟨rfl, rfl, rfl, by decide +kernel, rfl, by decide +kernel, by decide +kernel⟩
abbrev s_is_letter : Stmt := top 16
abbrev N_is_letter : List Str := ["value"]
theorem sc_is_letter : FnScope N_is_letter ["value"] (defScope s_is_letter) := ⟨rfl, rfl, rfl, by decide +kernel, rfl, by decide +kernel, by decide +kernel⟩
abbrev s_is_word : Stmt := top 17
abbrev N_is_word : List Str := ["value", "letter"]
theorem sc_is_word : FnScope N_is_word ["value"] (defScope s_is_word) := ⟨rfl, rfl, rfl, by decide +kernel, rfl, by decide +kernel, by decide +kernel⟩
abbrev s_is_step : Stmt := top 18
abbrev N_is_step : List Str := ["value", "size", "word", "first", "last", "times"]
theorem sc_is_step : FnScope N_is_step ["value", "size"] (defScope s_is_step) := ⟨rfl, rfl, rfl, by decide +kernel, rfl, by decide +kernel, by decide +kernel⟩
abbrev s_Part_init : Stmt := inClass (top 19) 0
abbrev N_Part_init : List Str := ["self", "start", "length", "is_typed", "first", "last"]
theorem sc_Part_init : FnScope N_Part_init ["self", "start", "length", "is_typed", "first", "last"] (defScope s_Part_init) := ⟨rfl, rfl, rfl, by decide +kernel, rfl, by decide +kernel, by decide +kernel⟩
abbrev s_Part_source : Stmt := inClass (top 19) 1
abbrev N_Part_source : List Str := ["self", "place"]
theorem sc_Part_source : FnScope N_Part_source ["self", "place"] (defScope s_Part_source) := ⟨rfl, rfl, rfl, by decide +kernel, rfl, by decide +kernel, by decide +kernel⟩
abbrev s_Text_init : Stmt := inClass (top 20) 1
abbrev N_Text_init : List Str := ["self", "steps", "parts", "typed", "total", "index", "step"]
theorem sc_Text_init : FnScope N_Text_init ["self", "steps"] (defScope s_Text_init) := ⟨rfl, rfl, rfl, by decide +kernel, rfl, by decide +kernel, by decide +kernel⟩
abbrev s_Text_of_steps : Stmt := inClass (top 20) 3
abbrev N_Text_of_steps : List Str := ["cls", "steps"]
theorem sc_Text_of_steps : FnScope N_Text_of_steps ["cls", "steps"] (defScope s_Text_of_steps) := ⟨rfl, rfl, rfl, by decide +kernel, rfl, by decide +kernel, by decide +kernel⟩
abbrev s_Text_steps : Stmt := inClass (top 20) 4
abbrev N_Text_steps : List Str := ["self"]
theorem sc_Text_steps : FnScope N_Text_steps ["self"] (defScope s_Text_steps) := ⟨rfl, rfl, rfl, by decide +kernel, rfl, by decide +kernel, by decide +kernel⟩
abbrev s_Text_typed_keys : Stmt := inClass (top 20) 5
abbrev N_Text_typed_keys : List Str := ["self"]
theorem sc_Text_typed_keys : FnScope N_Text_typed_keys ["self"] (defScope s_Text_typed_keys) := ⟨rfl, rfl, rfl, by decide +kernel, rfl, by decide +kernel, by decide +kernel⟩
abbrev s_Text_size : Stmt := inClass (top 20) 6
abbrev N_Text_size : List Str := ["self"]
theorem sc_Text_size : FnScope N_Text_size ["self"] (defScope s_Text_size) := ⟨rfl, rfl, rfl, by decide +kernel, rfl, by decide +kernel, by decide +kernel⟩
abbrev s_Text_check_place : Stmt := inClass (top 20) 8
abbrev N_Text_check_place : List Str := ["self", "place"]
theorem sc_Text_check_place : FnScope N_Text_check_place ["self", "place"] (defScope s_Text_check_place) := ⟨rfl, rfl, rfl, by decide +kernel, rfl, by decide +kernel, by decide +kernel⟩
abbrev s_Text_check_key : Stmt := inClass (top 20) 9
abbrev N_Text_check_key : List Str := ["self", "key"]
theorem sc_Text_check_key : FnScope N_Text_check_key ["self", "key"] (defScope s_Text_check_key) := ⟨rfl, rfl, rfl, by decide +kernel, rfl, by decide +kernel, by decide +kernel⟩
abbrev s_Text_key_of : Stmt := inClass (top 20) 10
abbrev N_Text_key_of : List Str := ["self", "place", "number", "part"]
theorem sc_Text_key_of : FnScope N_Text_key_of ["self", "place"] (defScope s_Text_key_of) := ⟨rfl, rfl, rfl, by decide +kernel, rfl, by decide +kernel, by decide +kernel⟩
abbrev s_Text_call : Stmt := inClass (top 20) 11
abbrev N_Text_call : List Str := ["self", "place"]
theorem sc_Text_call : FnScope N_Text_call ["self", "place"] (defScope s_Text_call) := ⟨rfl, rfl, rfl, by decide +kernel, rfl, by decide +kernel, by decide +kernel⟩
abbrev s_Text_getitem : Stmt := inClass (top 20) 12
abbrev N_Text_getitem : List Str := ["self", "place"]
theorem sc_Text_getitem : FnScope N_Text_getitem ["self", "place"] (defScope s_Text_getitem) := ⟨rfl, rfl, rfl, by decide +kernel, rfl, by decide +kernel, by decide +kernel⟩
abbrev s_Text_contains : Stmt := inClass (top 20) 13
abbrev N_Text_contains : List Str := ["self", "letter"]
theorem sc_Text_contains : FnScope N_Text_contains ["self", "letter"] (defScope s_Text_contains) := ⟨rfl, rfl, rfl, by decide +kernel, rfl, by decide +kernel, by decide +kernel⟩
abbrev s_moved_step : Stmt := top 21
abbrev N_moved_step : List Str := ["step", "size"]
theorem sc_moved_step : FnScope N_moved_step ["step", "size"] (defScope s_moved_step) := ⟨rfl, rfl, rfl, by decide +kernel, rfl, by decide +kernel, by decide +kernel⟩
abbrev s_joined : Stmt := top 22
abbrev N_joined : List Str := ["one", "other", "both", "step"]
theorem sc_joined : FnScope N_joined ["one", "other"] (defScope s_joined) := ⟨rfl, rfl, rfl, by decide +kernel, rfl, by decide +kernel, by decide +kernel⟩
abbrev s_repeated : Stmt := top 23
abbrev N_repeated : List Str := ["text", "times", "longer"]
theorem sc_repeated : FnScope N_repeated ["text", "times"] (defScope s_repeated) := ⟨rfl, rfl, rfl, by decide +kernel, rfl, by decide +kernel, by decide +kernel⟩
abbrev s_Text_add : Stmt := inClass (top 20) 15
abbrev N_Text_add : List Str := ["self", "other"]
theorem sc_Text_add : FnScope N_Text_add ["self", "other"] (defScope s_Text_add) := ⟨rfl, rfl, rfl, by decide +kernel, rfl, by decide +kernel, by decide +kernel⟩
abbrev s_Text_mul : Stmt := inClass (top 20) 16
abbrev N_Text_mul : List Str := ["self", "times"]
theorem sc_Text_mul : FnScope N_Text_mul ["self", "times"] (defScope s_Text_mul) := ⟨rfl, rfl, rfl, by decide +kernel, rfl, by decide +kernel, by decide +kernel⟩
abbrev s_Text_retyped : Stmt := inClass (top 20) 17
abbrev N_Text_retyped : List Str := ["self", "key", "letter", "steps", "number", "step", "place", "word"]
theorem sc_Text_retyped : FnScope N_Text_retyped ["self", "key", "letter"] (defScope s_Text_retyped) := ⟨rfl, rfl, rfl, by decide +kernel, rfl, by decide +kernel, by decide +kernel⟩
abbrev s_Text_of_word : Stmt := inClass (top 20) 2
abbrev N_Text_of_word : List Str := ["cls", "word"]
theorem sc_Text_of_word : FnScope N_Text_of_word ["cls", "word"] (defScope s_Text_of_word) := ⟨rfl, rfl, rfl, by decide +kernel, rfl, by decide +kernel, by decide +kernel⟩
abbrev s_x_law_taken : Stmt := top 31
abbrev N_x_law_taken : List Str := ["_law_row", "_law_many", "_law_found", "_law_cell"]
theorem sc_x_law_taken : FnScope N_x_law_taken ["_law_row", "_law_many"] (defScope s_x_law_taken) := ⟨rfl, rfl, rfl, by decide +kernel, rfl, by decide +kernel, by decide +kernel⟩
abbrev s_x_law_word : Stmt := top 34
abbrev N_x_law_word : List Str := ["_law_row", "_law_most", "_law_word_here", "_law_k"]
theorem sc_x_law_word : FnScope N_x_law_word ["_law_row", "_law_most"] (defScope s_x_law_word) := ⟨rfl, rfl, rfl, by decide +kernel, rfl, by decide +kernel, by decide +kernel⟩
abbrev s_x_law_steps : Stmt := top 35
abbrev N_x_law_steps : List Str := ["_law_row", "_law_count", "_law_most", "_law_steps_here", "_law_size", "_law_k", "_law_word_here", "_law_first", "_law_last", "_law_times"]
theorem sc_x_law_steps : FnScope N_x_law_steps ["_law_row", "_law_count", "_law_most"] (defScope s_x_law_steps) := ⟨rfl, rfl, rfl, by decide +kernel, rfl, by decide +kernel, by decide +kernel⟩
abbrev s_InvalidChanges_init : Stmt := inClass (top 8) 0
abbrev N_InvalidChanges_init : List Str := ["self", "index"]
theorem sc_InvalidChanges_init : FnScope N_InvalidChanges_init ["self", "index"] (defScope s_InvalidChanges_init) := ⟨rfl, rfl, rfl, by decide +kernel, rfl, by decide +kernel, by decide +kernel⟩
abbrev s_key_row : Stmt := top 26
abbrev N_key_row : List Str := ["text", "most", "place"]
theorem sc_key_row : FnScope N_key_row ["text", "most"] (defScope s_key_row) := ⟨rfl, rfl, rfl, by decide +kernel, rfl, by decide +kernel, by decide +kernel⟩
abbrev s_tie_pattern : Stmt := top 28
abbrev N_tie_pattern : List Str := ["text", "numbers", "key"]
theorem sc_tie_pattern : FnScope N_tie_pattern ["text"] (defScope s_tie_pattern) := ⟨rfl, rfl, rfl, by decide +kernel, rfl, by decide +kernel, by decide +kernel⟩
abbrev s_first_unlike_tie : Stmt := top 29
abbrev N_first_unlike_tie : List Str := ["text", "other", "row", "later", "place", "one", "two"]
theorem sc_first_unlike_tie : FnScope N_first_unlike_tie ["text", "other"] (defScope s_first_unlike_tie) := ⟨rfl, rfl, rfl, by decide +kernel, rfl, by decide +kernel, by decide +kernel⟩
abbrev s_retyped_by : Stmt := top 27
abbrev N_retyped_by : List Str := ["text", "changes", "index", "change", "key", "letter", "number", "new"]
theorem sc_retyped_by : FnScope N_retyped_by ["text", "changes"] (defScope s_retyped_by) := ⟨rfl, rfl, rfl, by decide +kernel, rfl, by decide +kernel, by decide +kernel⟩
abbrev s_x_law_raised : Stmt := top 33
abbrev N_x_law_raised : List Str := ["_law_work", "e", "_law_kinds", "_law_at", "_law_word_here"]
theorem sc_x_law_raised : FnScope N_x_law_raised ["_law_work"] (defScope s_x_law_raised) := ⟨rfl, rfl, rfl, by decide +kernel, rfl, by decide +kernel, by decide +kernel⟩
abbrev s_x_law_keys : Stmt := top 36
abbrev N_x_law_keys : List Str := ["_law_steps_here", "_law_keys_here", "_law_letters", "_law_step"]
theorem sc_x_law_keys : FnScope N_x_law_keys ["_law_steps_here"] (defScope s_x_law_keys) := ⟨rfl, rfl, rfl, by decide +kernel, rfl, by decide +kernel, by decide +kernel⟩
abbrev s_x_law_alike : Stmt := top 32
abbrev N_x_law_alike : List Str := ["_law_one", "_law_due", "_law_k"]
theorem sc_x_law_alike : FnScope N_x_law_alike ["_law_one", "_law_due"] (defScope s_x_law_alike) := ⟨rfl, rfl, rfl, by decide +kernel, rfl, by decide +kernel, by decide +kernel⟩
abbrev s_x_law_pattern : Stmt := top 37
abbrev N_x_law_pattern : List Str := ["_law_keys_here", "_law_order", "_law_key"]
theorem sc_x_law_pattern : FnScope N_x_law_pattern ["_law_keys_here"] (defScope s_x_law_pattern) := ⟨rfl, rfl, rfl, by decide +kernel, rfl, by decide +kernel, by decide +kernel⟩
abbrev s_x_law_is_changed : Stmt := top 38
abbrev N_x_law_is_changed : List Str := ["_law_row", "_law_text", "_law_keys_here", "_law_letters", "_law_new", "_law_changes", "_law_k", "_law_after", "_law_place", "_law_bad"]
theorem sc_x_law_is_changed : FnScope N_x_law_is_changed ["_law_row", "_law_text", "_law_keys_here", "_law_letters"] (defScope s_x_law_is_changed) := ⟨rfl, rfl, rfl, by decide +kernel, rfl, by decide +kernel, by decide +kernel⟩
abbrev s_law : Stmt := top 39
abbrev N_law : List Str := ["_law_script", "_law_row", "_law_turn", "_law_steps_here", "_law_others", "_law_text", "_law_other", "_law_keys_here", "_law_letters", "_law_row_one", "_law_row_two", "_law_unlike", "_law_k", "_law_long", "_law_few", "_law_works", "_law_work"]
theorem sc_law : FnScope N_law ["_law_script"] (defScope s_law) := ⟨rfl, rfl, rfl, by decide +kernel, rfl, by decide +kernel, by decide +kernel⟩
abbrev TL (p_x_law_is_changed p_law : Addr) : List (Addr × Str) := [(p_x_law_is_changed, ("_law_is_changed" : Str) ++ ".<locals>." ++ "<lambda>"), (p_law, ("law" : Str) ++ ".<locals>." ++ "<lambda>")]
structure Lms (K : PySem.W.Frag) (mg : Str → Option Value) (base : Heap) (c_x_law_is_changed p_x_law_is_changed c_law p_law : Addr) : Prop where
  tb_x_law_is_changed : LamX.TabB base mg c_x_law_is_changed p_x_law_is_changed
  hu_x_law_is_changed : ∀ p ∈ TL p_x_law_is_changed p_law, p.1 = p_x_law_is_changed → p.2 = ("_law_is_changed" : Str) ++ ".<locals>." ++ "<lambda>"
  tb_law : LamX.TabB base mg c_law p_law
  hu_law : ∀ p ∈ TL p_x_law_is_changed p_law, p.1 = p_law → p.2 = ("law" : Str) ++ ".<locals>." ++ "<lambda>"
structure Txt (K : PySem.W.Frag) (mg : Str → Option Value) (CText : Addr) (CPart : Addr) (CTextError : Addr) (CInvalidStep : Addr) (CInvalidChanges : Addr) (CTooLong : Addr) (CInvalidPlace : Addr) (CInvalidKey : Addr) (CInvalidLetter : Addr) (CInvalidNumber : Addr) (c_x_law_is_changed : Addr) (p_x_law_is_changed : Addr) (c_law : Addr) (p_law : Addr) : Prop where
  d_is_integer : DefG K mg "is_integer" s_is_integer ["value", "low", "high"]
  d_is_letter : DefG K mg "is_letter" s_is_letter ["value"]
  d_is_word : DefG K mg "is_word" s_is_word ["value"]
  d_is_step : DefG K mg "is_step" s_is_step ["value", "size"]
  d_Part_init : DefK K CPart "Part.__init__" s_Part_init ["self", "start", "length", "is_typed", "first", "last"]
  d_Part_source : DefM K CPart "source" "Part.source" s_Part_source ["self", "place"]
  d_Text_init : DefKS K CText "Text.__init__" s_Text_init ["self"] "steps"
  d_Text_of_steps : DefC K CText "of_steps" "Text.of_steps" s_Text_of_steps ["cls", "steps"]
  d_Text_steps : DefP K CText "steps" "Text.steps" s_Text_steps
  d_Text_typed_keys : DefP K CText "typed_keys" "Text.typed_keys" s_Text_typed_keys
  d_Text_size : DefP K CText "size" "Text.size" s_Text_size
  d_Text_check_place : DefM K CText "check_place" "Text.check_place" s_Text_check_place ["self", "place"]
  d_Text_check_key : DefM K CText "check_key" "Text.check_key" s_Text_check_key ["self", "key"]
  d_Text_key_of : DefM K CText "key_of" "Text.key_of" s_Text_key_of ["self", "place"]
  d_Text_call : DefX K (CallO K CText) "__call__" "Text.__call__" s_Text_call ["self", "place"]
  d_Text_getitem : DefX K (IOwn K CText) "__getitem__" "Text.__getitem__" s_Text_getitem ["self", "place"]
  d_Text_contains : DefX K (COwn K CText) "__contains__" "Text.__contains__" s_Text_contains ["self", "letter"]
  d_moved_step : DefG K mg "moved_step" s_moved_step ["step", "size"]
  d_joined : DefG K mg "joined" s_joined ["one", "other"]
  d_repeated : DefG K mg "repeated" s_repeated ["text", "times"]
  d_Text_add : DefX K (BOwn K CText (PySem.dunder (Operator.Add).info.2)) "__add__" "Text.__add__" s_Text_add ["self", "other"]
  d_Text_mul : DefX K (BOwnI K CText .Mult) "__mul__" "Text.__mul__" s_Text_mul ["self", "times"]
  d_Text_retyped : DefM K CText "retyped" "Text.retyped" s_Text_retyped ["self", "key", "letter"]
  d_Text_of_word : DefC K CText "of_word" "Text.of_word" s_Text_of_word ["cls", "word"]
  d_x_law_taken : DefG K mg "_law_taken" s_x_law_taken ["_law_row", "_law_many"]
  d_x_law_word : DefG K mg "_law_word" s_x_law_word ["_law_row", "_law_most"]
  d_x_law_steps : DefG K mg "_law_steps" s_x_law_steps ["_law_row", "_law_count", "_law_most"]
  d_InvalidChanges_init : DefI K CInvalidChanges "InvalidChanges.__init__" s_InvalidChanges_init ["self", "index"]
  d_key_row : DefGF K mg "key_row" s_key_row ["text", "most"] [.int 2000]
  d_tie_pattern : DefG K mg "tie_pattern" s_tie_pattern ["text"]
  d_first_unlike_tie : DefG K mg "first_unlike_tie" s_first_unlike_tie ["text", "other"]
  d_retyped_by : DefG K mg "retyped_by" s_retyped_by ["text", "changes"]
  d_x_law_raised : DefG K mg "_law_raised" s_x_law_raised ["_law_work"]
  d_x_law_keys : DefG K mg "_law_keys" s_x_law_keys ["_law_steps_here"]
  d_x_law_alike : DefG K mg "_law_alike" s_x_law_alike ["_law_one", "_law_due"]
  d_x_law_pattern : DefG K mg "_law_pattern" s_x_law_pattern ["_law_keys_here"]
  d_x_law_is_changed : DefGC K mg "_law_is_changed" s_x_law_is_changed ["_law_row", "_law_text", "_law_keys_here", "_law_letters"] c_x_law_is_changed
  d_law : DefGC K mg "law" s_law ["_law_script"] c_law
  cText : Cls K CText
  g_Text : mg "Text" = some (.ref CText)
  cPart : Cls K CPart
  g_Part : mg "Part" = some (.ref CPart)
  ne_Text_Part : CText ≠ CPart
  xb_TextError : XBs K mg "TextError" CTextError
  x_InvalidStep : XNm K mg "InvalidStep" CInvalidStep
  x_InvalidChanges : XOw K mg "InvalidChanges" CInvalidChanges ["index"]
  x_TooLong : XPl K mg "TooLong" CTooLong
  x_InvalidPlace : XNm K mg "InvalidPlace" CInvalidPlace
  x_InvalidKey : XNm K mg "InvalidKey" CInvalidKey
  x_InvalidLetter : XNm K mg "InvalidLetter" CInvalidLetter
  x_InvalidNumber : XNm K mg "InvalidNumber" CInvalidNumber
  z_InvalidChanges : RzC K CTextError [CInvalidStep, CInvalidChanges, CTooLong, CInvalidPlace, CInvalidKey, CInvalidLetter, CInvalidNumber] 1 CInvalidChanges
  zf_InvalidChanges_index : RzF K CInvalidChanges "index"
  z_TooLong : RzC K CTextError [CInvalidStep, CInvalidChanges, CTooLong, CInvalidPlace, CInvalidKey, CInvalidLetter, CInvalidNumber] 2 CTooLong
  t_x_law_is_changed : TabC K c_x_law_is_changed p_x_law_is_changed
  t_law : TabC K c_law p_law
  na_Part_start : NoAttr K CPart "start"
  na_Part_length : NoAttr K CPart "length"
  na_Part_is_typed : NoAttr K CPart "is_typed"
  na_Part_first : NoAttr K CPart "first"
  na_Part_last : NoAttr K CPart "last"
  na_Text_made : NoAttr K CText "made"
  na_Text_typed : NoAttr K CText "typed"
  na_Text_parts : NoAttr K CText "parts"
  na_Text_total : NoAttr K CText "total"
  k_LETTERS : ∃ t, mg "LETTERS" = some (.str "abcdefghijklmnopqrstuvwxyz" t)
  k_MAX_WORD : ∃ t, mg "MAX_WORD" = some (.int 20 t)
  k_MAX_STEPS : ∃ t, mg "MAX_STEPS" = some (.int 30 t)
  k_MAX_TIMES : ∃ t, mg "MAX_TIMES" = some (.int 1000000000 t)
  k_MAX_SIZE_texts : ∃ t, mg "MAX_SIZE_texts" = some (.int 1000000000000000000 t)
  k_MAX_TIED : ∃ t, mg "MAX_TIED" = some (.int 2000 t)
  n_isinstance : mg "isinstance" = none
  n_int : mg "int" = none
  n_bool : mg "bool" = none
  n_str : mg "str" = none
  n_len : mg "len" = none
  n_all : mg "all" = none
  n_tuple : mg "tuple" = none
  n_list : mg "list" = none
  n_range : mg "range" = none
  n_enumerate : mg "enumerate" = none
  n_min : mg "min" = none
  n_max : mg "max" = none
  n_zip : mg "zip" = none
  n_ValueError : mg "ValueError" = none

local macro_rules | `(tactic| walk_at "rd1") => `(tactic| first
  | with_reducible refine rd_seq ?_ | with_reducible refine rd_asg ?_ | with_reducible refine rd_name ?_ | ((with_reducible refine' rd_var ?k1 ?_); (case k1 => rfl)) | with_reducible refine rd_C ?_ | with_reducible refine rd_op ?_ | with_reducible refine rd_cons ?_ | with_reducible refine rd_nil ?_
  | with_reducible refine rd_test ?_ | with_reducible refine rd_tB ?_ | with_reducible refine rd_bl ?_ | with_reducible refine rd_ifS ?_ | with_reducible refine rd_and ?_ | with_reducible refine rd_or ?_ | with_reducible refine rd_not ?_ | with_reducible refine rd_andV ?_ | with_reducible refine rd_orV ?_ | with_reducible refine rd_notV ?_ | with_reducible refine rd_chain ?_
  | with_reducible refine rd_if ?_ | with_reducible refine rd_g ?_ | with_reducible refine rd_m ?_ | with_reducible refine rd_star ?_ | with_reducible refine rd_tup ?_ | with_reducible refine rd_lst ?_ | with_reducible refine rd_fld ?_ | with_reducible refine rd_cb ?_ | with_reducible refine rd_un ?_ | with_reducible refine rd_makeR ?_ | with_reducible refine rd_makeS ?_
  | with_reducible refine rd_bm ?_ | with_reducible refine rd_bm0 ?_ | with_reducible refine rd_next ?_ | with_reducible refine rd_break ?_ | with_reducible refine rd_cont ?_ | with_reducible refine rd_ret ?_ | with_reducible refine rd_retN ?_ | with_reducible refine rd_drop ?_ | with_reducible refine rd_gcons ?_ | with_reducible refine rd_gnil ?_ | with_reducible refine rd_gsub ?_
  | ((with_reducible refine' rd_aug ?k1 ?_); (case k1 => rfl)) | with_reducible refine rd_ipI ?_ | with_reducible refine rd_sfld ?_ | with_reducible refine rd_for ?_ | with_reducible refine rd_iStr ?_ | with_reducible refine rd_iList ?_ | with_reducible refine rd_iTup ?_ | with_reducible refine rd_iRng1 ?_ | with_reducible refine rd_iRng2 ?_ | with_reducible refine rd_iEnumT ?_ | with_reducible refine rd_match ?_ | with_reducible refine rd_par ?_ | with_reducible refine rd_two ?_
  | with_reducible refine rd_sl ?_ | with_reducible refine rd_noPart ?_ | with_reducible refine rd_part ?_ | with_reducible refine rd_pint ?_ | with_reducible refine rd_listRg ?_ | with_reducible refine rd_rg1 ?_ | with_reducible refine rd_rg2 ?_ | with_reducible refine rd_ixO ?_ | with_reducible refine rd_U ?_ | with_reducible refine rd_int_int ?_ | with_reducible refine rd_int_bl ?_ | with_reducible refine rd_min2 ?_ | with_reducible refine rd_max2 ?_ | with_reducible refine rd_in_sign ?_ | with_reducible refine rd_isN ?_ | with_reducible refine rd_notN ?_
  | with_reducible refine rd_lc ?_ | with_reducible refine rd_yes ?_ | with_reducible refine rd_prop ?_ | with_reducible refine rd_cmeth ?_ | with_reducible refine rd_o ?_ | with_reducible refine rd_add_int ?_ | with_reducible refine rd_sub ?_ | with_reducible refine rd_eq_int ?_ | with_reducible refine rd_eq_str ?_ | with_reducible refine rd_eq_bl ?_ | with_reducible refine rd_ne_int ?_ | with_reducible refine rd_ne_str ?_ | with_reducible refine rd_ne_bl ?_ | with_reducible refine rd_I0 ?_
  | with_reducible refine rd_isi_int_int ?_ | with_reducible refine rd_isi_int_bool ?_ | with_reducible refine rd_isi_int_str ?_ | with_reducible refine rd_isi_int_list ?_ | with_reducible refine rd_isi_int_tuple ?_ | with_reducible refine rd_isi_bl_int ?_ | with_reducible refine rd_isi_bl_bool ?_ | with_reducible refine rd_isi_bl_str ?_ | with_reducible refine rd_isi_bl_list ?_ | with_reducible refine rd_isi_bl_tuple ?_ | with_reducible refine rd_isi_str_int ?_ | with_reducible refine rd_isi_str_bool ?_ | with_reducible refine rd_isi_str_str ?_ | with_reducible refine rd_isi_str_list ?_ | with_reducible refine rd_isi_str_tuple ?_ | with_reducible refine rd_isi_non_int ?_ | with_reducible refine rd_isi_non_bool ?_ | with_reducible refine rd_isi_non_str ?_ | with_reducible refine rd_isi_non_list ?_ | with_reducible refine rd_isi_non_tuple ?_)
local macro_rules | `(tactic| walk_at "rd") => `(tactic| repeat walk_at "rd1")
local macro_rules | `(tactic| walk_at "same") => `(tactic| first | assumption | exact Same.refl _ | (refine Same.new ?_ (by assumption); walk_at "same") | (refine Same.mut ?_ (by assumption); walk_at "same") | (refine Same.trans ?_ (by assumption); walk_at "same"))
section
variable {P : Program} {w : World} {K : PySem.W.Frag} {mg : Str → Option Value} {base : Heap} {CText CPart CTextError CInvalidStep CInvalidChanges CTooLong CInvalidPlace CInvalidKey CInvalidLetter CInvalidNumber c_x_law_is_changed p_x_law_is_changed c_law p_law : Addr}
theorem ok_is_integer (T : Txt K mg CText CPart CTextError CInvalidStep CInvalidChanges CTooLong CInvalidPlace CInvalidKey CInvalidLetter CInvalidNumber c_x_law_is_changed p_x_law_is_changed c_law p_law) : GOk P w K mg base CX0 1 "is_integer" sp_is_integer := by
  refine T.d_is_integer.ok sc_is_integer (fun vs H Q E h => ?len) (fun f cdv A outer s H vs Q E hr h => ?_)
  case len => obtain ⟨v, lo, hi, rfl, _⟩ := h; rfl
  · obtain ⟨v, lo, hi, rfl, hv, k⟩ := h
    refine ⟨_, (pss_one (ps_ret (pe_and (pe_callB (isiK (K := K) rfl) rfl T.n_isinstance (by decide +kernel) (pa_cons (pv 0) (pa_cons (pe_bltn (v := .ty "int") rfl T.n_int (by decide +kernel) rfl) pa_nil))) (pe_and (pe_not (pe_callB (isiK (K := K) rfl) rfl T.n_isinstance (by decide +kernel) (pa_cons (pv 0) (pa_cons (pe_bltn (v := .ty "bool") rfl T.n_bool (by decide +kernel) rfl) pa_nil)))) (pe_one (pe_chain op_le op_le (pv 1) (pv 0) (pv 2))))))), ?_⟩
    cases v with
    | int i =>
      walk_at "rd"
      refine rd_cT rfl ?_
      walk_at "rd"
      refine rd_cT rfl ?_
      walk_at "rd"
      refine rd_ite (fun h1 => ?_) (fun h1 => ?_)
      · walk_at "rd"
        have e : isInt lo hi (.int i) = decide (i ≤ hi) := by unfold isInt; simp [h1]
        rw [← e]; exact k
      · have e : isInt lo hi (.int i) = false := by unfold isInt; simp [h1]
        rw [e] at k; exact k
    | bl c =>
      walk_at "rd"
      refine rd_cT rfl ?_
      walk_at "rd"
      refine rd_cF rfl ?_
      exact k
    | str x => walk_at "rd"; exact rd_cF rfl k
    | non => walk_at "rd"; exact rd_cF rfl k
    | _ => exact hv.elim
end
section
variable {P : Program} {w : World} {K : PySem.W.Frag} {mg : Str → Option Value} {base : Heap} {CText CPart CTextError CInvalidStep CInvalidChanges CTooLong CInvalidPlace CInvalidKey CInvalidLetter CInvalidNumber c_x_law_is_changed p_x_law_is_changed c_law p_law : Addr}
theorem ok_is_letter (T : Txt K mg CText CPart CTextError CInvalidStep CInvalidChanges CTooLong CInvalidPlace CInvalidKey CInvalidLetter CInvalidNumber c_x_law_is_changed p_x_law_is_changed c_law p_law) : GOk P w K mg base CX0 1 "is_letter" sp_is_letter := by
  refine T.d_is_letter.ok sc_is_letter (fun vs H Q E h => ?len) (fun f cdv A outer s H vs Q E hr h => ?_)
  case len => obtain ⟨v, rfl, _⟩ := h; rfl
  · obtain ⟨v, rfl, hv, hz, k⟩ := h
    obtain ⟨t_LETTERS, h_LETTERS⟩ := T.k_LETTERS; refine ⟨_, (pss_one (ps_ret (pe_and (pe_callB (isiK (K := K) rfl) rfl T.n_isinstance (by decide +kernel) (pa_cons (pv 0) (pa_cons (pe_bltn (v := .ty "str") rfl T.n_str (by decide +kernel) rfl) pa_nil))) (pe_and (pe_cmpR (eqK (K := K) rfl hr.units) (pe_callB (lenK (K := K) rfl) rfl T.n_len (by decide +kernel) (pa_cons (pv 0) pa_nil)) pe_int (nomark _)) (pe_one (pe_cmpR (oInSign) (pv 0) (pe_glob (v := .str "abcdefghijklmnopqrstuvwxyz") rfl h_LETTERS ⟨_, rfl⟩) rfl)))))), ?_⟩
    cases v with
    | str x =>
      walk_at "rd"
      refine rd_cT rfl ?_
      walk_at "rd"
      refine rd_len_str (hz x rfl) ?_
      walk_at "rd"
      refine rd_ite (fun h1 => ?_) (fun h1 => ?_)
      · walk_at "rd"
        obtain ⟨c, hc⟩ := one_sign (Int.ofNat.inj h1)
        subst hc
        walk_at "rd"
        rw [← isLet_one]
        exact k
      · have e : isLet (.str x) = false := isLet_len fun z => h1 (congrArg Int.ofNat z)
        rw [e] at k; exact k
    | bl c => walk_at "rd"; exact rd_cF rfl k
    | int x => walk_at "rd"; exact rd_cF rfl k
    | non => walk_at "rd"; exact rd_cF rfl k
    | _ => exact hv.elim
end
section
variable {P : Program} {w : World} {K : PySem.W.Frag} {mg : Str → Option Value} {base : Heap} {CText CPart CTextError CInvalidStep CInvalidChanges CTooLong CInvalidPlace CInvalidKey CInvalidLetter CInvalidNumber c_x_law_is_changed p_x_law_is_changed c_law p_law : Addr}
theorem ok_is_word (T : Txt K mg CText CPart CTextError CInvalidStep CInvalidChanges CTooLong CInvalidPlace CInvalidKey CInvalidLetter CInvalidNumber c_x_law_is_changed p_x_law_is_changed c_law p_law) : GOk P w K mg base CX0 2 "is_word" sp_is_word := by
  refine T.d_is_word.ok sc_is_word (fun vs H Q E h => ?len) (fun f cdv A outer s H vs Q E hr h => ?_)
  case len => obtain ⟨v, rfl, _⟩ := h; rfl
  · obtain ⟨v, rfl, hv, hz, k⟩ := h
    obtain ⟨t_MAX_WORD, h_MAX_WORD⟩ := T.k_MAX_WORD; refine ⟨_, (pss_one (ps_ret (pe_and (pe_callB (isiK (K := K) rfl) rfl T.n_isinstance (by decide +kernel) (pa_cons (pv 0) (pa_cons (pe_bltn (v := .ty "str") rfl T.n_str (by decide +kernel) rfl) pa_nil))) (pe_and (pe_chain op_le op_le pe_int (pe_callB (lenK (K := K) rfl) rfl T.n_len (by decide +kernel) (pa_cons (pv 0) pa_nil)) (pe_glob (v := .int 20) rfl h_MAX_WORD ⟨_, rfl⟩)) (pe_one (pe_callB (allK (K := K) rfl rfl) rfl T.n_all (by decide +kernel) (pa_cons (pe_lc (own := [("letter", 1)]) rfl sc_is_word.nd (pi_str (pv 0)) (blkOk_by (own := [("letter", 1)]) (N := N_is_word) (sc := (defScope s_is_word)) (by first | decide +kernel | rfl)) (fun _ _ _ _ _ => (pg_name (i := 1) sc_is_word.nd rfl (Or.inl rfl))) (fun _ _ _ _ _ => pts_nil) (fun _ _ _ _ _ => (pe_g (ok_is_letter (K := K) T) (hr.mono (by decide)) pass0 (pa_cons (pv 1) pa_nil)))) pa_nil))))))), ?_⟩
    cases v with
    | str x =>
      walk_at "rd"
      refine rd_cT rfl ?_
      walk_at "rd"
      refine rd_len_str (hz x rfl) ?_
      walk_at "rd"
      refine rd_ite (fun h1 => ?_) (fun h1 => ?_)
      · walk_at "rd"
        refine rd_ite (fun h2 => ?_) (fun h2 => ?_)
        · walk_at "rd"
          refine ⟨x, rfl, fun D hD => lc_fun (f := fun i => .bl (isLet (.str ⟨#[(tl x)[i]?.getD 0]⟩))) plain_str hD (by rw [← len_tl]; exact hz x rfl) (fun _ => rfl) (fun i H1 Q1 hi S q => ?_) fun H1 S eD => ?_⟩
          · walk_at "rd"
            exact ⟨_, rfl, trivial, fun y ey => by cases ey; exact sign_small _, q _ (Same.refl _)⟩
          · walk_at "rd"
            have eb : ((List.range (tl x).length).map fun i => V.bl (isLet (.str ⟨#[(tl x)[i]?.getD 0]⟩))) = ((List.range (tl x).length).map fun i => isLet (.str ⟨#[(tl x)[i]?.getD 0]⟩)).map V.bl := by rw [List.map_map]; rfl
            rw [eb] at eD
            refine rd_all (SqL.of eD) ?_
            rw [isWd_all (by rw [← len_tl]; omega) (by rw [← len_tl]; omega)]
            exact k _ S
        · have e : isWd (.str x) = false := isWd_len (by rw [← len_tl]; omega)
          rw [e] at k; exact k _ (Same.refl _)
      · have e : isWd (.str x) = false := isWd_len (by rw [← len_tl]; omega)
        walk_at "rd"
        refine rd_cF rfl ?_
        rw [e] at k; exact k _ (Same.refl _)
    | bl c => walk_at "rd"; exact rd_cF rfl (k _ (Same.refl _))
    | int x => walk_at "rd"; exact rd_cF rfl (k _ (Same.refl _))
    | non => walk_at "rd"; exact rd_cF rfl (k _ (Same.refl _))
    | _ => exact hv.elim
end
section
variable {P : Program} {w : World} {K : PySem.W.Frag} {mg : Str → Option Value} {base : Heap} {CText CPart CTextError CInvalidStep CInvalidChanges CTooLong CInvalidPlace CInvalidKey CInvalidLetter CInvalidNumber c_x_law_is_changed p_x_law_is_changed c_law p_law : Addr}
theorem ok_is_step (T : Txt K mg CText CPart CTextError CInvalidStep CInvalidChanges CTooLong CInvalidPlace CInvalidKey CInvalidLetter CInvalidNumber c_x_law_is_changed p_x_law_is_changed c_law p_law) : GOk P w K mg base CX0 3 "is_step" (sp_is_step K) := by
  refine T.d_is_step.ok sc_is_step (fun vs H Q E h => ?len) (fun f cdv A outer s H vs Q E hr h => ?_)
  case len => obtain ⟨v, n, s, rfl, _⟩ := h; rfl
  · obtain ⟨v, n, s, rfl, ⟨a, rfl, hq⟩, ok, k⟩ := h
    obtain ⟨t_MAX_TIMES, h_MAX_TIMES⟩ := T.k_MAX_TIMES; refine ⟨_, (pss_one (ps_match (pv 0) (pcs_seq (qs := [.inl "write", .inr 2]) rfl sc_is_step.nd (PatEach.val (PatEach.cap ⟨rfl, (Or.inl rfl), Or.inl rfl⟩ PatEach.nil)) rfl (pt_val (pe_callB (isiK (K := K) rfl) rfl T.n_isinstance (by decide +kernel) (pa_cons (pv 0) (pa_cons (pe_bltn (v := .ty "tuple") rfl T.n_tuple (by decide +kernel) rfl) pa_nil)))) (pss_one (ps_ret (pe_g (ok_is_word (K := K) T) (hr.mono (by decide)) pass0 (pa_cons (pv 2) pa_nil))))
    (pcs_seq (qs := [.inl "paste", .inr 3, .inr 4, .inr 5]) rfl sc_is_step.nd (PatEach.val (PatEach.cap ⟨rfl, (Or.inl rfl), Or.inl rfl⟩ (PatEach.cap ⟨rfl, (Or.inl rfl), Or.inl rfl⟩ (PatEach.cap ⟨rfl, (Or.inl rfl), Or.inl rfl⟩ PatEach.nil)))) rfl (pt_val (pe_callB (isiK (K := K) rfl) rfl T.n_isinstance (by decide +kernel) (pa_cons (pv 0) (pa_cons (pe_bltn (v := .ty "tuple") rfl T.n_tuple (by decide +kernel) rfl) pa_nil)))) (pss_cons (ps_if (PW.pt (pw_or (pt_not (pt_val (pe_g (ok_is_integer (K := K) T) (hr.mono (by decide)) pass0 (pa_cons (pv 4) (pa_cons pe_int (pa_cons (pe_op op_sub (pv 1) pe_int) pa_nil)))))) (pw_or1 (pt_not (pt_val (pe_g (ok_is_integer (K := K) T) (hr.mono (by decide)) pass0 (pa_cons (pv 3) (pa_cons pe_int (pa_cons (pv 4) pa_nil))))))))) (pss_one (ps_ret pe_bl))
    pss_nil)
    (pss_one (ps_ret (pe_g (ok_is_integer (K := K) T) (hr.mono (by decide)) pass0 (pa_cons (pv 5) (pa_cons pe_int (pa_cons (pe_glob (v := .int 1000000000) rfl h_MAX_TIMES ⟨_, rfl⟩) pa_nil)))))))
    (pcs_wild (pss_one (ps_ret pe_bl))))))), ?_⟩
    walk_at "rd"
    cases s with
    | wr w =>
      have e : mBind [.inl "write", .inr 2] (stV (.wr w)) = some [(2, .str w)] := by simp [mBind, stV]
      refine .inr ⟨a, _, rfl, .inl hq, .inr ⟨rfl, ⟨rfl, fun _ => trivial⟩, ?_⟩⟩
      rw [e]
      walk_at "rd"
      refine rd_isi_tup_tuple hq ?_
      walk_at "rd"
      refine rd_cT rfl ?_
      walk_at "rd"
      refine ⟨_, rfl, trivial, fun z ez => by cases ez; exact str_small ok.2.1, fun H' S => ?_⟩
      rw [show isWd (.str w) = true from decide_eq_true (by rw [← len_tl]; exact ok)]
      exact k _ S
    | pa i j t =>
      have e : mBind [.inl "paste", .inr 3, .inr 4, .inr 5] (stV (.pa i j t)) = some [(3, .int i), (4, .int j), (5, .int t)] := by simp [mBind, stV]
      obtain ⟨o1, o2, o3, o4⟩ := ok
      refine .inr ⟨a, _, rfl, .inl hq, .inl ⟨by show 4 ≠ 2; decide, ?_⟩⟩
      refine .inr ⟨a, _, rfl, .inl hq, .inr ⟨rfl, ⟨rfl, fun _ => trivial⟩, ?_⟩⟩
      rw [e]
      walk_at "rd"
      refine rd_isi_tup_tuple hq ?_
      walk_at "rd"
      refine rd_cT rfl ?_
      walk_at "rd"
      refine ⟨_, _, _, rfl, trivial, ?_⟩
      rw [show isInt 0 ((n : Int) - 1) (.int j) = true from decide_eq_true (by omega)]
      walk_at "rd"
      refine rd_cF rfl ?_
      walk_at "rd"
      refine ⟨_, _, _, rfl, trivial, ?_⟩
      rw [show isInt 0 (j : Int) (.int i) = true from decide_eq_true (by omega)]
      walk_at "rd"
      refine rd_cF rfl ?_
      walk_at "rd"
      refine ⟨_, _, _, rfl, trivial, ?_⟩
      rw [show isInt 1 1000000000 (.int t) = true from decide_eq_true (by omega)]
      exact k _ (Same.refl _)
end
section
variable {P : Program} {w : World} {K : PySem.W.Frag} {mg : Str → Option Value} {base : Heap} {CText CPart CTextError CInvalidStep CInvalidChanges CTooLong CInvalidPlace CInvalidKey CInvalidLetter CInvalidNumber c_x_law_is_changed p_x_law_is_changed c_law p_law : Addr}
theorem ok_Part_init (T : Txt K mg CText CPart CTextError CInvalidStep CInvalidChanges CTooLong CInvalidPlace CInvalidKey CInvalidLetter CInvalidNumber c_x_law_is_changed p_x_law_is_changed c_law p_law) : KOk P w K mg base CX0 1 CPart (sp_Part_init CPart) := by
  refine T.d_Part_init.ok sc_Part_init (fun vs H Q E h => ?len) (fun f cdv A outer s H vs Q E hr h => ?_)
  case len => obtain ⟨x, dx, s, n, t, f, l, rfl, _⟩ := h; rfl
  · obtain ⟨x, dx, s0, n, t, f0, l, rfl, hx, k⟩ := h
    refine ⟨_, (pss_cons (ps_fld (pv 0) (pv 1) rfl)
    (pss_cons (ps_fld (pv 0) (pv 2) rfl)
    (pss_cons (ps_fld (pv 0) (pv 3) rfl)
    (pss_cons (ps_fld (pv 0) (pv 4) rfl)
    (pss_one (ps_fld (pv 0) (pv 5) rfl)))))), ?_⟩
    walk_at "rd"
    refine rd_sfld_at hx T.cPart T.na_Part_start (by decide) ?_
    walk_at "rd"
    refine rd_sfld_at upd_same T.cPart T.na_Part_length fl1 ?_
    walk_at "rd"
    refine rd_sfld_at upd_same T.cPart T.na_Part_is_typed fl2 ?_
    walk_at "rd"
    refine rd_sfld_at upd_same T.cPart T.na_Part_first fl3 ?_
    walk_at "rd"
    refine rd_sfld_at upd_same T.cPart T.na_Part_last fl4 ?_
    rw [upd_upd, upd_upd, upd_upd, upd_upd]
    exact k
end
section
variable {P : Program} {w : World} {K : PySem.W.Frag} {mg : Str → Option Value} {base : Heap} {CText CPart CTextError CInvalidStep CInvalidChanges CTooLong CInvalidPlace CInvalidKey CInvalidLetter CInvalidNumber c_x_law_is_changed p_x_law_is_changed c_law p_law : Addr}
theorem ok_Part_source (T : Txt K mg CText CPart CTextError CInvalidStep CInvalidChanges CTooLong CInvalidPlace CInvalidKey CInvalidLetter CInvalidNumber c_x_law_is_changed p_x_law_is_changed c_law p_law) : MOk P w K mg base CX0 1 CPart "source" (sp_Part_source CPart) := by
  refine T.d_Part_source.ok sc_Part_source (fun vs H Q E h => ?len) (fun f cdv A outer s H vs Q E hr h => ?_)
  case len => obtain ⟨p, dx, s, n, t, f, l, z, rfl, _⟩ := h; rfl
  · obtain ⟨p, dx, s0, n, t, f0, l, z, rfl, hp, hfl, k⟩ := h
    refine ⟨_, (pss_cons (ps_if (pt_val (pe_fldK (K := K) rfl (pv 0) (by rfl))) (pss_one (ps_ret (pe_op op_sub (pe_op (addK (K := K) rfl) (pe_fldK (K := K) rfl (pv 0) (by rfl)) (pv 1)) (pe_fldK (K := K) rfl (pv 0) (by rfl)))))
    pss_nil)
    (pss_one (ps_ret (pe_op (addK (K := K) rfl) (pe_fldK (K := K) rfl (pv 0) (by rfl)) (pe_op op_mod (pe_callTy cInt rfl T.n_int (by decide +kernel) (pa_cons (pe_op op_sub (pv 1) (pe_fldK (K := K) rfl (pv 0) (by rfl))) pa_nil)) (pe_op (addK (K := K) rfl) (pe_op op_sub (pe_fldK (K := K) rfl (pv 0) (by rfl)) (pe_fldK (K := K) rfl (pv 0) (by rfl))) pe_int)))))), ?_⟩
    walk_at "rd"
    refine rd_fld_at hp T.cPart T.na_Part_is_typed partF_typed ?_
    walk_at "rd"
    refine rd_iteC (fun ht => ?_) (fun ht => ?_)
    · walk_at "rd"
      refine rd_fld_at hp T.cPart T.na_Part_first partF_first ?_
      walk_at "rd"
      refine rd_fld_at hp T.cPart T.na_Part_start partF_start ?_
      walk_at "rd"
      rw [if_pos ht] at k
      exact k
    · walk_at "rd"
      refine rd_fld_at hp T.cPart T.na_Part_first partF_first ?_
      walk_at "rd"
      refine rd_fld_at hp T.cPart T.na_Part_start partF_start ?_
      walk_at "rd"
      refine rd_fld_at hp T.cPart T.na_Part_last partF_last ?_
      walk_at "rd"
      refine rd_fld_at hp T.cPart T.na_Part_first partF_first ?_
      walk_at "rd"
      refine rd_I (by have := hfl ht; omega) ?_
      walk_at "rd"
      rw [if_neg (by simp [ht])] at k
      exact k
end

section
variable {P : Program} {w : World} {K : PySem.W.Frag} {mg : Str → Option Value} {base : Heap} {CText CPart CTextError CInvalidStep CInvalidChanges CTooLong CInvalidPlace CInvalidKey CInvalidLetter CInvalidNumber c_x_law_is_changed p_x_law_is_changed c_law p_law : Addr}
theorem ok_Text_init (T : Txt K mg CText CPart CTextError CInvalidStep CInvalidChanges CTooLong CInvalidPlace CInvalidKey CInvalidLetter CInvalidNumber c_x_law_is_changed p_x_law_is_changed c_law p_law) : KOk P w K mg base CX0 4 CText (spStar 1 (sp_Text_init K CText CPart)) := by
  refine T.d_Text_init.ok sc_Text_init (fun f cdv A outer s H vs Q E hr h => ?_)
  · obtain ⟨x, dx, m, rs, ss, rfl, hx, hm, hst, ok, few, k⟩ := h
    obtain ⟨t_MAX_SIZE_texts, h_MAX_SIZE_texts⟩ := T.k_MAX_SIZE_texts; obtain ⟨t_MAX_STEPS, h_MAX_STEPS⟩ := T.k_MAX_STEPS; refine ⟨_, (pss_cons (ps_set (i := 2) sc_Text_init.nd rfl (Or.inl rfl) (pe_lst pa_nil))
    (pss_cons (ps_asg (pe_tup (pa_cons pe_str (pa_cons pe_int pa_nil))) (pg_tupK (K := K) (n := 2) rfl rfl (pgs_cons (pg_name (i := 3) sc_Text_init.nd rfl (Or.inl rfl)) (pgs_cons (pg_name (i := 4) sc_Text_init.nd rfl (Or.inl rfl)) pgs_nil))))
    (pss_cons (ps_for PassesOwn.never rfl (pi_enumT T.n_enumerate (pa_cons (pv 1) pa_nil)) (pg_tupK (K := K) (n := 2) rfl rfl (pgs_cons (pg_name (i := 5) sc_Text_init.nd rfl (Or.inl rfl)) (pgs_cons (pg_name (i := 6) sc_Text_init.nd rfl (Or.inl rfl)) pgs_nil))) (pss_cons (ps_if (PW.pt (pw_or (pt_cmpR (eqK (K := K) rfl hr.units) (pv 5) (pe_glob (v := .int 30) rfl h_MAX_STEPS ⟨_, rfl⟩) (nomark _)) (pw_or1 (pt_not (pt_val (pe_g (ok_is_step (K := K) T) (hr.mono (by decide)) pass0 (pa_cons (pv 6) (pa_cons (pv 4) pa_nil)))))))) (pss_one ps_never)
    pss_nil)
    (pss_cons (ps_if (pt_cmpR (eqK (K := K) rfl hr.units) (pe_ix (ixK (K := K) rfl) (pv 6) pe_int (fun _ _ => rfl)) pe_str (nomark _)) (pss_cons (ps_expr (pe_bmK (K := K) rfl PySem.F.plainAttrs_list PySem.F.slot_list_append PySem.F.type_list_append mt_append (pv 2) (pa_cons (pe_k (ok_Part_init (K := K) T) (hr.mono (by decide)) T.g_Part pass0 (pa_cons (pv 4) (pa_cons (pe_callB (lenK (K := K) rfl) rfl T.n_len (by decide +kernel) (pa_cons (pe_ix (ixK (K := K) rfl) (pv 6) pe_int (fun _ _ => rfl)) pa_nil)) (pa_cons pe_bl (pa_cons (pe_callB (lenK (K := K) rfl) rfl T.n_len (by decide +kernel) (pa_cons (pv 3) pa_nil)) (pa_cons pe_int pa_nil)))))) pa_nil)))
    (pss_one (ps_set (i := 3) sc_Text_init.nd rfl (Or.inl rfl) (pe_op (addK (K := K) rfl) (pv 3) (pe_ix (ixK (K := K) rfl) (pv 6) pe_int (fun _ _ => rfl))))))
    (pss_one (ps_expr (pe_bmK (K := K) rfl PySem.F.plainAttrs_list PySem.F.slot_list_append PySem.F.type_list_append mt_append (pv 2) (pa_cons (pe_k (ok_Part_init (K := K) T) (hr.mono (by decide)) T.g_Part pass0 (pa_cons (pv 4) (pa_cons (pe_op oMul (pe_op (addK (K := K) rfl) (pe_op op_sub (pe_ix (ixK (K := K) rfl) (pv 6) pe_int (fun _ _ => rfl)) (pe_ix (ixK (K := K) rfl) (pv 6) pe_int (fun _ _ => rfl))) pe_int) (pe_ix (ixK (K := K) rfl) (pv 6) pe_int (fun _ _ => rfl))) (pa_cons pe_bl (pa_cons (pe_ix (ixK (K := K) rfl) (pv 6) pe_int (fun _ _ => rfl)) (pa_cons (pe_ix (ixK (K := K) rfl) (pv 6) pe_int (fun _ _ => rfl)) pa_nil)))))) pa_nil)))))
    (pss_cons (ps_set (i := 4) sc_Text_init.nd rfl (Or.inl rfl) (pe_op (addK (K := K) rfl) (pe_fldK (K := K) rfl (pe_ix (ixK (K := K) rfl) (pv 2) (pe_un un_neg pe_int) (fun _ _ => rfl)) (by rfl)) (pe_fldK (K := K) rfl (pe_ix (ixK (K := K) rfl) (pv 2) (pe_un un_neg pe_int) (fun _ _ => rfl)) (by rfl))))
    (pss_one (ps_if (pt_cmpR op_gt (pv 4) (pe_glob (v := .int 1000000000000000000) rfl h_MAX_SIZE_texts ⟨_, rfl⟩) (nomark _)) (pss_one ps_never)
    pss_nil))))))
    (pss_cons (ps_fld (pv 0) (pv 1) rfl)
    (pss_cons (ps_fld (pv 0) (pv 3) rfl)
    (pss_cons (ps_fld (pv 0) (pv 2) rfl)
    (pss_one (ps_fld (pv 0) (pv 4) rfl)))))))), ?_⟩
    walk_at "rd"
    refine ⟨Nat.zero_le _, fun pl hpl => ?_⟩
    walk_at "rd"
    refine ⟨two_line, fun tp htp => ?_⟩
    refine rd_gtup (SqT.of upd_same) rfl ?_
    walk_at "rd"
    have S1 : Same H (upd (upd H pl (.lst [])) tp (.tup [.str "", .int 0])) := Same.new (Same.new (Same.refl _) hpl) htp
    refine ⟨m, rs, rfl, Same.tup S1 hm, for_enumT (xs := rs) (fun i σ H' => ∃ ps v5 v6, σ = [some (.ref x), some (.ref m), some (.ref pl), some (.str (mkS (tyL (ss.take i)))), some (.int (sz (ss.take i) : Nat)), v5, v6] ∧ Same H H' ∧ H' pl = some (.lst ps) ∧ PartsAt CPart H' ps (ss.take i))
      ⟨[], _, _, by rw [emp_mk]; rfl, S1, lk_new htp upd_same, rfl, fun j s hj => by simp at hj⟩ (fun i σ H' _ ⟨_, _, _, _, S, _⟩ => Same.tup S hm) ?_ ?_⟩
    · rintro i v tu σ H' hv ⟨ps, v5, v6, rfl, S, hpl', hp⟩ hT
      obtain ⟨s', hs, a, rfl, hq⟩ := hst.at hv
      have hi : i < ss.length := (List.getElem?_eq_some_iff.mp hs).1
      have hok := ok_at ok hs
      have hpsl : ps.length < sizeLine := by rw [hp.1, List.length_take]; have := line30; omega
      walk_at "rd"
      refine rd_gtup (SqT.of upd_same) rfl ?_
      walk_at "rd"
      refine rd_dF (by omega) ?_
      walk_at "rd"
      refine ⟨_, _, s', rfl, ⟨a, rfl, Same.tup (Same.new S hT) hq⟩, hok.1, fun Hb S2 => ?_⟩
      have Sb : Same H Hb := (Same.new S hT).trans S2
      have hplb : Hb pl = some (.lst ps) := S2 _ _ (lk_new hT hpl')
      have hpb : PartsAt CPart Hb ps (ss.take i) := hp.mono ((Same.new (Same.refl _) hT).trans S2)
      have hqb : SqT K Hb a (stV s') := Same.tup Sb hq
      walk_at "rd"
      refine rd_cF rfl ?_
      walk_at "rd"
      cases s' with
      | wr w =>
        refine rd_ixT ?_ hqb rfl
        walk_at "rd"
        refine rd_dT rfl ?_
        walk_at "rd"
        refine rd_tyL (SqL.of hplb) _ ?_
        walk_at "rd"
        refine rd_ixT ?_ hqb rfl
        walk_at "rd"
        refine rd_len_str (str_small hok.1.2.1) ?_
        walk_at "rd"
        refine rd_len_str (by rw [mkS_len]; exact Nat.le_trans (tyL_take_le i) (tyL_line ok few)) ?_
        walk_at "rd"
        refine rd_mkPart (fun p dxp Hc np SC hpc => ?_)
        walk_at "rd"
        have hplc := SC _ _ hplb
        have nplp : pl ≠ p := ne_of_none hplb np
        refine rd_append hplc hpsl ?_
        have S3 := Same.mut (o := HO.lst (ps ++ [V.ref p])) (Sb.trans SC) hpl
        have E2 := @upd_same Hc pl (HO.lst (ps ++ [V.ref p]))
        have E4 := lk_ne (o := HO.lst (ps ++ [V.ref p])) nplp.symm hpc
        have E3 := hpb.snoc hs (But.at (o := HO.lst (ps ++ [V.ref p])) (But.same SC)) (fun dx fs e => by rw [hplb] at e; cases e) (v := .ref p) ⟨p, dxp, rfl, by rw [mkS_len] at E4; exact E4⟩
        revert S3 E2 E3 E4
        generalize upd Hc pl (HO.lst (ps ++ [V.ref p])) = Hd
        intro S3 E2 E4 E3
        walk_at "rd"
        refine rd_ixT ?_ (Same.tup S3 hq) rfl
        refine rd_add_str (by rw [mkS_len, len_tl, ← List.length_append]; have := tyL_line (ok_take ok (i + 1)) (by rw [List.length_take]; omega); rw [tyL_take hs] at this; exact this) ?_
        walk_at "rd"
        refine rd_ixI ?_ (SqL.of E2) (atI_last _ _)
        refine rd_fld_at E4 T.cPart T.na_Part_start partF_start ?_
        walk_at "rd"
        refine rd_ixI ?_ (SqL.of E2) (atI_last _ _)
        refine rd_fld_at E4 T.cPart T.na_Part_length partF_length ?_
        walk_at "rd"
        refine rd_dF (by have := hok.2; simp only [len1] at this; omega) ?_
        walk_at "rd"
        refine ⟨_, some (.int i), some (.ref a), ?_, S3, E2, E3⟩
        rw [show (w : Str) = mkS (tl w) from (mkS_tl w).symm, mkS_app, tyL_take hs, sz_take hs, mkS_tl]
        rfl
      | pa f l t =>
        obtain ⟨⟨o1, o2, o3, o4⟩, o5⟩ := hok
        simp only [len1] at o5
        refine rd_ixT ?_ hqb rfl
        walk_at "rd"
        refine rd_dF (by decide +kernel) ?_
        walk_at "rd"
        refine rd_tyL (SqL.of hplb) _ ?_
        walk_at "rd"
        refine rd_ixT ?_ hqb rfl
        walk_at "rd"
        refine rd_ixT ?_ hqb rfl
        walk_at "rd"
        refine rd_ixT ?_ hqb rfl
        walk_at "rd"
        refine rd_mul_int (Or.inl ⟨by omega, by omega⟩) ?_
        walk_at "rd"
        refine rd_ixT ?_ hqb rfl
        walk_at "rd"
        refine rd_ixT ?_ hqb rfl
        walk_at "rd"
        refine rd_mkPart (fun p dxp Hc np SC hpc => ?_)
        walk_at "rd"
        have hplc := SC _ _ hplb
        have nplp : pl ≠ p := ne_of_none hplb np
        refine rd_append hplc hpsl ?_
        rw [show ((l : Int) - f + 1) * t = (((l - f + 1) * t : Nat) : Int) by rw [Int.natCast_mul]; congr 1; omega] at hpc
        have S3 := Same.mut (o := HO.lst (ps ++ [V.ref p])) (Sb.trans SC) hpl
        have E2 := @upd_same Hc pl (HO.lst (ps ++ [V.ref p]))
        have E4 := lk_ne (o := HO.lst (ps ++ [V.ref p])) nplp.symm hpc
        have E3 := hpb.snoc hs (But.at (o := HO.lst (ps ++ [V.ref p])) (But.same SC)) (fun dx fs e => by rw [hplb] at e; cases e) (v := .ref p) ⟨p, dxp, rfl, E4⟩
        revert S3 E2 E3 E4
        generalize upd Hc pl (HO.lst (ps ++ [V.ref p])) = Hd
        intro S3 E2 E4 E3
        walk_at "rd"
        refine rd_ixI ?_ (SqL.of E2) (atI_last _ _)
        refine rd_fld_at E4 T.cPart T.na_Part_start partF_start ?_
        walk_at "rd"
        refine rd_ixI ?_ (SqL.of E2) (atI_last _ _)
        refine rd_fld_at E4 T.cPart T.na_Part_length partF_length ?_
        walk_at "rd"
        refine rd_dF (by omega) ?_
        walk_at "rd"
        refine ⟨_, some (.int i), some (.ref a), ?_, S3, E2, E3⟩
        rw [tyL_take hs, sz_take hs]
        simp only [ty1, List.append_nil, len1, Int.natCast_add]
        rfl
    · rintro σ H' ⟨ps, v5, v6, rfl, S, hpl', hp⟩
      rw [hst.1, List.take_length] at hp ⊢
      have hx' := S _ _ hx
      have hm' : SqT K H' m rs := Same.tup S hm
      have hst' := hst.mono S
      have npl : pl ≠ x := fun e => by subst e; rw [hx] at hpl; cases hpl
      walk_at "rd"
      refine rd_sfld_at hx' T.cText T.na_Text_made (by decide) ?_
      walk_at "rd"
      refine rd_sfld_at upd_same T.cText T.na_Text_typed fl1 ?_
      walk_at "rd"
      refine rd_sfld_at upd_same T.cText T.na_Text_parts fl2 ?_
      walk_at "rd"
      refine rd_sfld_at upd_same T.cText T.na_Text_total fl3 ?_
      have B : But x H' (upd (upd (upd (upd H' x (HO.ins CText dx (putF "made" (.ref m) []))) x (HO.ins CText dx (putF "typed" (.str (mkS (tyL ss))) (putF "made" (.ref m) [])))) x (HO.ins CText dx (putF "parts" (.ref pl) (putF "typed" (.str (mkS (tyL ss))) (putF "made" (.ref m) []))))) x (HO.ins CText dx (putF "total" (.int (sz ss : Nat)) (putF "parts" (.ref pl) (putF "typed" (.str (mkS (tyL ss))) (putF "made" (.ref m) [])))))) := But.at (But.at (But.at (But.at But.refl)))
      refine k _ ⟨ss, dx, m, pl, rs, ps⟩ (fun b o hb e => B _ _ hb (S _ _ e)) ⟨upd_same, B.tup (free1_ins hx') hm', B.steps (free1_ins hx') hst', B _ _ npl hpl', PartsAt.but B (fun dx fs e => ?_) hp, ok, few⟩ rfl rfl
      rw [hx'] at e
      cases e
      exact T.ne_Text_Part rfl
end

section
variable {P : Program} {w : World} {K : PySem.W.Frag} {mg : Str → Option Value} {base : Heap} {CText CPart CTextError CInvalidStep CInvalidChanges CTooLong CInvalidPlace CInvalidKey CInvalidLetter CInvalidNumber c_x_law_is_changed p_x_law_is_changed c_law p_law : Addr}
theorem ok_Text_of_steps (T : Txt K mg CText CPart CTextError CInvalidStep CInvalidChanges CTooLong CInvalidPlace CInvalidKey CInvalidLetter CInvalidNumber c_x_law_is_changed p_x_law_is_changed c_law p_law) : COk P w K mg base CX0 6 CText "of_steps" (sp_Text_of_steps K CText CPart) := by
  refine T.d_Text_of_steps.ok sc_Text_of_steps (fun vs H Q E h => ?len) (fun f cdv A outer s H vs Q E hr h => ?_)
  case len => obtain ⟨a, ms, ss, rfl, _⟩ := h; rfl
  · obtain ⟨a, ms, ss, rfl, hq, hst, ok, few, k⟩ := h
    refine ⟨_, (pss_one (ps_ret (pe_ks (pv 0) (ok_Text_init (K := K) T) (hr.mono (by decide)) pass0 (pv 1)))), ?_⟩
    walk_at "rd"
    refine ⟨rfl, ?_⟩
    walk_at "rd"
    exact rd_mkS hq (rd_mkText hst ok few fun x Hc t nx S T e => k Hc x t S T e)
end
section
variable {P : Program} {w : World} {K : PySem.W.Frag} {mg : Str → Option Value} {base : Heap} {CText CPart CTextError CInvalidStep CInvalidChanges CTooLong CInvalidPlace CInvalidKey CInvalidLetter CInvalidNumber c_x_law_is_changed p_x_law_is_changed c_law p_law : Addr}
theorem ok_Text_steps (T : Txt K mg CText CPart CTextError CInvalidStep CInvalidChanges CTooLong CInvalidPlace CInvalidKey CInvalidLetter CInvalidNumber c_x_law_is_changed p_x_law_is_changed c_law p_law) : POk P w K mg base CX0 1 CText "steps" (sp_Text_steps K CText CPart) := by
  refine T.d_Text_steps.ok sc_Text_steps (fun vs H Q E h => ?len) (fun f cdv A outer s H vs Q E hr h => ?_)
  case len => obtain ⟨a, t, rfl, _⟩ := h; rfl
  · obtain ⟨a, t, rfl, ht, k⟩ := h
    refine ⟨_, (pss_one (ps_ret (pe_fldK (K := K) rfl (pv 0) (by rfl)))), ?_⟩
    walk_at "rd"
    exact rd_fld_at ht.ins T.cText T.na_Text_made textF_made k
end
section
variable {P : Program} {w : World} {K : PySem.W.Frag} {mg : Str → Option Value} {base : Heap} {CText CPart CTextError CInvalidStep CInvalidChanges CTooLong CInvalidPlace CInvalidKey CInvalidLetter CInvalidNumber c_x_law_is_changed p_x_law_is_changed c_law p_law : Addr}
theorem ok_Text_typed_keys (T : Txt K mg CText CPart CTextError CInvalidStep CInvalidChanges CTooLong CInvalidPlace CInvalidKey CInvalidLetter CInvalidNumber c_x_law_is_changed p_x_law_is_changed c_law p_law) : POk P w K mg base CX0 1 CText "typed_keys" (sp_Text_typed_keys K CText CPart) := by
  refine T.d_Text_typed_keys.ok sc_Text_typed_keys (fun vs H Q E h => ?len) (fun f cdv A outer s H vs Q E hr h => ?_)
  case len => obtain ⟨a, t, rfl, _⟩ := h; rfl
  · obtain ⟨a, t, rfl, ht, k⟩ := h
    refine ⟨_, (pss_one (ps_ret (pe_fldK (K := K) rfl (pv 0) (by rfl)))), ?_⟩
    walk_at "rd"
    exact rd_fld_at ht.ins T.cText T.na_Text_typed textF_typed k
end
section
variable {P : Program} {w : World} {K : PySem.W.Frag} {mg : Str → Option Value} {base : Heap} {CText CPart CTextError CInvalidStep CInvalidChanges CTooLong CInvalidPlace CInvalidKey CInvalidLetter CInvalidNumber c_x_law_is_changed p_x_law_is_changed c_law p_law : Addr}
theorem ok_Text_size (T : Txt K mg CText CPart CTextError CInvalidStep CInvalidChanges CTooLong CInvalidPlace CInvalidKey CInvalidLetter CInvalidNumber c_x_law_is_changed p_x_law_is_changed c_law p_law) : POk P w K mg base CX0 1 CText "size" (sp_Text_size K CText CPart) := by
  refine T.d_Text_size.ok sc_Text_size (fun vs H Q E h => ?len) (fun f cdv A outer s H vs Q E hr h => ?_)
  case len => obtain ⟨a, t, rfl, _⟩ := h; rfl
  · obtain ⟨a, t, rfl, ht, k⟩ := h
    refine ⟨_, (pss_one (ps_ret (pe_fldK (K := K) rfl (pv 0) (by rfl)))), ?_⟩
    walk_at "rd"
    exact rd_fld_at ht.ins T.cText T.na_Text_total textF_total k
end
section
variable {P : Program} {w : World} {K : PySem.W.Frag} {mg : Str → Option Value} {base : Heap} {CText CPart CTextError CInvalidStep CInvalidChanges CTooLong CInvalidPlace CInvalidKey CInvalidLetter CInvalidNumber c_x_law_is_changed p_x_law_is_changed c_law p_law : Addr}
theorem ok_Text_check_place (T : Txt K mg CText CPart CTextError CInvalidStep CInvalidChanges CTooLong CInvalidPlace CInvalidKey CInvalidLetter CInvalidNumber c_x_law_is_changed p_x_law_is_changed c_law p_law) : MOk P w K mg base CX0 2 CText "check_place" (sp_Text_check_place K CText CPart) := by
  refine T.d_Text_check_place.ok sc_Text_check_place (fun vs H Q E h => ?len) (fun f cdv A outer s H vs Q E hr h => ?_)
  case len => obtain ⟨a, t, v, rfl, _⟩ := h; rfl
  · obtain ⟨a, t, v, rfl, ht, hv, hi, k⟩ := h
    refine ⟨_, (pss_one (ps_if (pt_not (pt_val (pe_g (ok_is_integer (K := K) T) (hr.mono (by decide)) pass0 (pa_cons (pv 1) (pa_cons pe_int (pa_cons (pe_op op_sub (pe_fldK (K := K) rfl (pv 0) (by rfl)) pe_int) pa_nil)))))) (pss_one ps_never)
    pss_nil)), ?_⟩
    walk_at "rd"
    refine rd_fld_at ht.ins T.cText T.na_Text_total textF_total ?_
    walk_at "rd"
    refine ⟨v, _, _, rfl, hv, ?_⟩
    rw [hi]
    walk_at "rd"
    refine rd_cF rfl ?_
    walk_at "rd"
    exact k
end
section
variable {P : Program} {w : World} {K : PySem.W.Frag} {mg : Str → Option Value} {base : Heap} {CText CPart CTextError CInvalidStep CInvalidChanges CTooLong CInvalidPlace CInvalidKey CInvalidLetter CInvalidNumber c_x_law_is_changed p_x_law_is_changed c_law p_law : Addr}
theorem ok_Text_check_key (T : Txt K mg CText CPart CTextError CInvalidStep CInvalidChanges CTooLong CInvalidPlace CInvalidKey CInvalidLetter CInvalidNumber c_x_law_is_changed p_x_law_is_changed c_law p_law) : MOk P w K mg base CX0 2 CText "check_key" (sp_Text_check_key K CText CPart) := by
  refine T.d_Text_check_key.ok sc_Text_check_key (fun vs H Q E h => ?len) (fun f cdv A outer s H vs Q E hr h => ?_)
  case len => obtain ⟨a, t, v, rfl, _⟩ := h; rfl
  · obtain ⟨a, t, v, rfl, ht, hv, hi, k⟩ := h
    refine ⟨_, (pss_one (ps_if (pt_not (pt_val (pe_g (ok_is_integer (K := K) T) (hr.mono (by decide)) pass0 (pa_cons (pv 1) (pa_cons pe_int (pa_cons (pe_op op_sub (pe_callB (lenK (K := K) rfl) rfl T.n_len (by decide +kernel) (pa_cons (pe_fldK (K := K) rfl (pv 0) (by rfl)) pa_nil)) pe_int) pa_nil)))))) (pss_one ps_never)
    pss_nil)), ?_⟩
    walk_at "rd"
    refine rd_fld_at ht.ins T.cText T.na_Text_typed textF_typed ?_
    walk_at "rd"
    refine rd_len_str ht.typed_small ?_
    rw [mkS_len]
    walk_at "rd"
    refine ⟨v, _, _, rfl, hv, ?_⟩
    rw [hi]
    walk_at "rd"
    refine rd_cF rfl ?_
    walk_at "rd"
    exact k
end
section
variable {P : Program} {w : World} {K : PySem.W.Frag} {mg : Str → Option Value} {base : Heap} {CText CPart CTextError CInvalidStep CInvalidChanges CTooLong CInvalidPlace CInvalidKey CInvalidLetter CInvalidNumber c_x_law_is_changed p_x_law_is_changed c_law p_law : Addr}
theorem ok_Text_key_of (T : Txt K mg CText CPart CTextError CInvalidStep CInvalidChanges CTooLong CInvalidPlace CInvalidKey CInvalidLetter CInvalidNumber c_x_law_is_changed p_x_law_is_changed c_law p_law) : MOk P w K mg base CX0 2 CText "key_of" (sp_Text_key_of K CText CPart) := by
  refine T.d_Text_key_of.ok sc_Text_key_of (fun vs H Q E h => ?len) (fun f cdv A outer s H vs Q E hr h => ?_)
  case len => obtain ⟨a, t, p, k, rfl, _⟩ := h; rfl
  · obtain ⟨a, t, p, k, rfl, ht, hk, q⟩ := h
    have hp : p < sz t.ss := by rw [← ks_len ht.ok]; exact (List.getElem?_eq_some_iff.mp hk).1
    refine ⟨_, (pss_cons (ps_set (i := 2) sc_Text_key_of.nd rfl (Or.inl rfl) (pe_op op_sub (pe_callB (lenK (K := K) rfl) rfl T.n_len (by decide +kernel) (pa_cons (pe_fldK (K := K) rfl (pv 0) (by rfl)) pa_nil)) pe_int))
    (pss_cons (ps_while PassesOwn.never (pt_cmpR op_ge (pv 2) pe_int (nomark _)) (pss_cons (ps_set (i := 3) sc_Text_key_of.nd rfl (Or.inl rfl) (pe_ix (ixK (K := K) rfl) (pe_fldK (K := K) rfl (pv 0) (by rfl)) (pv 2) (fun _ _ => rfl)))
    (pss_cons (ps_if (pt_cmpR op_ge (pv 1) (pe_fldK (K := K) rfl (pv 3) (by rfl)) (nomark _)) (pss_cons (ps_set (i := 1) sc_Text_key_of.nd rfl (Or.inl rfl) (pe_m (pv 3) T.cPart (ok_Part_source (K := K) T) (hr.mono (by decide)) pass0 (pa_cons (pv 1) pa_nil)))
    (pss_one (ps_if (pt_val (pe_fldK (K := K) rfl (pv 3) (by rfl))) (pss_one ps_break)
    pss_nil)))
    pss_nil)
    (pss_one (ps_aug (i := 2) sc_Text_key_of.nd rfl (Or.inl rfl) pe_int ip_sub)))))
    (pss_one (ps_ret (pv 1))))), ?_⟩
    walk_at "rd"
    refine rd_fld_at ht.ins T.cText T.na_Text_parts textF_parts ?_
    walk_at "rd"
    refine rd_len_lst (SqL.of ht.pls) ?_
    walk_at "rd"
    refine rd_while (fun j σ H' => ∃ (p' : Nat), ∃ v3, σ = [some (.ref a), some (.int p'), some (.int ((j : Int) - 1)), v3] ∧ H = H' ∧ j ≤ t.ss.length ∧ p' < sz (t.ss.take j) ∧ (ks t.ss)[p']? = some k) ⟨t.ss.length, p, none, by rw [ht.prt.1]; rfl, rfl, Nat.le_refl _, by rw [List.take_length]; exact hp, hk⟩ ?_
    rintro j σ H' ⟨p', v3, rfl, rfl, hj, hp', hk'⟩
    have j0 : 0 < j := by
      rcases Nat.eq_zero_or_pos j with e | e
      · subst e; simp [sz] at hp'
      · exact e
    obtain ⟨i, rfl⟩ : ∃ i, j = i + 1 := ⟨j - 1, by omega⟩
    have hs : t.ss[i]? = some (t.ss[i]'(by omega)) := List.getElem?_eq_getElem _
    have hsz := sz_take hs
    have ei : (((i + 1 : Nat) : Int) - 1) = (i : Nat) := by omega
    rw [ei]
    obtain ⟨v, hv, hpart⟩ := ht.prt.2 i _ hs
    have wf := (ok_at ht.ok hs).1
    walk_at "rd"
    refine rd_dT (by omega) ⟨fun σ' H' => ∃ m', m' < i + 1 ∧ ∃ (p' : Nat), ∃ v3, σ' = [some (.ref a), some (.int p'), some (.int ((m' : Int) - 1)), v3] ∧ H = H' ∧ m' ≤ t.ss.length ∧ p' < sz (t.ss.take m') ∧ (ks t.ss)[p']? = some k, fun σ' H' z => z, ?_⟩
    walk_at "rd"
    refine rd_fld_at ht.ins T.cText T.na_Text_parts textF_parts ?_
    walk_at "rd"
    refine rd_ixLn (SqL.of ht.pls) hv ?_
    walk_at "rd"
    cases e : t.ss[i]'(by omega) with
    | wr w =>
      rw [e] at hpart hs hsz wf
      obtain ⟨pp, dp, rfl, hP⟩ := hpart
      refine rd_fld_at hP T.cPart T.na_Part_start partF_start ?_
      walk_at "rd"
      refine rd_ite (fun h1 => ?_) (fun h1 => ?_)
      · walk_at "rd"
        refine rd_m_at ⟨_, _, hP, partF_no (by decide +kernel)⟩ ?_
        walk_at "rd"
        refine ⟨pp, dp, _, _, _, _, _, _, rfl, hP, fun z => (by cases z), ?_⟩
        rw [if_pos rfl]
        walk_at "rd"
        refine rd_fld_at hP T.cPart T.na_Part_is_typed partF_typed ?_
        walk_at "rd"
        refine rd_cT rfl ?_
        walk_at "rd"
        have := ks_wr ht.ok hs (p := p') (by omega) hp'
        rw [hk'] at this
        rw [show ((tyL (t.ss.take i)).length : Int) + (p' : Int) - (sz (t.ss.take i) : Nat) = (k : Nat) by cases this; omega]
        exact q
      · walk_at "rd"
        exact ⟨i, by omega, p', _, rfl, rfl, by omega, by omega, hk'⟩
    | pa f l u =>
      rw [e] at hpart hs hsz wf
      obtain ⟨pp, dp, rfl, hP⟩ := hpart
      refine rd_fld_at hP T.cPart T.na_Part_start partF_start ?_
      walk_at "rd"
      refine rd_ite (fun h1 => ?_) (fun h1 => ?_)
      · walk_at "rd"
        refine rd_m_at ⟨_, _, hP, partF_no (by decide +kernel)⟩ ?_
        walk_at "rd"
        refine ⟨pp, dp, _, _, _, _, _, _, rfl, hP, fun _ => (by have := wf.1; omega), ?_⟩
        rw [if_neg Bool.false_ne_true]
        walk_at "rd"
        refine rd_fld_at hP T.cPart T.na_Part_is_typed partF_typed ?_
        walk_at "rd"
        refine rd_cF rfl ?_
        walk_at "rd"
        have := ks_pa ht.ok hs (p := p') (by omega) hp'
        have fl := wf.1
        refine ⟨i, by omega, f + (p' - sz (t.ss.take i)) % (l - f + 1), some (.ref pp), ?_, rfl, by omega, this.1, by rw [← this.2]; exact hk'⟩
        rw [show ((f : Nat) : Int) + ((p' : Nat) - (sz (t.ss.take i) : Nat) : Int) % ((l : Nat) - (f : Nat) + 1 : Int) = ((f + (p' - sz (t.ss.take i)) % (l - f + 1) : Nat) : Int) by
          rw [Int.natCast_add, Int.natCast_emod, Int.natCast_sub (by omega), Int.natCast_add, Int.natCast_sub fl]; rfl]
        rfl
      · walk_at "rd"
        exact ⟨i, by omega, p', _, rfl, rfl, by omega, by omega, hk'⟩
end
section
variable {P : Program} {w : World} {K : PySem.W.Frag} {mg : Str → Option Value} {base : Heap} {CText CPart CTextError CInvalidStep CInvalidChanges CTooLong CInvalidPlace CInvalidKey CInvalidLetter CInvalidNumber c_x_law_is_changed p_x_law_is_changed c_law p_law : Addr}
theorem ok_Text_call (T : Txt K mg CText CPart CTextError CInvalidStep CInvalidChanges CTooLong CInvalidPlace CInvalidKey CInvalidLetter CInvalidNumber c_x_law_is_changed p_x_law_is_changed c_law p_law) : XOk P w K mg base CX0 3 (CallO K CText) (sp_Text_call K CText CPart) := by
  refine T.d_Text_call.ok sc_Text_call (fun vs H Q E h => ?len) (fun f cdv A outer s H vs Q E hr h => ?_)
  case len => obtain ⟨a, t, p, k, rfl, _⟩ := h; rfl
  · obtain ⟨a, t, p, k, rfl, ht, hk, q⟩ := h
    have hp : p < sz t.ss := by rw [← ks_len ht.ok]; exact (List.getElem?_eq_some_iff.mp hk).1
    refine ⟨_, (pss_cons (ps_expr (pe_m (pv 0) T.cText (ok_Text_check_place (K := K) T) (hr.mono (by decide)) pass0 (pa_cons (pv 1) pa_nil)))
    (pss_one (ps_ret (pe_m (pv 0) T.cText (ok_Text_key_of (K := K) T) (hr.mono (by decide)) pass0 (pa_cons (pv 1) pa_nil))))), ?_⟩
    walk_at "rd"
    refine rd_m_at ht.insM ?_
    walk_at "rd"
    refine ⟨a, t, _, rfl, ht, trivial, decide_eq_true (by omega), ?_⟩
    walk_at "rd"
    refine rd_m_at ht.insM ?_
    walk_at "rd"
    exact ⟨a, t, p, k, rfl, ht, hk, q⟩
end
section
variable {P : Program} {w : World} {K : PySem.W.Frag} {mg : Str → Option Value} {base : Heap} {CText CPart CTextError CInvalidStep CInvalidChanges CTooLong CInvalidPlace CInvalidKey CInvalidLetter CInvalidNumber c_x_law_is_changed p_x_law_is_changed c_law p_law : Addr}
theorem ok_Text_getitem (T : Txt K mg CText CPart CTextError CInvalidStep CInvalidChanges CTooLong CInvalidPlace CInvalidKey CInvalidLetter CInvalidNumber c_x_law_is_changed p_x_law_is_changed c_law p_law) : XOk P w K mg base CX0 3 (IOwn K CText) (sp_Text_getitem K CText CPart) := by
  refine T.d_Text_getitem.ok sc_Text_getitem (fun vs H Q E h => ?len) (fun f cdv A outer s H vs Q E hr h => ?_)
  case len => obtain ⟨a, t, p, k, c, rfl, _⟩ := h; rfl
  · obtain ⟨a, t, p, k, c, rfl, ht, hk, hc, q⟩ := h
    have hp : p < sz t.ss := by rw [← ks_len ht.ok]; exact (List.getElem?_eq_some_iff.mp hk).1
    refine ⟨_, (pss_cons (ps_if (pt_not (pt_val (pe_g (ok_is_integer (K := K) T) (hr.mono (by decide)) pass0 (pa_cons (pv 1) (pa_cons pe_int (pa_cons (pe_op op_sub (pe_fldK (K := K) rfl (pv 0) (by rfl)) pe_int) pa_nil)))))) (pss_one ps_never)
    pss_nil)
    (pss_one (ps_ret (pe_ix (ixK (K := K) rfl) (pe_fldK (K := K) rfl (pv 0) (by rfl)) (pe_m (pv 0) T.cText (ok_Text_key_of (K := K) T) (hr.mono (by decide)) pass0 (pa_cons (pv 1) pa_nil)) (fun _ _ => rfl))))), ?_⟩
    walk_at "rd"
    refine rd_fld_at ht.ins T.cText T.na_Text_total textF_total ?_
    walk_at "rd"
    refine ⟨_, _, _, rfl, trivial, ?_⟩
    rw [show isInt 0 ((sz t.ss : Nat) - 1 : Int) (.int p) = true from decide_eq_true (by omega)]
    walk_at "rd"
    refine rd_cF rfl ?_
    walk_at "rd"
    refine rd_fld_at ht.ins T.cText T.na_Text_typed textF_typed ?_
    walk_at "rd"
    refine rd_m_at ht.insM ?_
    walk_at "rd"
    exact ⟨a, t, p, k, rfl, ht, hk, rd_ixSn ht.typed_small hc q⟩
end

section
variable {P : Program} {w : World} {K : PySem.W.Frag} {mg : Str → Option Value} {base : Heap} {CText CPart CTextError CInvalidStep CInvalidChanges CTooLong CInvalidPlace CInvalidKey CInvalidLetter CInvalidNumber c_x_law_is_changed p_x_law_is_changed c_law p_law : Addr}
theorem ok_Text_contains (T : Txt K mg CText CPart CTextError CInvalidStep CInvalidChanges CTooLong CInvalidPlace CInvalidKey CInvalidLetter CInvalidNumber c_x_law_is_changed p_x_law_is_changed c_law p_law) : XOk P w K mg base CX0 2 (COwn K CText) (sp_Text_contains K CText CPart) := by
  refine T.d_Text_contains.ok sc_Text_contains (fun vs H Q E h => ?len) (fun f cdv A outer s H vs Q E hr h => ?_)
  case len => obtain ⟨a, t, v, rfl, _⟩ := h; rfl
  · obtain ⟨a, t, v, rfl, ht, hv, hz, k⟩ := h
    refine ⟨_, (pss_one (ps_ret (pe_and (pe_g (ok_is_letter (K := K) T) (hr.mono (by decide)) pass0 (pa_cons (pv 1) pa_nil)) (pe_one (pe_cmpR (oInSign) (pv 1) (pe_fldK (K := K) rfl (pv 0) (by rfl)) rfl))))), ?_⟩
    walk_at "rd"
    refine ⟨v, rfl, hv, hz, ?_⟩
    walk_at "rd"
    by_cases hl : isLet v = true
    · rw [hl] at k ⊢
      refine rd_cT rfl ?_
      walk_at "rd"
      cases v with
      | str x =>
        obtain ⟨c, rfl⟩ : ∃ c, x = ⟨#[c]⟩ := by
          by_cases h1 : x.length = 1
          · exact one_sign h1
          · rw [isLet_len h1] at hl; cases hl
        refine rd_fld_at ht.ins T.cText T.na_Text_typed textF_typed ?_
        walk_at "rd"
        have e : (tl (⟨#[c]⟩ : Str)).all (fun c => (tyL t.ss).contains c) = decide (c ∈ tyL t.ss) := by
          rw [show tl (⟨#[c]⟩ : Str) = [c] from rfl]; simp
        simp only [Bool.true_and] at k
        rw [e] at k
        exact k
      | _ => cases hl
    · rw [Bool.eq_false_iff.mpr hl] at k ⊢
      refine rd_cF rfl ?_
      exact k
end
section
variable {P : Program} {w : World} {K : PySem.W.Frag} {mg : Str → Option Value} {base : Heap} {CText CPart CTextError CInvalidStep CInvalidChanges CTooLong CInvalidPlace CInvalidKey CInvalidLetter CInvalidNumber c_x_law_is_changed p_x_law_is_changed c_law p_law : Addr}
theorem ok_moved_step (T : Txt K mg CText CPart CTextError CInvalidStep CInvalidChanges CTooLong CInvalidPlace CInvalidKey CInvalidLetter CInvalidNumber c_x_law_is_changed p_x_law_is_changed c_law p_law) : GOk P w K mg base CX0 1 "moved_step" (sp_moved_step K) := by
  refine T.d_moved_step.ok sc_moved_step (fun vs H Q E h => ?len) (fun f cdv A outer s H vs Q E hr h => ?_)
  case len => obtain ⟨v, n, s, rfl, _⟩ := h; rfl
  · obtain ⟨v, n, s, rfl, ⟨a, rfl, hq⟩, k⟩ := h
    refine ⟨_, (pss_cons (ps_if (pt_cmpR (eqK (K := K) rfl hr.units) (pe_ix (ixK (K := K) rfl) (pv 0) pe_int (fun _ _ => rfl)) pe_str (nomark _)) (pss_one (ps_ret (pv 0)))
    pss_nil)
    (pss_one (ps_ret (pe_tup (pa_cons pe_str (pa_cons (pe_op (addK (K := K) rfl) (pe_ix (ixK (K := K) rfl) (pv 0) pe_int (fun _ _ => rfl)) (pv 1)) (pa_cons (pe_op (addK (K := K) rfl) (pe_ix (ixK (K := K) rfl) (pv 0) pe_int (fun _ _ => rfl)) (pv 1)) (pa_cons (pe_ix (ixK (K := K) rfl) (pv 0) pe_int (fun _ _ => rfl)) pa_nil)))))))), ?_⟩
    walk_at "rd"
    cases s with
    | wr w =>
      refine rd_ixT ?_ hq rfl
      walk_at "rd"
      refine rd_dT rfl ?_
      walk_at "rd"
      exact k H _ (Same.refl _) ⟨a, rfl, hq⟩
    | pa f l t =>
      refine rd_ixT ?_ hq rfl
      walk_at "rd"
      refine rd_dF (by decide +kernel) ?_
      walk_at "rd"
      refine rd_ixT ?_ hq rfl
      walk_at "rd"
      refine rd_ixT ?_ hq rfl
      walk_at "rd"
      refine rd_ixT ?_ hq rfl
      walk_at "rd"
      refine ⟨four_line, fun p hp => k _ _ (Same.new (Same.refl _) hp) ⟨p, rfl, SqT.of upd_same⟩⟩
end
section
variable {P : Program} {w : World} {K : PySem.W.Frag} {mg : Str → Option Value} {base : Heap} {CText CPart CTextError CInvalidStep CInvalidChanges CTooLong CInvalidPlace CInvalidKey CInvalidLetter CInvalidNumber c_x_law_is_changed p_x_law_is_changed c_law p_law : Addr}
theorem ok_joined (T : Txt K mg CText CPart CTextError CInvalidStep CInvalidChanges CTooLong CInvalidPlace CInvalidKey CInvalidLetter CInvalidNumber c_x_law_is_changed p_x_law_is_changed c_law p_law) : GOk P w K mg base CX0 6 "joined" (sp_joined K CText CPart) := by
  refine T.d_joined.ok sc_joined (fun vs H Q E h => ?len) (fun f cdv A outer s H vs Q E hr h => ?_)
  case len => obtain ⟨a, b, t, u, rfl, _⟩ := h; rfl
  · obtain ⟨a, b, t, u, rfl, ht, hu, ok, few, k⟩ := h
    refine ⟨_, (pss_cons (ps_set (i := 2) sc_joined.nd rfl (Or.inl rfl) (pe_tup (pa_starK (K := K) rfl (pe_fldK (K := K) rfl (pv 0) (by rfl)) (pa_starK (K := K) rfl (pe_lc (own := [("step", 3)]) rfl sc_joined.nd (pi_tupK (K := K) rfl (pe_fldK (K := K) rfl (pv 1) (by rfl))) (blkOk_by (own := [("step", 3)]) (N := N_joined) (sc := (defScope s_joined)) (by first | decide +kernel | rfl)) (fun _ _ _ _ _ => (pg_name (i := 3) sc_joined.nd rfl (Or.inl rfl))) (fun _ _ _ _ _ => pts_nil) (fun _ _ _ _ _ => (pe_g (ok_moved_step (K := K) T) (hr.mono (by decide)) pass0 (pa_cons (pv 3) (pa_cons (pe_fldK (K := K) rfl (pv 0) (by rfl)) pa_nil))))) pa_nil))))
    (pss_one (ps_ret (pe_ks (pe_glob (v := .ref CText) rfl T.g_Text rfl) (ok_Text_init (K := K) T) (hr.mono (by decide)) pass0 (pv 2))))), ?_⟩
    walk_at "rd"
    refine rd_fld_at ht.ins T.cText T.na_Text_made textF_made ?_
    refine ⟨_, _, rfl, .inl ht.made, ?_⟩
    walk_at "rd"
    refine rd_fld_at hu.ins T.cText T.na_Text_made textF_made ?_
    refine ⟨_, rfl, ⟨_, hu.made⟩, fun D hD => lc_rel (Rl := fun i y H => ∀ s, u.ss[i]? = some s → StepAt K H y (mv (sz t.ss) s)) (plain_tup hu.made) hD (by rw [hu.stp.1]; exact Nat.le_trans hu.few (Nat.le_of_lt line30)) (fun _ => rfl) (fun i y H H' l hi e b r s hs => (r s hs).mono' b (free1_lst e)) (fun i H1 Q1 hi S q => ?_) fun H1 ys S eD hl hr => ?_⟩
    · walk_at "rd"
      refine rd_fld_at (S _ _ ht.ins) T.cText T.na_Text_total textF_total ?_
      walk_at "rd"
      have hs : u.ss[i]? = some (u.ss[i]'(by rw [← hu.stp.1]; exact hi)) := List.getElem?_eq_getElem _
      obtain ⟨v, hv, hst⟩ := (hu.stp.mono S).2 i _ hs
      rw [hv]
      exact ⟨v, _, _, rfl, hst, fun H' y S2 hy => q y H' S2 fun s hs' => by rw [hs] at hs'; cases hs'; exact hy⟩
    · refine ⟨_, _, rfl, .inr (SqL.of eD), ?_⟩
      walk_at "rd"
      have hys : StepsAt K H1 ys (u.ss.map (mv (sz t.ss))) := by
        refine ⟨by rw [hl, hu.stp.1, List.length_map], fun j s hj => ?_⟩
        rw [List.getElem?_map] at hj
        obtain ⟨s', hs', rfl⟩ := Option.map_eq_some_iff.mp hj
        obtain ⟨y, hy, r⟩ := hr j (by rw [hu.stp.1]; exact (List.getElem?_eq_some_iff.mp hs').1)
        exact ⟨y, hy, r s' hs'⟩
      have hall := (ht.stp.mono S).append hys
      have hlen := hall.1
      refine ⟨by rw [List.append_nil, hlen]; exact Nat.le_trans few (Nat.le_of_lt line30), fun p hp => ?_⟩
      rw [List.append_nil]
      walk_at "rd"
      have S2 := Same.new (o := .tup (t.ms ++ ys)) S hp
      refine ⟨rfl, ?_⟩
      walk_at "rd"
      refine rd_mkS (.inl (SqT.of upd_same)) (rd_mkText (hall.mono (Same.new (Same.refl _) hp)) ok few fun x Hc z nx S3 hz e => k Hc x z (S2.trans S3) hz e)
end
section
variable {P : Program} {w : World} {K : PySem.W.Frag} {mg : Str → Option Value} {base : Heap} {CText CPart CTextError CInvalidStep CInvalidChanges CTooLong CInvalidPlace CInvalidKey CInvalidLetter CInvalidNumber c_x_law_is_changed p_x_law_is_changed c_law p_law : Addr}
theorem ok_repeated (T : Txt K mg CText CPart CTextError CInvalidStep CInvalidChanges CTooLong CInvalidPlace CInvalidKey CInvalidLetter CInvalidNumber c_x_law_is_changed p_x_law_is_changed c_law p_law) : GOk P w K mg base CX0 6 "repeated" (sp_repeated K CText CPart) := by
  refine T.d_repeated.ok sc_repeated (fun vs H Q E h => ?len) (fun f cdv A outer s H vs Q E hr h => ?_)
  case len => obtain ⟨a, t, n, rfl, _⟩ := h; rfl
  · obtain ⟨a, t, n, rfl, ht, hn, hn2, ok, few, k⟩ := h
    refine ⟨_, (pss_cons (ps_if (PW.pt (pw_or (pt_cmpR (eqK (K := K) rfl hr.units) (pv 1) pe_int (nomark _)) (pw_or1 (pt_cmpR (eqK (K := K) rfl hr.units) (pe_fldK (K := K) rfl (pv 0) (by rfl)) pe_int (nomark _))))) (pss_one (ps_ret (pv 0)))
    pss_nil)
    (pss_cons (ps_set (i := 2) sc_repeated.nd rfl (Or.inl rfl) (pe_tup (pa_starK (K := K) rfl (pe_fldK (K := K) rfl (pv 0) (by rfl)) (pa_cons (pe_tup (pa_cons pe_str (pa_cons pe_int (pa_cons (pe_op op_sub (pe_fldK (K := K) rfl (pv 0) (by rfl)) pe_int) (pa_cons (pe_op op_sub (pv 1) pe_int) pa_nil))))) pa_nil))))
    (pss_one (ps_ret (pe_ks (pe_glob (v := .ref CText) rfl T.g_Text rfl) (ok_Text_init (K := K) T) (hr.mono (by decide)) pass0 (pv 2)))))), ?_⟩
    walk_at "rd"
    refine rd_ite (fun h1 => ?_) (fun h1 => ?_)
    · refine rd_cT rfl ?_
      walk_at "rd"
      exact k H a t (Same.refl _) ht (by unfold mulS; rw [if_pos (.inl (by omega))])
    · walk_at "rd"
      refine rd_fld_at ht.ins T.cText T.na_Text_total textF_total ?_
      walk_at "rd"
      refine rd_ite (fun h2 => ?_) (fun h2 => ?_)
      · walk_at "rd"
        exact k H a t (Same.refl _) ht (by unfold mulS; rw [if_pos (.inr (by omega))])
      · have em : mulS t.ss n = t.ss ++ [.pa 0 (sz t.ss - 1) (n - 1)] := by unfold mulS; rw [if_neg (by omega)]
        rw [em] at ok few
        walk_at "rd"
        refine rd_fld_at ht.ins T.cText T.na_Text_made textF_made ?_
        refine ⟨_, _, rfl, .inl ht.made, ?_⟩
        walk_at "rd"
        refine rd_fld_at ht.ins T.cText T.na_Text_total textF_total ?_
        walk_at "rd"
        refine ⟨four_line, fun q hq => ?_⟩
        walk_at "rd"
        have hone : StepAt K (upd H q (.tup [.str "paste", .int 0, .int ((sz t.ss : Nat) - 1), .int ((n : Nat) - 1)])) (.ref q) (.pa 0 (sz t.ss - 1) (n - 1)) := by
          refine ⟨q, rfl, ?_⟩
          rw [show stV (.pa 0 (sz t.ss - 1) (n - 1)) = [.str "paste", .int 0, .int ((sz t.ss : Nat) - 1), .int ((n : Nat) - 1)] by
            simp only [stV]; rw [Int.natCast_sub (by omega), Int.natCast_sub (by omega)]; rfl]
          exact SqT.of upd_same
        have S1 : Same H (upd H q (.tup [.str "paste", .int 0, .int ((sz t.ss : Nat) - 1), .int ((n : Nat) - 1)])) := Same.new (Same.refl _) hq
        have hall := (ht.stp.mono S1).append hone.one'
        have hlen := hall.1
        refine ⟨by rw [hlen]; exact Nat.le_trans few (Nat.le_of_lt line30), fun p hp => ?_⟩
        walk_at "rd"
        have S2 := Same.new (o := .tup (t.ms ++ [.ref q])) S1 hp
        refine ⟨rfl, ?_⟩
        walk_at "rd"
        refine rd_mkS (.inl (SqT.of upd_same)) (rd_mkText (hall.mono (Same.new (Same.refl _) hp)) ok few fun x Hc z nx S3 hz e => k Hc x z (S2.trans S3) hz (e.trans em.symm))
end
section
variable {P : Program} {w : World} {K : PySem.W.Frag} {mg : Str → Option Value} {base : Heap} {CText CPart CTextError CInvalidStep CInvalidChanges CTooLong CInvalidPlace CInvalidKey CInvalidLetter CInvalidNumber c_x_law_is_changed p_x_law_is_changed c_law p_law : Addr}
theorem ok_Text_add (T : Txt K mg CText CPart CTextError CInvalidStep CInvalidChanges CTooLong CInvalidPlace CInvalidKey CInvalidLetter CInvalidNumber c_x_law_is_changed p_x_law_is_changed c_law p_law) : XOk P w K mg base CX0 7 (BOwn K CText (PySem.dunder (Operator.Add).info.2)) (sp_Text_add K CText CPart) := by
  refine T.d_Text_add.ok sc_Text_add (fun vs H Q E h => ?len) (fun f cdv A outer s H vs Q E hr h => ?_)
  case len => obtain ⟨a, b, t, u, rfl, _⟩ := h; rfl
  · have h' := h
    obtain ⟨a, b, t, u, rfl, _⟩ := h'
    refine ⟨_, (pss_one (ps_ret (pe_g (ok_joined (K := K) T) (hr.mono (by decide)) pass0 (pa_cons (pv 0) (pa_cons (pv 1) pa_nil))))), ?_⟩
    walk_at "rd"
    exact h
end
section
variable {P : Program} {w : World} {K : PySem.W.Frag} {mg : Str → Option Value} {base : Heap} {CText CPart CTextError CInvalidStep CInvalidChanges CTooLong CInvalidPlace CInvalidKey CInvalidLetter CInvalidNumber c_x_law_is_changed p_x_law_is_changed c_law p_law : Addr}
theorem ok_Text_mul (T : Txt K mg CText CPart CTextError CInvalidStep CInvalidChanges CTooLong CInvalidPlace CInvalidKey CInvalidLetter CInvalidNumber c_x_law_is_changed p_x_law_is_changed c_law p_law) : XOk P w K mg base CX0 7 (BOwnI K CText .Mult) (sp_Text_mul K CText CPart) := by
  refine T.d_Text_mul.ok sc_Text_mul (fun vs H Q E h => ?len) (fun f cdv A outer s H vs Q E hr h => ?_)
  case len => obtain ⟨a, t, n, rfl, _⟩ := h; rfl
  · have h' := h
    obtain ⟨a, t, n, rfl, ht, hn, hn2, _⟩ := h'
    obtain ⟨t_MAX_TIMES, h_MAX_TIMES⟩ := T.k_MAX_TIMES; refine ⟨_, (pss_cons (ps_if (pt_not (pt_val (pe_g (ok_is_integer (K := K) T) (hr.mono (by decide)) pass0 (pa_cons (pv 1) (pa_cons pe_int (pa_cons (pe_glob (v := .int 1000000000) rfl h_MAX_TIMES ⟨_, rfl⟩) pa_nil)))))) (pss_one ps_never)
    pss_nil)
    (pss_one (ps_ret (pe_g (ok_repeated (K := K) T) (hr.mono (by decide)) pass0 (pa_cons (pv 0) (pa_cons (pv 1) pa_nil)))))), ?_⟩
    walk_at "rd"
    refine ⟨_, _, _, rfl, trivial, ?_⟩
    rw [show isInt 1 1000000000 (.int n) = true from decide_eq_true (by omega)]
    walk_at "rd"
    refine rd_cF rfl ?_
    walk_at "rd"
    exact h
end
section
variable {P : Program} {w : World} {K : PySem.W.Frag} {mg : Str → Option Value} {base : Heap} {CText CPart CTextError CInvalidStep CInvalidChanges CTooLong CInvalidPlace CInvalidKey CInvalidLetter CInvalidNumber c_x_law_is_changed p_x_law_is_changed c_law p_law : Addr}
theorem ok_Text_retyped (T : Txt K mg CText CPart CTextError CInvalidStep CInvalidChanges CTooLong CInvalidPlace CInvalidKey CInvalidLetter CInvalidNumber c_x_law_is_changed p_x_law_is_changed c_law p_law) : MOk P w K mg base CX0 6 CText "retyped" (sp_Text_retyped K CText CPart) := by
  refine T.d_Text_retyped.ok sc_Text_retyped (fun vs H Q E h => ?len) (fun f cdv A outer s H vs Q E hr h => ?_)
  case len => obtain ⟨a, t, k, c, rfl, _⟩ := h; rfl
  · obtain ⟨a, t, k, c, rfl, ht, hk, hc1, hc2, q⟩ := h
    refine ⟨_, (pss_cons (ps_expr (pe_m (pv 0) T.cText (ok_Text_check_key (K := K) T) (hr.mono (by decide)) pass0 (pa_cons (pv 1) pa_nil)))
    (pss_cons (ps_if (pt_not (pt_val (pe_g (ok_is_letter (K := K) T) (hr.mono (by decide)) pass0 (pa_cons (pv 2) pa_nil)))) (pss_one ps_never)
    pss_nil)
    (pss_cons (ps_par (i := 3) (j := 4) rfl sc_Text_retyped.nd rfl rfl (by decide) rfl rfl (pa_cons (pe_lst pa_nil) (pa_cons pe_int pa_nil)) rfl)
    (pss_cons (ps_for PassesOwn.never rfl (pi_tupK (K := K) rfl (pe_fldK (K := K) rfl (pv 0) (by rfl))) (pg_name (i := 5) sc_Text_retyped.nd rfl (Or.inl rfl)) (pss_cons (ps_if (pt_cmpR (eqK (K := K) rfl hr.units) (pe_ix (ixK (K := K) rfl) (pv 5) pe_int (fun _ _ => rfl)) pe_str (nomark _)) (pss_cons (ps_set (i := 6) sc_Text_retyped.nd rfl (Or.inl rfl) (pe_op op_sub (pv 1) (pv 4)))
    (pss_cons (ps_set (i := 7) sc_Text_retyped.nd rfl (Or.inl rfl) (pe_ix (ixK (K := K) rfl) (pv 5) pe_int (fun _ _ => rfl)))
    (pss_cons (ps_if (pt_chain op_le op_lt pe_int (pv 6) (pe_callB (lenK (K := K) rfl) rfl T.n_len (by decide +kernel) (pa_cons (pv 7) pa_nil))) (pss_one (ps_set (i := 5) sc_Text_retyped.nd rfl (Or.inl rfl) (pe_tup (pa_cons pe_str (pa_cons (pe_op (addK (K := K) rfl) (pe_op (addK (K := K) rfl) (pe_slice sl_str (pv 7) po_none (po_some (pv 6))) (pv 2)) (pe_slice sl_str (pv 7) (po_some (pe_op (addK (K := K) rfl) (pv 6) pe_int)) po_none)) pa_nil)))))
    pss_nil)
    (pss_one (ps_aug (i := 4) sc_Text_retyped.nd rfl (Or.inl rfl) (pe_callB (lenK (K := K) rfl) rfl T.n_len (by decide +kernel) (pa_cons (pv 7) pa_nil)) ip_add)))))
    pss_nil)
    (pss_one (ps_expr (pe_bmK (K := K) rfl PySem.F.plainAttrs_list PySem.F.slot_list_append PySem.F.type_list_append mt_append (pv 3) (pa_cons (pv 5) pa_nil))))))
    (pss_one (ps_ret (pe_ks (pe_glob (v := .ref CText) rfl T.g_Text rfl) (ok_Text_init (K := K) T) (hr.mono (by decide)) pass0 (pv 3)))))))), ?_⟩
    walk_at "rd"
    refine rd_m_at ht.insM ?_
    walk_at "rd"
    refine ⟨a, t, _, rfl, ht, trivial, decide_eq_true (by omega), ?_⟩
    walk_at "rd"
    refine ⟨_, rfl, trivial, fun x ex => by cases ex; exact sign_small _, ?_⟩
    rw [show isLet (.str ⟨#[c]⟩) = true from decide_eq_true ⟨hc1, hc2⟩]
    walk_at "rd"
    refine rd_cF rfl ?_
    walk_at "rd"
    refine ⟨Nat.zero_le _, fun l hl => ?_⟩
    walk_at "rd"
    refine rd_fld_at (lk_new hl ht.ins) T.cText T.na_Text_made textF_made ?_
    have S1 : Same H (upd H l (.lst [])) := Same.new (Same.refl _) hl
    refine ⟨_, rfl, ⟨_, Same.tup S1 ht.made⟩, for_tup (xs := t.ms) (RtPv K H a l k c t.ss) ⟨[], _, _, _, rfl, S1, hl, upd_same, rfl, fun j s hj => by simp [rt] at hj⟩ (fun i σ H' _ ⟨_, _, _, _, _, S, _⟩ => Same.tup S ht.made) ?_ ?_⟩
    · rintro i v σ H' hv ⟨ys, v5, v6, v7, rfl, S, _, hl', hys⟩
      obtain ⟨s', hs, a', rfl, hq⟩ := ht.stp.at hv
      have hq' := Same.tup S hq
      have ok' := (ok_at ht.ok hs).1
      have few := ht.few
      walk_at "rd"
      cases s' with
      | wr w =>
        have w20 := ok'.2.1
        have wz : w.length ≤ sizeLine := str_small w20
        have lw := len_tl w
        refine rd_ixT ?_ hq' rfl
        walk_at "rd"
        refine rd_dT rfl ?_
        walk_at "rd"
        refine rd_ixT ?_ hq' rfl
        walk_at "rd"
        refine rd_ite (fun h1 => ?_) (fun h1 => ?_)
        · walk_at "rd"
          refine rd_len_str wz ?_
          walk_at "rd"
          refine rd_ite (fun h2 => ?_) (fun h2 => ?_)
          · walk_at "rd"
            refine rd_slS wz ?_
            walk_at "rd"
            refine rd_add_str ?_ ?_
            · have := cutS_length w none (some ((k : Int) - ((tyL (t.ss.take i)).length : Nat)))
              have e1 : (⟨#[c]⟩ : Str).length = 1 := rfl
              have := twenty_line
              omega
            walk_at "rd"
            refine rd_slS wz ?_
            walk_at "rd"
            refine rd_add_str ?_ ?_
            · have h3 := cutS_length w none (some ((k : Int) - ((tyL (t.ss.take i)).length : Nat)))
              have h4 := cutS_length w (some ((k : Int) - ((tyL (t.ss.take i)).length : Nat) + 1)) none
              have e1 : (⟨#[c]⟩ : Str).length = 1 := rfl
              have := twenty_line
              rw [str_len_app]
              omega
            walk_at "rd"
            refine ⟨two_line, fun p hp => ?_⟩
            walk_at "rd"
            refine rd_len_str wz ?_
            walk_at "rd"
            have S2 := Same.new (o := .tup [.str "write", .str (cutS w none (some ((k : Int) - ((tyL (t.ss.take i)).length : Nat))) ++ ⟨#[c]⟩ ++ cutS w (some ((k : Int) - ((tyL (t.ss.take i)).length : Nat) + 1)) none)]) (Same.refl H') hp
            refine rd_tyL (SqL.of (S2 _ _ hl')) _ ?_
            walk_at "rd"
            refine RtPv.next (ss := t.ss) (n := (tyL (t.ss.take i)).length + w.length) hs (S.trans S2) hl (S2 _ _ hl') (hys.mono S2) ?_ few (by simp only [ty1]; omega) fun H2 z => z
            have ek : (k : Int) - ((tyL (t.ss.take i)).length : Nat) = ((k - (tyL (t.ss.take i)).length : Nat) : Int) := by omega
            rw [ek, word_set (by omega)]
            have er : rt1 k c (tyL (t.ss.take i)).length (.wr w) = .wr (mkS ((tl w).set (k - (tyL (t.ss.take i)).length) c)) := by simp only [rt1]; rw [if_pos (by omega)]
            rw [er]
            exact SqT.of upd_same
          · walk_at "rd"
            refine rd_len_str wz ?_
            walk_at "rd"
            refine rd_tyL (SqL.of hl') _ ?_
            walk_at "rd"
            refine RtPv.next (ss := t.ss) (n := (tyL (t.ss.take i)).length + w.length) hs S hl hl' hys ?_ few (by simp only [ty1]; omega) fun H2 z => z
            have er : rt1 k c (tyL (t.ss.take i)).length (.wr w) = .wr w := by simp only [rt1]; rw [if_neg (by omega)]
            rw [er]
            exact hq'
        · walk_at "rd"
          refine rd_cF rfl ?_
          walk_at "rd"
          refine rd_len_str wz ?_
          walk_at "rd"
          refine rd_tyL (SqL.of hl') _ ?_
          walk_at "rd"
          refine RtPv.next (ss := t.ss) (n := (tyL (t.ss.take i)).length + w.length) hs S hl hl' hys ?_ few (by simp only [ty1]; omega) fun H2 z => z
          have er : rt1 k c (tyL (t.ss.take i)).length (.wr w) = .wr w := by simp only [rt1]; rw [if_neg (by omega)]
          rw [er]
          exact hq'
      | pa f l' u =>
        refine rd_ixT ?_ hq' rfl
        walk_at "rd"
        refine rd_dF (by decide +kernel) ?_
        walk_at "rd"
        refine rd_tyL (SqL.of hl') _ ?_
        walk_at "rd"
        exact RtPv.next (ss := t.ss) (n := (tyL (t.ss.take i)).length) hs S hl hl' hys hq' few (by simp only [ty1, List.length_nil]; omega) fun H2 z => z
    · rintro σ H' ⟨ys, v5, v6, v7, rfl, S, _, hl', hys⟩
      rw [ht.stp.1, List.take_length] at hys
      walk_at "rd"
      refine ⟨rfl, ?_⟩
      walk_at "rd"
      exact rd_mkS (.inr (SqL.of hl')) (rd_mkText hys (ok_rt ⟨hc1, hc2⟩ 0 0 _ ht.ok) (by rw [rt_length]; exact ht.few) fun x Hc z nx S2 T e => q Hc x z (S.trans S2) T e)
end

section
variable {P : Program} {w : World} {K : PySem.W.Frag} {mg : Str → Option Value} {base : Heap} {CText CPart CTextError CInvalidStep CInvalidChanges CTooLong CInvalidPlace CInvalidKey CInvalidLetter CInvalidNumber c_x_law_is_changed p_x_law_is_changed c_law p_law : Addr}
theorem ok_x_law_taken (T : Txt K mg CText CPart CTextError CInvalidStep CInvalidChanges CTooLong CInvalidPlace CInvalidKey CInvalidLetter CInvalidNumber c_x_law_is_changed p_x_law_is_changed c_law p_law) : GOk P w K mg base CX0 1 "_law_taken" (sp_x_law_taken K) := by
  refine T.d_x_law_taken.ok sc_x_law_taken (fun vs H Q E h => ?len) (fun f cdv A outer s H vs Q E hr h => ?_)
  case len => obtain ⟨r, many, rfl, _⟩ := h; rfl
  · obtain ⟨r, many, rfl, ⟨sa, sc, i, sd, e, hr', hsc⟩, m1, m2, k⟩ := h
    refine ⟨_, (pss_cons (ps_if (pt_cmpR op_gt (pe_ix (ixK (K := K) rfl) (pv 0) pe_int (fun _ _ => rfl)) pe_int (nomark _)) (pss_cons (ps_set (i := 2) sc_x_law_taken.nd rfl (Or.inl rfl) (pe_op op_mod (pe_callTy cInt rfl T.n_int (by decide +kernel) (pa_cons (pe_ix (ixK (K := K) rfl) (pv 0) pe_int (fun _ _ => rfl)) pa_nil)) (pv 1)))
    (pss_cons (ps_asg (pe_op op_fdiv (pe_ix (ixK (K := K) rfl) (pv 0) pe_int (fun _ _ => rfl)) (pv 1)) (pg_sub (pv 0) pe_int set_list))
    (pss_one (ps_ret (pv 2)))))
    pss_nil)
    (pss_cons (ps_asg (pe_op (addK (K := K) rfl) (pe_ix (ixK (K := K) rfl) (pv 0) pe_int (fun _ _ => rfl)) pe_int) (pg_sub (pv 0) pe_int set_list))
    (pss_cons (ps_if (pt_cmpR op_gt (pe_ix (ixK (K := K) rfl) (pv 0) pe_int (fun _ _ => rfl)) (pe_callB (lenK (K := K) rfl) rfl T.n_len (by decide +kernel) (pa_cons (pe_ix (ixK (K := K) rfl) (pv 0) pe_int (fun _ _ => rfl)) pa_nil)) (nomark _)) (pss_cons (ps_asg (pe_op op_mod (pe_callTy cInt rfl T.n_int (by decide +kernel) (pa_cons (pe_op (addK (K := K) rfl) (pe_op oMul (pe_ix (ixK (K := K) rfl) (pv 0) pe_int (fun _ _ => rfl)) pe_int) pe_int) pa_nil)) pe_int) (pg_sub (pv 0) pe_int set_list))
    (pss_one (ps_ret (pe_op op_mod (pe_callTy cInt rfl T.n_int (by decide +kernel) (pa_cons (pe_op op_fdiv (pe_ix (ixK (K := K) rfl) (pv 0) pe_int (fun _ _ => rfl)) pe_int) pa_nil)) (pv 1)))))
    pss_nil)
    (pss_cons (ps_set (i := 3) sc_x_law_taken.nd rfl (Or.inl rfl) (pe_ix (ixK (K := K) rfl) (pe_ix (ixK (K := K) rfl) (pv 0) pe_int (fun _ _ => rfl)) (pe_op op_sub (pe_ix (ixK (K := K) rfl) (pv 0) pe_int (fun _ _ => rfl)) pe_int) (fun _ _ => rfl)))
    (pss_cons (ps_asg (pe_op op_mod (pe_callTy cInt rfl T.n_int (by decide +kernel) (pa_cons (pe_op (addK (K := K) rfl) (pe_op (addK (K := K) rfl) (pe_op oMul (pe_ix (ixK (K := K) rfl) (pv 0) pe_int (fun _ _ => rfl)) pe_int) (pv 3)) pe_int) pa_nil)) pe_int) (pg_sub (pv 0) pe_int set_list))
    (pss_cons (ps_if (pt_cmpR op_ge (pv 3) (pe_op op_pow pe_int pe_int) (nomark _)) (pss_one (ps_asg (pe_op op_fdiv (pv 3) (pv 1)) (pg_sub (pv 0) pe_int set_list)))
    pss_nil)
    (pss_one (ps_ret (pe_op op_mod (pe_callTy cInt rfl T.n_int (by decide +kernel) (pa_cons (pv 3) pa_nil)) (pv 1)))))))))), ?_⟩
    walk_at "rd"
    refine rd_ixI ?_ (SqL.of hr') rfl
    walk_at "rd"
    refine rd_ite (fun h1 => ?_) (fun h1 => ?_)
    · walk_at "rd"
      refine rd_ixI ?_ (SqL.of hr') rfl
      walk_at "rd"
      refine rd_I (by omega) ?_
      walk_at "rd"
      refine rd_ixI ?_ (SqL.of hr') rfl
      walk_at "rd"
      refine rd_I ⟨by omega, by omega⟩ ?_
      walk_at "rd"
      refine rd_setL (j := 3) hr' rfl ?_
      walk_at "rd"
      obtain ⟨a1, a2, a3⟩ := row_put (j := i) (s' := sd) (e' := e / (many : Nat)) Kp.refl hr' hsc
      exact take_fin m1 e fun n hn => k n _ hn a1 ⟨sa, sc, _, _, _, a2, a3⟩
    · walk_at "rd"
      refine rd_ixI ?_ (SqL.of hr') rfl
      walk_at "rd"
      refine rd_setL (j := 1) hr' rfl ?_
      walk_at "rd"
      obtain ⟨a1, a2, a3⟩ := row_put (j := i + 1) (s' := sd) (e' := e) Kp.refl hr' hsc
      rw [show ([V.ref sa, .int i, .int sd, .int e].set 1 (.int ((i : Int) + 1))) = [V.ref sa, .int (i + 1 : Nat), .int sd, .int e] from rfl]
      revert a1 a2 a3
      generalize upd H r (.lst [V.ref sa, .int (i + 1 : Nat), .int sd, .int e]) = Ha
      intro a1 a2 a3
      refine rd_ixI ?_ (SqL.of a2) rfl
      walk_at "rd"
      refine rd_ixI ?_ (SqL.of a2) rfl
      walk_at "rd"
      refine rd_len_lst a3 ?_
      walk_at "rd"
      rw [List.length_map]
      refine rd_ite (fun h2 => ?_) (fun h2 => ?_)
      · walk_at "rd"
        refine rd_ixI ?_ (SqL.of a2) rfl
        walk_at "rd"
        refine rd_mul_int (.inr ⟨by decide, by decide⟩) ?_
        walk_at "rd"
        refine rd_I (by decide) ?_
        walk_at "rd"
        refine rd_setL (j := 2) a2 rfl ?_
        walk_at "rd"
        obtain ⟨b1, b2, b3⟩ := row_put (j := i + 1) (s' := (sd * 48271 + 11) % 2147483647) (e' := e) a1 a2 a3
        refine rd_ixI ?_ (SqL.of b2) rfl
        walk_at "rd"
        refine rd_I ⟨by decide, by decide⟩ ?_
        walk_at "rd"
        refine rd_I (by omega) ?_
        exact take_fin m1 _ fun n hn => k n _ hn b1 ⟨sa, sc, _, _, _, b2, b3⟩
      · walk_at "rd"
        refine rd_ixI ?_ (SqL.of a2) rfl
        walk_at "rd"
        refine rd_ixI ?_ (SqL.of a2) rfl
        walk_at "rd"
        rw [show ((i + 1 : Nat) : Int) - 1 = (i : Nat) by omega]
        have hi : i < sc.length := by omega
        refine rd_ixLn a3 (v := .int sc[i]) (by rw [List.getElem?_map, List.getElem?_eq_getElem hi]; rfl) ?_
        walk_at "rd"
        generalize sc[i] = cell
        refine rd_ixI ?_ (SqL.of a2) rfl
        walk_at "rd"
        refine rd_mul_int (.inr ⟨by decide, by decide⟩) ?_
        walk_at "rd"
        refine rd_I (by decide) ?_
        walk_at "rd"
        refine rd_setL (j := 2) a2 rfl ?_
        walk_at "rd"
        obtain ⟨b1, b2, b3⟩ := row_put (j := i + 1) (s' := (sd * 48271 + cell + 11) % 2147483647) (e' := e) a1 a2 a3
        rw [show ([V.ref sa, .int (i + 1 : Nat), .int sd, .int e].set 2 (.int ((sd * 48271 + cell + 11) % 2147483647))) = [V.ref sa, .int (i + 1 : Nat), .int ((sd * 48271 + cell + 11) % 2147483647), .int e] from rfl]
        revert b1 b2 b3
        generalize upd Ha r (.lst [V.ref sa, .int (i + 1 : Nat), .int ((sd * 48271 + cell + 11) % 2147483647), .int e]) = Hb
        intro b1 b2 b3
        refine rd_I ⟨by decide, by decide, by decide⟩ ?_
        walk_at "rd"
        refine rd_ite (fun h3 => ?_) (fun h3 => ?_)
        · walk_at "rd"
          refine rd_I ⟨by omega, by omega⟩ ?_
          walk_at "rd"
          refine rd_setL (j := 3) b2 rfl ?_
          walk_at "rd"
          refine rd_I (by omega) ?_
          obtain ⟨c1, c2, c3⟩ := row_put (j := i + 1) (s' := (sd * 48271 + cell + 11) % 2147483647) (e' := cell / (many : Nat)) b1 b2 b3
          exact take_fin m1 _ fun n hn => k n _ hn c1 ⟨sa, sc, _, _, _, c2, c3⟩
        · walk_at "rd"
          refine rd_I (by omega) ?_
          exact take_fin m1 _ fun n hn => k n _ hn b1 ⟨sa, sc, _, _, _, b2, b3⟩
end
section
variable {P : Program} {w : World} {K : PySem.W.Frag} {mg : Str → Option Value} {base : Heap} {CText CPart CTextError CInvalidStep CInvalidChanges CTooLong CInvalidPlace CInvalidKey CInvalidLetter CInvalidNumber c_x_law_is_changed p_x_law_is_changed c_law p_law : Addr}
theorem ok_x_law_word (T : Txt K mg CText CPart CTextError CInvalidStep CInvalidChanges CTooLong CInvalidPlace CInvalidKey CInvalidLetter CInvalidNumber c_x_law_is_changed p_x_law_is_changed c_law p_law) : GOk P w K mg base CX0 2 "_law_word" (sp_x_law_word K) := by
  refine T.d_x_law_word.ok sc_x_law_word (fun vs H Q E h => ?len) (fun f cdv A outer s H vs Q E hr h => ?_)
  case len => obtain ⟨r, most, rfl, _⟩ := h; rfl
  · obtain ⟨r, most, rfl, row, m1, m2, k⟩ := h
    refine ⟨_, (pss_cons (ps_set (i := 2) sc_x_law_word.nd rfl (Or.inl rfl) pe_str)
    (pss_cons (ps_for PassesOwn.never rfl (pi_range1 rfl T.n_range (pa_cons (pe_op (addK (K := K) rfl) pe_int (pe_g (ok_x_law_taken (K := K) T) (hr.mono (by decide)) pass0 (pa_cons (pv 0) (pa_cons (pv 1) pa_nil)))) pa_nil)) (pg_name (i := 3) sc_x_law_word.nd rfl (Or.inl rfl)) (pss_one (ps_set (i := 2) sc_x_law_word.nd rfl (Or.inl rfl) (pe_op (addK (K := K) rfl) (pv 2) (pe_ix (ixK (K := K) rfl) pe_str (pe_g (ok_x_law_taken (K := K) T) (hr.mono (by decide)) pass0 (pa_cons (pv 0) (pa_cons pe_int pa_nil))) (fun _ _ => rfl))))))
    (pss_one (ps_ret (pv 2))))), ?_⟩
    walk_at "rd"
    refine ⟨r, most, rfl, row, m1, by omega, fun n H1 hn k1 row1 => ?_⟩
    walk_at "rd"
    refine ⟨_, rfl, by omega, by omega, for_range (fun i σ H' => ∃ x v3, σ = [some (.ref r), some (.int (most : Nat)), some (.str x), v3] ∧ Kp H H' ∧ RowAt K H' r ∧ x.length = i ∧ ∀ c ∈ tl x, c = 97 ∨ c = 98 ∨ c = 99 ∨ c = 122) ⟨"", _, rfl, k1, row1, rfl, fun c hc => by cases hc⟩ ?_ ?_⟩
    · rintro i σ H' hi ⟨x, v3, rfl, k2, row2, hx, hc⟩
      walk_at "rd"
      refine ⟨r, 4, rfl, row2, by decide, by decide, fun m H2 hm k3 row3 => ?_⟩
      obtain ⟨c, e1, e2⟩ : ∃ c, (tl ("abcz" : Str))[m]? = some c ∧ (c = 97 ∨ c = 98 ∨ c = 99 ∨ c = 122) := by
        have e : tl ("abcz" : Str) = [97, 98, 99, 122] := by decide +kernel
        rw [e]
        rcases m with _ | _ | _ | _ | m
        · exact ⟨97, rfl, by simp⟩
        · exact ⟨98, rfl, by simp⟩
        · exact ⟨99, rfl, by simp⟩
        · exact ⟨122, rfl, by simp⟩
        · omega
      refine rd_ixSn (Nat.le_trans (show ("abcz" : Str).length ≤ 4 by decide +kernel) four_line) e1 ?_
      have e1' : (⟨#[c]⟩ : Str).length = 1 := rfl
      have e64 := twenty_line
      refine rd_add_str (by omega) ?_
      walk_at "rd"
      refine ⟨x ++ ⟨#[c]⟩, _, rfl, k2.trans k3, row3, by rw [str_len_app]; omega, fun d hd => ?_⟩
      rw [tl_append] at hd
      rcases List.mem_append.mp hd with hd | hd
      · exact hc d hd
      · cases (List.mem_singleton.mp (show d ∈ [c] from hd)); exact e2
    · rintro σ H' ⟨x, v3, rfl, k2, row2, hx, hc⟩
      walk_at "rd"
      exact k x H' ⟨by omega, by omega, hc⟩ k2 row2
end
section
variable {P : Program} {w : World} {K : PySem.W.Frag} {mg : Str → Option Value} {base : Heap} {CText CPart CTextError CInvalidStep CInvalidChanges CTooLong CInvalidPlace CInvalidKey CInvalidLetter CInvalidNumber c_x_law_is_changed p_x_law_is_changed c_law p_law : Addr}
theorem ok_x_law_steps (T : Txt K mg CText CPart CTextError CInvalidStep CInvalidChanges CTooLong CInvalidPlace CInvalidKey CInvalidLetter CInvalidNumber c_x_law_is_changed p_x_law_is_changed c_law p_law) : GOk P w K mg base CX0 3 "_law_steps" (sp_x_law_steps K) := by
  refine T.d_x_law_steps.ok sc_x_law_steps (fun vs H Q E h => ?len) (fun f cdv A outer s H vs Q E hr h => ?_)
  case len => obtain ⟨r, count, most, rfl, _⟩ := h; rfl
  · obtain ⟨r, count, most, rfl, row, hc, m1, m2, k⟩ := h
    refine ⟨_, (pss_cons (ps_par (i := 3) (j := 4) rfl sc_x_law_steps.nd rfl rfl (by decide) rfl rfl (pa_cons (pe_lst pa_nil) (pa_cons pe_int pa_nil)) rfl)
    (pss_cons (ps_for PassesOwn.never rfl (pi_range1 rfl T.n_range (pa_cons (pv 1) pa_nil)) (pg_name (i := 5) sc_x_law_steps.nd rfl (Or.inl rfl)) (pss_one (ps_if (PW.pt (pw_or (pt_cmpR (eqK (K := K) rfl hr.units) (pv 4) pe_int (nomark _)) (pw_or1 (pt_cmpR (eqK (K := K) rfl hr.units) (pe_g (ok_x_law_taken (K := K) T) (hr.mono (by decide)) pass0 (pa_cons (pv 0) (pa_cons pe_int pa_nil))) pe_int (nomark _))))) (pss_cons (ps_set (i := 6) sc_x_law_steps.nd rfl (Or.inl rfl) (pe_g (ok_x_law_word (K := K) T) (hr.mono (by decide)) pass0 (pa_cons (pv 0) (pa_cons (pe_ix (ixK (K := K) rfl) (pe_lst (pa_cons pe_int (pa_cons pe_int (pa_cons pe_int pa_nil)))) (pe_g (ok_x_law_taken (K := K) T) (hr.mono (by decide)) pass0 (pa_cons (pv 0) (pa_cons pe_int pa_nil))) (fun _ _ => rfl)) pa_nil))))
    (pss_one (ps_if (pt_cmpR op_le (pe_op (addK (K := K) rfl) (pv 4) (pe_callB (lenK (K := K) rfl) rfl T.n_len (by decide +kernel) (pa_cons (pv 6) pa_nil))) (pv 2) (nomark _)) (pss_one (ps_par (i := 3) (j := 4) rfl sc_x_law_steps.nd rfl rfl (by decide) rfl rfl (pa_cons (pe_op (addK (K := K) rfl) (pv 3) (pe_lst (pa_cons (pe_tup (pa_cons pe_str (pa_cons (pv 6) pa_nil))) pa_nil))) (pa_cons (pe_op (addK (K := K) rfl) (pv 4) (pe_callB (lenK (K := K) rfl) rfl T.n_len (by decide +kernel) (pa_cons (pv 6) pa_nil))) pa_nil)) rfl))
    pss_nil)))
    (pss_cons (ps_set (i := 7) sc_x_law_steps.nd rfl (Or.inl rfl) (pe_g (ok_x_law_taken (K := K) T) (hr.mono (by decide)) pass0 (pa_cons (pv 0) (pa_cons (pv 4) pa_nil))))
    (pss_cons (ps_set (i := 8) sc_x_law_steps.nd rfl (Or.inl rfl) (pe_op (addK (K := K) rfl) (pv 7) (pe_g (ok_x_law_taken (K := K) T) (hr.mono (by decide)) pass0 (pa_cons (pv 0) (pa_cons (pe_ix (ixK (K := K) rfl) (pe_lst (pa_cons (pe_op op_sub (pv 4) (pv 7)) (pa_cons (pe_callB (cMin2 rfl) rfl T.n_min (by decide +kernel) (pa_cons pe_int (pa_cons (pe_op op_sub (pv 4) (pv 7)) pa_nil))) pa_nil))) (pe_g (ok_x_law_taken (K := K) T) (hr.mono (by decide)) pass0 (pa_cons (pv 0) (pa_cons pe_int pa_nil))) (fun _ _ => rfl)) pa_nil)))))
    (pss_cons (ps_set (i := 9) sc_x_law_steps.nd rfl (Or.inl rfl) (pe_op (addK (K := K) rfl) pe_int (pe_g (ok_x_law_taken (K := K) T) (hr.mono (by decide)) pass0 (pa_cons (pv 0) (pa_cons (pe_ix (ixK (K := K) rfl) (pe_lst (pa_cons pe_int (pa_cons pe_int (pa_cons pe_int pa_nil)))) (pe_g (ok_x_law_taken (K := K) T) (hr.mono (by decide)) pass0 (pa_cons (pv 0) (pa_cons pe_int pa_nil))) (fun _ _ => rfl)) pa_nil)))))
    (pss_one (ps_if (pt_cmpR op_le (pe_op (addK (K := K) rfl) (pv 4) (pe_op oMul (pe_op (addK (K := K) rfl) (pe_op op_sub (pv 8) (pv 7)) pe_int) (pv 9))) (pv 2) (nomark _)) (pss_one (ps_par (i := 3) (j := 4) rfl sc_x_law_steps.nd rfl rfl (by decide) rfl rfl (pa_cons (pe_op (addK (K := K) rfl) (pv 3) (pe_lst (pa_cons (pe_tup (pa_cons pe_str (pa_cons (pv 7) (pa_cons (pv 8) (pa_cons (pv 9) pa_nil))))) pa_nil))) (pa_cons (pe_op (addK (K := K) rfl) (pv 4) (pe_op oMul (pe_op (addK (K := K) rfl) (pe_op op_sub (pv 8) (pv 7)) pe_int) (pv 9))) pa_nil)) rfl))
    pss_nil))))))))
    (pss_one (ps_ret (pe_callTy (tupK (K := K) rfl) rfl T.n_tuple (by decide +kernel) (pa_cons (pv 3) pa_nil)))))), ?_⟩
    walk_at "rd"
    refine ⟨Nat.zero_le _, fun l hl => ?_⟩
    walk_at "rd"
    have S1 : Same H (upd H l (.lst [])) := Same.new (Same.refl _) hl
    refine ⟨_, rfl, by omega, by omega, for_range (LsPv K H r count most) ⟨l, [], [], _, _, _, _, _, rfl, Kp.same S1, row.mono S1, upd_same, StepsAt.nil, trivial, Nat.le_refl _, Nat.zero_le _, fun z _ => absurd z (by decide), fun c hc => by cases hc⟩ ?_ ?_⟩
    · rintro i σ H' hi ⟨l, ms, ss, v5, v6, v7, v8, v9, rfl, k1, row1, hl1, hst, ok, few, hz, h1, hL⟩
      have line := line30
      have hi' : i < count := by omega
      have hms : ms.length = ss.length := hst.1
      refine rd_name ?_
      refine rd_ifOr (fun Hc => Kp H' Hc ∧ RowAt K Hc r) (fun Hc ⟨kc, rowc⟩ => ?_) (fun join => ?_)
      · have hlc := kc _ _ (nr_refs hst.refs) hl1
        have hstc := hst.kp kc
        walk_at "rd"
        refine ⟨three_line, fun p hp => ?_⟩
        walk_at "rd"
        have S1 : Same Hc (upd Hc p (.lst [.int 2, .int 5, .int 20])) := Same.new (Same.refl _) hp
        refine ⟨r, 3, rfl, rowc.mono S1, by decide, by decide, fun n H2 hn k2 row2 => ?_⟩
        obtain ⟨m, em, hm⟩ := pickL (l := [2, 5, 20]) (n := n) hn
        have hm' : 1 ≤ m ∧ m ≤ 20 := by
          simp only [List.mem_cons, List.not_mem_nil, or_false] at hm
          omega
        refine rd_ixLn (SqL.of (k2 _ _ (nr_nats (l := [2, 5, 20])) upd_same)) em ?_
        walk_at "rd"
        refine ⟨r, m, rfl, row2, hm'.1, hm'.2, fun x H3 hx k3 row3 => ?_⟩
        have kt : Kp Hc H3 := ((Kp.same S1).trans k2).trans k3
        have hl3 := kt _ _ (nr_refs hst.refs) hlc
        have hst3 := hstc.kp kt
        have wz : x.length ≤ sizeLine := str_small (Nat.le_trans hx.2.1 hm'.2)
        walk_at "rd"
        refine rd_len_str wz ?_
        walk_at "rd"
        refine rd_ite (fun h2 => ?_) (fun h2 => ?_)
        · walk_at "rd"
          refine ⟨two_line, fun q hq => ?_⟩
          walk_at "rd"
          refine ⟨one_line, fun q2 hq2 => ?_⟩
          have S4 : Same H3 (upd (upd H3 q (.tup [.str "write", .str x])) q2 (.lst [.ref q])) := Same.new (Same.new (Same.refl _) hq) hq2
          refine rd_add_lst (S4 _ _ hl3) upd_same (by simp only [List.length_cons, List.length_nil]; omega) (fun q3 hq3 => ?_)
          walk_at "rd"
          refine rd_len_str wz ?_
          walk_at "rd"
          have S5 := Same.new (o := .lst (ms ++ [.ref q])) S4 hq3
          have hs1 : StepAt K (upd H3 q (.tup [.str "write", .str x])) (.ref q) (.wr x) := ⟨q, rfl, SqT.of upd_same⟩
          have hs2 := hs1.mono (Same.new (o := .lst (ms ++ [.ref q])) (Same.new (o := .lst [.ref q]) (Same.refl _) hq2) hq3)
          rw [show ((sz ss : Nat) : Int) + (x.length : Nat) = ((sz (ss ++ [.wr x]) : Nat) : Int) by rw [sz_snoc]; rfl]
          exact ⟨q3, ms ++ [.ref q], ss ++ [.wr x], _, _, _, _, _, rfl, ((k1.trans kc).trans kt).trans (Kp.same S5), row3.mono S5, upd_same, (hst3.mono S5).snoc hs2, ok_snoc ok (hx.step hm'.2) (by simp only [len1]; omega), by rw [List.length_append]; simp; omega, by rw [sz_snoc]; simp only [len1]; omega, fun _ _ => by rw [sz_snoc]; have := hx.1; simp only [len1]; omega, hL.wr hx⟩
        · walk_at "rd"
          exact ⟨l, ms, ss, _, _, _, _, _, rfl, (k1.trans kc).trans kt, row3, hl3, hst3, ok, by omega, hz, fun _ m20 => by
            rcases Nat.eq_zero_or_pos i with e | e
            · have h3 := hx.2.1
              have : ss.length = 0 := by omega
              have : sz ss = 0 := by rw [List.length_eq_zero_iff.mp this]; rfl
              omega
            · exact h1 e m20, hL⟩
      · walk_at "rd"
        refine rd_ite (fun h0 => join _ ⟨Kp.refl, row1⟩) (fun h0 => ?_)
        walk_at "rd"
        refine ⟨r, 3, rfl, row1, by decide, by decide, fun n H2 hn k2 row2 => ?_⟩
        walk_at "rd"
        refine rd_ite (fun h2 => by have := join _ ⟨k2, row2⟩; rwa [if_pos rfl] at this) (fun h2 => ?_)
        have hz0 : 1 ≤ sz ss := by omega
        clear join
        walk_at "rd"
        refine ⟨r, sz ss, rfl, row2, hz0, by omega, fun fi H3 hfi k3 row3 => ?_⟩
        walk_at "rd"
        refine ⟨two_line, fun p hp => ?_⟩
        walk_at "rd"
        rw [show ((sz ss : Nat) : Int) - (fi : Nat) = ((sz ss - fi : Nat) : Int) by omega]
        rw [show (if ((sz ss - fi : Nat) : Int) < 4 then ((sz ss - fi : Nat) : Int) else 4) = ((min 4 (sz ss - fi) : Nat) : Int) by split <;> omega]
        have S1 : Same H3 (upd H3 p (.lst ([sz ss - fi, min 4 (sz ss - fi)].map fun m => V.int (m : Nat)))) := Same.new (Same.refl _) hp
        refine ⟨r, 2, rfl, row3.mono S1, by decide, by decide, fun n2 H4 hn2 k4 row4 => ?_⟩
        obtain ⟨m, em, hm⟩ := pickL (l := [sz ss - fi, min 4 (sz ss - fi)]) (n := n2) hn2
        have hm' : 1 ≤ m ∧ m ≤ sz ss - fi := by
          simp only [List.mem_cons, List.not_mem_nil, or_false] at hm
          omega
        clear hm
        refine rd_ixLn (SqL.of (k4 _ _ nr_nats upd_same)) em ?_
        walk_at "rd"
        refine ⟨r, m, rfl, row4, hm'.1, by omega, fun la H5 hla k5 row5 => ?_⟩
        walk_at "rd"
        refine ⟨three_line, fun p2 hp2 => ?_⟩
        walk_at "rd"
        have S2 : Same H5 (upd H5 p2 (.lst ([1, 3, 9].map fun m => V.int (m : Nat)))) := Same.new (Same.refl _) hp2
        refine ⟨r, 3, rfl, row5.mono S2, by decide, by decide, fun n3 H6 hn3 k6 row6 => ?_⟩
        obtain ⟨m3, em3, hm3⟩ := pickL (l := [1, 3, 9]) (n := n3) hn3
        have hm3' : 1 ≤ m3 ∧ m3 ≤ 9 := by
          simp only [List.mem_cons, List.not_mem_nil, or_false] at hm3
          omega
        clear hm3
        refine rd_ixLn (SqL.of (k6 _ _ nr_nats upd_same)) em3 ?_
        walk_at "rd"
        refine ⟨r, m3, rfl, row6, hm3'.1, by omega, fun ti H7 hti k7 row7 => ?_⟩
        have kt : Kp H' H7 := ((((((k2.trans k3).trans (Kp.same S1)).trans k4).trans k5).trans (Kp.same S2)).trans k6).trans k7
        have hl7 := kt _ _ (nr_refs hst.refs) hl1
        have hst7 := hst.kp kt
        walk_at "rd"
        rw [show ((fi : Nat) : Int) + (la : Nat) = ((fi + la : Nat) : Int) by omega, show (1 : Int) + (ti : Nat) = ((1 + ti : Nat) : Int) by omega]
        have el : ((fi + la : Nat) : Int) - (fi : Nat) + 1 = ((fi + la - fi + 1 : Nat) : Int) := by omega
        rw [el]
        refine rd_mul_int (.inr ⟨by omega, by omega⟩) ?_
        rw [← Int.natCast_mul]
        walk_at "rd"
        refine rd_ite (fun h3 => ?_) (fun h3 => ?_)
        · walk_at "rd"
          refine ⟨four_line, fun q hq => ?_⟩
          walk_at "rd"
          refine ⟨one_line, fun q2 hq2 => ?_⟩
          have S4 : Same H7 (upd (upd H7 q (.tup [.str "paste", .int (fi : Nat), .int (fi + la : Nat), .int (1 + ti : Nat)])) q2 (.lst [.ref q])) := Same.new (Same.new (Same.refl _) hq) hq2
          refine rd_add_lst (S4 _ _ hl7) upd_same (by simp only [List.length_cons, List.length_nil]; omega) (fun q3 hq3 => ?_)
          walk_at "rd"
          rw [el]
          refine rd_mul_int (.inr ⟨by omega, by omega⟩) ?_
          rw [← Int.natCast_mul]
          walk_at "rd"
          have S5 := Same.new (o := .lst (ms ++ [.ref q])) S4 hq3
          have hs1 : StepAt K (upd H7 q (.tup [.str "paste", .int (fi : Nat), .int (fi + la : Nat), .int (1 + ti : Nat)])) (.ref q) (.pa fi (fi + la) (1 + ti)) := ⟨q, rfl, SqT.of upd_same⟩
          have hs2 := hs1.mono (Same.new (o := .lst (ms ++ [.ref q])) (Same.new (o := .lst [.ref q]) (Same.refl _) hq2) hq3)
          have ez : len1 (.pa fi (fi + la) (1 + ti)) = (fi + la - fi + 1) * (1 + ti) := rfl
          have h3' : sz ss + (fi + la - fi + 1) * (1 + ti) ≤ most := by omega
          rw [show ((sz ss : Nat) : Int) + (((fi + la - fi + 1) * (1 + ti) : Nat) : Int) = ((sz (ss ++ [.pa fi (fi + la) (1 + ti)]) : Nat) : Int) by rw [sz_snoc, ez]; omega]
          exact ⟨q3, ms ++ [.ref q], ss ++ [.pa fi (fi + la) (1 + ti)], _, _, _, _, _, rfl, (k1.trans kt).trans (Kp.same S5), row7.mono S5, upd_same, (hst7.mono S5).snoc hs2, ok_snoc ok (show okStep (sz ss) (.pa fi (fi + la) (1 + ti)) from ⟨by omega, by omega, by omega, by omega⟩) (by rw [ez]; omega), by rw [List.length_append]; simp; omega, by rw [sz_snoc, ez]; exact h3', fun _ _ => by rw [sz_snoc]; omega, hL.pa⟩
        · walk_at "rd"
          exact ⟨l, ms, ss, _, _, _, _, _, rfl, k1.trans kt, row7, hl7, hst7, ok, by omega, hz, fun _ _ => hz0, hL⟩
    · rintro σ H' ⟨l, ms, ss, v5, v6, v7, v8, v9, rfl, k1, row1, hl1, hst, ok, few, hz, h1, hL⟩
      walk_at "rd"
      refine rd_tuple_lst (SqL.of hl1) fun p hp => ?_
      have S2 : Same H' (upd H' p (.tup ms)) := Same.new (Same.refl _) hp
      exact k p ms ss _ (k1.trans (Kp.same S2)) (row1.mono S2) (SqT.of upd_same) (hst.mono S2) ok (by omega) hz (fun z m20 => h1 (by omega) m20) hL
end

section
variable {P : Program} {w : World} {K : PySem.W.Frag} {mg : Str → Option Value} {base : Heap} {CText CPart CTextError CInvalidStep CInvalidChanges CTooLong CInvalidPlace CInvalidKey CInvalidLetter CInvalidNumber c_x_law_is_changed p_x_law_is_changed c_law p_law : Addr}
theorem ok_x_law_alikeN (T : Txt K mg CText CPart CTextError CInvalidStep CInvalidChanges CTooLong CInvalidPlace CInvalidKey CInvalidLetter CInvalidNumber c_x_law_is_changed p_x_law_is_changed c_law p_law) : ∀ n, GOk P w K mg base CX0 (n + 1) "_law_alike" (sp_x_law_alikeX K n)
  | 0 => by
    refine T.d_x_law_alike.ok sc_x_law_alike (fun vs H Q E h => ?len) (fun f cdv A outer s H vs Q E hr h => ?_)
    case len => obtain ⟨v, w, rfl, _⟩ := h; rfl
    · obtain ⟨v, w, _, h, _⟩ := h; exact h.elim
  | n + 1 => by
    have ok_x_law_alike := fun (_ : Txt K mg CText CPart CTextError CInvalidStep CInvalidChanges CTooLong CInvalidPlace CInvalidKey CInvalidLetter CInvalidNumber c_x_law_is_changed p_x_law_is_changed c_law p_law) => ok_x_law_alikeN T n
    refine T.d_x_law_alike.ok sc_x_law_alike (fun vs H Q E h => ?len) (fun f cdv A outer s H vs Q E hr h => ?_)
    case len => obtain ⟨v, w, rfl, _⟩ := h; rfl
    · obtain ⟨v, w, rfl, h, k⟩ := h
      refine ⟨_, (pss_cons (ps_if (PW.pt (pw_and (pt_val (pe_callB (isiTK (K := K) rfl) rfl T.n_isinstance (by decide +kernel) (pa_cons (pv 0) (pa_cons (pe_tup (pa_cons (pe_bltn (v := .ty "tuple") rfl T.n_tuple (by decide +kernel) rfl) (pa_cons (pe_bltn (v := .ty "list") rfl T.n_list (by decide +kernel) rfl) pa_nil))) pa_nil)))) (pw_and1 (pt_val (pe_callB (isiTK (K := K) rfl) rfl T.n_isinstance (by decide +kernel) (pa_cons (pv 1) (pa_cons (pe_tup (pa_cons (pe_bltn (v := .ty "tuple") rfl T.n_tuple (by decide +kernel) rfl) (pa_cons (pe_bltn (v := .ty "list") rfl T.n_list (by decide +kernel) rfl) pa_nil))) pa_nil))))))) (pss_cons (ps_if (PW.pt (pw_or (pt_cmpR (neK (K := K) rfl hr.units) (pe_callB (isiK (K := K) rfl) rfl T.n_isinstance (by decide +kernel) (pa_cons (pv 0) (pa_cons (pe_bltn (v := .ty "tuple") rfl T.n_tuple (by decide +kernel) rfl) pa_nil))) (pe_callB (isiK (K := K) rfl) rfl T.n_isinstance (by decide +kernel) (pa_cons (pv 1) (pa_cons (pe_bltn (v := .ty "tuple") rfl T.n_tuple (by decide +kernel) rfl) pa_nil))) (nomark _)) (pw_or1 (pt_cmpR (neK (K := K) rfl hr.units) (pe_callB (lenK (K := K) rfl) rfl T.n_len (by decide +kernel) (pa_cons (pv 0) pa_nil)) (pe_callB (lenK (K := K) rfl) rfl T.n_len (by decide +kernel) (pa_cons (pv 1) pa_nil)) (nomark _))))) (pss_one (ps_ret pe_bl))
    pss_nil)
    (pss_one (ps_ret (pe_cmpR (eqK (K := K) rfl hr.units) (pe_lc (own := [("_law_k", 2)]) rfl sc_x_law_alike.nd (pi_range1 rfl T.n_range (pa_cons (pe_callB (lenK (K := K) rfl) rfl T.n_len (by decide +kernel) (pa_cons (pv 0) pa_nil)) pa_nil)) (blkOk_by (own := [("_law_k", 2)]) (N := N_x_law_alike) (sc := (defScope s_x_law_alike)) (by first | decide +kernel | rfl)) (fun _ _ _ _ _ => (pg_name (i := 2) sc_x_law_alike.nd rfl (Or.inl rfl))) (fun _ _ _ _ _ => (pts_one (pt_not (pt_val (pe_g (ok_x_law_alike T) (hr.mono (by omega)) pass0 (pa_cons (pe_ix (ixK (K := K) rfl) (pv 0) (pv 2) (fun _ _ => rfl)) (pa_cons (pe_ix (ixK (K := K) rfl) (pv 1) (pv 2) (fun _ _ => rfl)) pa_nil))))))) (fun _ _ _ _ _ => (pv 2))) (pe_lst pa_nil) (nomark _)))))
    pss_nil)
    (pss_one (ps_ret (pe_and (pe_cmpR (eqK (K := K) rfl hr.units) (pv 0) (pv 1) (nomark _)) (pe_one (pe_cmpR (eqK (K := K) rfl hr.units) (pe_callB (isiK (K := K) rfl) rfl T.n_isinstance (by decide +kernel) (pa_cons (pv 0) (pa_cons (pe_bltn (v := .ty "bool") rfl T.n_bool (by decide +kernel) rfl) pa_nil))) (pe_callB (isiK (K := K) rfl) rfl T.n_isinstance (by decide +kernel) (pa_cons (pv 1) (pa_cons (pe_bltn (v := .ty "bool") rfl T.n_bool (by decide +kernel) rfl) pa_nil))) (nomark _))))))), ?_⟩
      walk_at "rd"
      rcases h with ⟨i, rfl, rfl⟩ | ⟨x, rfl, rfl, hx⟩ | ⟨rfl, rfl⟩ | ⟨a, b, xs, ys, rfl, rfl, hq, hl, hz, hr'⟩
      · refine ⟨two_line, fun p hp => ?_⟩
        walk_at "rd"
        refine rd_isiT (b1 := false) (b2 := false) (b := false) upd_same (TyX.base (.int i)) (by decide +kernel) (by decide +kernel) rfl ?_
        walk_at "rd"
        refine rd_cF rfl (rd_cF rfl ?_)
        walk_at "rd"
        refine rd_dT rfl ?_
        walk_at "rd"
        exact k _ (Same.new (Same.refl _) hp)
      · refine ⟨two_line, fun p hp => ?_⟩
        walk_at "rd"
        refine rd_isiT (b1 := false) (b2 := false) (b := false) upd_same (TyX.base (.str x)) (by decide +kernel) (by decide +kernel) rfl ?_
        walk_at "rd"
        refine rd_cF rfl (rd_cF rfl ?_)
        walk_at "rd"
        refine rd_dT rfl ?_
        walk_at "rd"
        exact k _ (Same.new (Same.refl _) hp)
      · refine ⟨two_line, fun p hp => ?_⟩
        walk_at "rd"
        refine rd_isiT (b1 := false) (b2 := false) (b := false) upd_same (TyX.base .non) (by decide +kernel) (by decide +kernel) rfl ?_
        walk_at "rd"
        refine rd_cF rfl (rd_cF rfl ?_)
        walk_at "rd"
        refine rd_eq_scal rfl ?_
        rw [show decide (V.non = V.non) = true from decide_eq_true rfl]
        walk_at "rd"
        refine rd_cT rfl ?_
        walk_at "rd"
        exact k _ (Same.new (Same.refl _) hp)
      · refine ⟨two_line, fun p hp => ?_⟩
        walk_at "rd"
        have S1 := Same.new (o := .tup [.ty "tuple", .ty "list"]) (Same.refl H) hp
        obtain ⟨W, b0, ta, tb, e1, e2, e3, la, lb⟩ : ∃ (W : String) (b0 : Bool), (∀ H', Same H H' → TyX K H' (.ref a) (.type W)) ∧ (∀ H', Same H H' → TyX K H' (.ref b) (.type W)) ∧ kitB W "tuple" = some b0 ∧ kitB W "list" = some (!b0) ∧ (∀ (H' : Hp) (Q : VK), Same H H' → Q (.bl b0) H' → rIsi K [.ref a, .ty "tuple"] H' Q) ∧ (∀ H', Same H H' → LenV K (.ref a) H' xs.length) ∧ (∀ H', Same H H' → LenV K (.ref b) H' ys.length) := by
          rcases hq with ⟨q1, q2⟩ | ⟨q1, q2⟩
          · exact ⟨"tuple", true, fun H' S => ty_tup (Same.tup S q1), fun H' S => ty_tup (Same.tup S q2), by decide +kernel, by decide +kernel, fun H' Q S q => rd_isi_tup_tuple (Same.tup S q1) q, fun H' S => .inr ⟨_, Same.tup S q1, rfl⟩, fun H' S => .inr ⟨_, Same.tup S q2, rfl⟩⟩
          · exact ⟨"list", false, fun H' S => ty_lst (S.seq q1), fun H' S => ty_lst (S.seq q2), by decide +kernel, by decide +kernel, fun H' Q S q => rd_isi_lst_tuple (S.seq q1) q, fun H' S => .inl ⟨_, S.seq q1, rfl⟩, fun H' S => .inl ⟨_, S.seq q2, rfl⟩⟩
        refine rd_isiT (b := true) upd_same (ta _ S1) e1 e2 (by cases b0 <;> rfl) ?_
        walk_at "rd"
        refine rd_cT rfl ?_
        walk_at "rd"
        refine ⟨two_line, fun p2 hp2 => ?_⟩
        walk_at "rd"
        have S2 := Same.new (o := .tup [.ty "tuple", .ty "list"]) S1 hp2
        refine rd_isiT (b := true) upd_same (tb _ S2) e1 e2 (by cases b0 <;> rfl) ?_
        walk_at "rd"
        refine rd_cT rfl ?_
        walk_at "rd"
        refine rd_isi (.ty _) (ta _ S2) (kit_ty e1) ?_
        walk_at "rd"
        refine rd_isi (.ty _) (tb _ S2) (kit_ty e1) ?_
        walk_at "rd"
        refine rd_nF rfl ?_
        walk_at "rd"
        refine ⟨_, _, rfl, la _ S2, ?_⟩
        walk_at "rd"
        refine ⟨_, _, rfl, lb _ S2, ?_⟩
        walk_at "rd"
        refine rd_nF (by omega) ?_
        walk_at "rd"
        refine ⟨_, _, rfl, la _ S2, ?_⟩
        walk_at "rd"
        have line : xs.length < 2 ^ 62 := by rw [sizeLine_eq] at hz; omega
        refine ⟨_, rfl, by omega, by omega, fun D hD => lc_filt (n := xs.length) (f := fun _ => .non) (p := fun _ => false) (by rw [Int.toNat_natCast]; exact plain_rng) hD hz (fun _ => rfl) (fun i H1 R1 hi S q => ?_) (fun i H1 Q1 hi z => by cases z) fun H1 S eD => ?_⟩
        · have S3 := S2.trans S
          have ex : xs[i]? = some xs[i] := List.getElem?_eq_getElem hi
          have ey : ys[i]? = some (ys[i]'(by omega)) := List.getElem?_eq_getElem _
          rw [show (0 : Int) + (i : Nat) = (i : Nat) by omega]
          have g1 : ∀ (Q : VK), Q xs[i] H1 → rIx K (.ref a) (.int (i : Nat)) H1 Q := fun Q q => by
            rcases hq with ⟨q1, q2⟩ | ⟨q1, q2⟩
            · exact rd_ixTn (Same.tup S3 q1) ex q
            · exact rd_ixLn (S3.seq q1) ex q
          have g2 : ∀ (Q : VK), Q (ys[i]'(by omega)) H1 → rIx K (.ref b) (.int (i : Nat)) H1 Q := fun Q q => by
            rcases hq with ⟨q1, q2⟩ | ⟨q1, q2⟩
            · exact rd_ixTn (Same.tup S3 q2) ey q
            · exact rd_ixLn (S3.seq q2) ey q
          walk_at "rd"
          refine g1 _ ?_
          walk_at "rd"
          refine g2 _ ?_
          walk_at "rd"
          exact ⟨_, _, rfl, (hr' i _ _ ex ey).mono S3, fun H' S4 => by
            walk_at "rd"
            exact q _ S4⟩
        · walk_at "rd"
          refine ⟨Nat.zero_le _, fun p3 hp3 => ?_⟩
          have S4 : Same H1 (upd H1 p3 (.lst [])) := Same.new (Same.refl _) hp3
          have e0 : ((List.range xs.length).filter fun _ => false) = [] := by simp
          rw [e0, List.map_nil] at eD
          exact rd_eq_same (n := 1) (d := .list []) (.lst (SqL.of (S4 _ _ eD)) .nil) (.lst (SqL.of upd_same) .nil) (.lst fun d hd => by cases hd) (by decide) (k _ ((S2.trans S).trans S4))
theorem ok_x_law_alike (T : Txt K mg CText CPart CTextError CInvalidStep CInvalidChanges CTooLong CInvalidPlace CInvalidKey CInvalidLetter CInvalidNumber c_x_law_is_changed p_x_law_is_changed c_law p_law) : GOk P w K mg base CX0 5 "_law_alike" (sp_x_law_alikeX K 4) := ok_x_law_alikeN T 4
end

section
variable {P : Program} {w : World} {K : PySem.W.Frag} {mg : Str → Option Value} {base : Heap} {CText CPart CTextError CInvalidStep CInvalidChanges CTooLong CInvalidPlace CInvalidKey CInvalidLetter CInvalidNumber c_x_law_is_changed p_x_law_is_changed c_law p_law : Addr}
theorem ok_InvalidChanges_init (T : Txt K mg CText CPart CTextError CInvalidStep CInvalidChanges CTooLong CInvalidPlace CInvalidKey CInvalidLetter CInvalidNumber c_x_law_is_changed p_x_law_is_changed c_law p_law) : IOk P w K mg base 1 CInvalidChanges ["self", "index"] (sp_xi1 CInvalidChanges "index") := by
  refine T.d_InvalidChanges_init.ok sc_InvalidChanges_init (fun vs H Q E h => ?len) (fun f cdv A outer s H vs Q E hr h => ?_)
  case len => obtain ⟨a, i, rfl, _⟩ := h; rfl
  · obtain ⟨a, i, rfl, hi, ha, k⟩ := h
    refine ⟨_, (pss_cons (ps_expr (pe_xinitK (K := K) rfl T.xb_TextError (pa_cons (pv 0) (pa_cons (pe_joined (PJ.cons pe_str (PJ.cons (pe_fmt (pv 1)) PJ.nil))) pa_nil))))
    (pss_one (ps_ostK (K := K) rfl (pv 0) (pv 1)))), ?_⟩
    walk_at "rd"
    refine rd_veI ?_
    walk_at "rd"
    refine rd_jlit (by decide +kernel) (rd_jnum rfl hi (by decide +kernel) fun y hy => rd_jnil ?_)
    walk_at "rd"
    refine rd_veI1 T.x_InvalidChanges.oex ha ?_
    refine rd_ost ?_
    walk_at "rd"
    exact rd_ost1 T.x_InvalidChanges.oex (T.x_InvalidChanges.no _ (.head _)) ha k
end

section
variable {P : Program} {w : World} {K : PySem.W.Frag} {mg : Str → Option Value} {base : Heap} {CText CPart CTextError CInvalidStep CInvalidChanges CTooLong CInvalidPlace CInvalidKey CInvalidLetter CInvalidNumber c_x_law_is_changed p_x_law_is_changed c_law p_law : Addr}
theorem gv_x_law_raised {X : Cx} (T : Txt X.K X.mg CText CPart CTextError CInvalidStep CInvalidChanges CTooLong CInvalidPlace CInvalidKey CInvalidLetter CInvalidNumber c_x_law_is_changed p_x_law_is_changed c_law p_law) (g : Addr) (cdg : Value) : Gives X N_x_law_raised "_law_raised" (defScope s_x_law_raised) g cdg (defBody s_x_law_raised) "_law_work"
    (fun tl H Q => tl (fun cls d H' => RzAns X.K CTextError [CInvalidStep, CInvalidChanges, CTooLong, CInvalidPlace, CInvalidKey, CInvalidLetter, CInvalidNumber] cls d H' Q) H fun _ H' => Q .non H') := by
  refine gives_expr (i := 1) (CS := CTextError) sc_x_law_raised.nd rfl rfl rfl T.xb_TextError.g rfl (fun f => rfl) (fun s H hr e oe cls d pn hz hf => (pss_cons (ps_set (i := 2) sc_x_law_raised.nd rfl (Or.inl rfl) (pe_lst (pa_cons (pe_callB (call_isX (K := X.K) rfl hz hf) rfl T.n_isinstance (by decide +kernel) (pa_cons (pv 1) (pa_cons (pe_glob (v := .ref CInvalidStep) rfl T.x_InvalidStep.g rfl) pa_nil))) (pa_cons (pe_callB (call_isX (K := X.K) rfl hz hf) rfl T.n_isinstance (by decide +kernel) (pa_cons (pv 1) (pa_cons (pe_glob (v := .ref CInvalidChanges) rfl T.x_InvalidChanges.g rfl) pa_nil))) (pa_cons (pe_callB (call_isX (K := X.K) rfl hz hf) rfl T.n_isinstance (by decide +kernel) (pa_cons (pv 1) (pa_cons (pe_glob (v := .ref CTooLong) rfl T.x_TooLong.g rfl) pa_nil))) pa_nil)))))
    (pss_cons (ps_set (i := 2) sc_x_law_raised.nd rfl (Or.inl rfl) (pe_op (addK (K := X.K) rfl) (pv 2) (pe_lst (pa_cons (pe_callB (call_isX (K := X.K) rfl hz hf) rfl T.n_isinstance (by decide +kernel) (pa_cons (pv 1) (pa_cons (pe_glob (v := .ref CInvalidPlace) rfl T.x_InvalidPlace.g rfl) pa_nil))) (pa_cons (pe_callB (call_isX (K := X.K) rfl hz hf) rfl T.n_isinstance (by decide +kernel) (pa_cons (pv 1) (pa_cons (pe_glob (v := .ref CInvalidKey) rfl T.x_InvalidKey.g rfl) pa_nil))) (pa_cons (pe_callB (call_isX (K := X.K) rfl hz hf) rfl T.n_isinstance (by decide +kernel) (pa_cons (pv 1) (pa_cons (pe_glob (v := .ref CInvalidLetter) rfl T.x_InvalidLetter.g rfl) pa_nil))) pa_nil))))))
    (pss_cons (ps_expr (pe_bmK (K := X.K) rfl PySem.F.plainAttrs_list PySem.F.slot_list_append PySem.F.type_list_append mt_append (pv 2) (pa_cons (pe_callB (call_isX (K := X.K) rfl hz hf) rfl T.n_isinstance (by decide +kernel) (pa_cons (pv 1) (pa_cons (pe_glob (v := .ref CInvalidNumber) rfl T.x_InvalidNumber.g rfl) pa_nil))) pa_nil)))
    (pss_cons (ps_if (PW.pt (pw_or (pt_cmpR (neK (K := X.K) rfl hr.units) (pe_bmK (K := X.K) rfl PySem.F.plainAttrs_list PySem.F.slot_list_count PySem.F.type_list_count (mt_bcountK (K := X.K) rfl) (pv 2) (pa_cons pe_bl pa_nil)) pe_int (nomark _)) (pw_or1 (pt_not (pt_val (pe_callB (call_isX (K := X.K) rfl hz hf) rfl T.n_isinstance (by decide +kernel) (pa_cons (pv 1) (pa_cons (pe_bltn (v := .ty "ValueError") rfl T.n_ValueError (by decide +kernel) rfl) pa_nil)))))))) (pss_one (ps_ret (pe_tup (pa_cons pe_str pa_nil))))
    pss_nil)
    (pss_cons (ps_set (i := 3) sc_x_law_raised.nd rfl (Or.inl rfl) (pe_bmK (K := X.K) rfl PySem.F.plainAttrs_list PySem.F.slot_list_index PySem.F.type_list_index (mt_indexK (K := X.K) rfl) (pv 2) (pa_cons pe_bl pa_nil)))
    (pss_cons (ps_set (i := 4) sc_x_law_raised.nd rfl (Or.inl rfl) (pe_ix (ixK (K := X.K) rfl) (pe_lst (pa_cons pe_str (pa_cons pe_str (pa_cons pe_str (pa_cons pe_str (pa_cons pe_str (pa_cons pe_str (pa_cons pe_str pa_nil)))))))) (pv 3) (fun _ _ => rfl)))
    (pss_one (ps_ret (pe_ifExp (pt_cmpR op_lt (pv 3) pe_int (nomark _)) (pe_tup (pa_cons (pv 4) (pa_cons (pe_xf2 (K := X.K) rfl hz hf (pv 1)) pa_nil))) (pe_tup (pa_cons (pv 4) pa_nil)))))))))))) (fun cls d H Q h => ?_) (fun cls d H Q f e nx bk ct h he => ?_)
  · obtain ⟨i, D, w, rfl, hc, _⟩ := h
    exact hc.exm
  · have hdict := h.dict
    obtain ⟨i, D, w, rfl, hc, hw, hans⟩ := h
    have hi : i < 7 := (List.getElem?_eq_some_iff.mp hw).1
    have dm : ∀ {H' : Hp}, Same H H' → d = none ∨ ∃ dd fs, d = some dd ∧ H' dd = some (.xd fs) := fun S => hdict.imp id fun ⟨dd, fs, e1, e2⟩ => ⟨dd, fs, e1, S _ _ e2⟩
    rw [show (start N_x_law_raised [V.ref f]).set 1 (some (V.ref e)) = [some (V.ref f), some (V.ref e), none, none, none] from rfl]
    walk_at "rd"
    refine rd_isX hc.isi (dm (Same.refl _)) (hc.kit 0 _ rfl) ?_
    walk_at "rd"
    refine rd_isX hc.isi (dm (Same.refl _)) (hc.kit 1 _ rfl) ?_
    walk_at "rd"
    refine rd_isX hc.isi (dm (Same.refl _)) (hc.kit 2 _ rfl) ?_
    walk_at "rd"
    refine ⟨three_line, fun l1 n1 => ?_⟩
    have S1 := Same.new (o := HO.lst [V.bl (decide (0 = i)), V.bl (decide (1 = i)), V.bl (decide (2 = i))]) (Same.refl H) n1
    have e1 := @upd_same H l1 (HO.lst [V.bl (decide (0 = i)), V.bl (decide (1 = i)), V.bl (decide (2 = i))])
    revert S1 e1
    generalize upd H l1 _ = H1
    intro S1 e1
    walk_at "rd"
    refine rd_isX hc.isi (dm S1) (hc.kit 3 _ rfl) ?_
    walk_at "rd"
    refine rd_isX hc.isi (dm S1) (hc.kit 4 _ rfl) ?_
    walk_at "rd"
    refine rd_isX hc.isi (dm S1) (hc.kit 5 _ rfl) ?_
    walk_at "rd"
    refine ⟨three_line, fun l2 n2 => ?_⟩
    walk_at "rd"
    refine rd_addSame (Same.lk e1 (Same.new (Same.refl _) n2)) upd_same (by rw [sizeLine_eq]; show 6 ≤ 16777216; decide) fun l3 H3 S23 n3 e3 => ?_
    have n30 : H l3 = none := by
      cases z : H l3 with
      | none => rfl
      | some o => exact absurd (n3.symm.trans (lk_new n2 (S1 _ _ z))) (by simp)
    have S3 : Same H H3 := (Same.new S1 n2).trans S23
    walk_at "rd"
    refine rd_tyL (SqL.of e3) _ ?_
    walk_at "rd"
    refine rd_isX hc.isi (dm S3) (hc.kit 6 _ rfl) ?_
    walk_at "rd"
    refine rd_append e3 (by rw [sizeLine_eq]; show 6 < 16777216; decide) ?_
    have S4 := Same.mut (o := HO.lst ((kb7 i).map V.bl)) S3 n30
    have e4 := @upd_same H3 l3 (HO.lst ((kb7 i).map V.bl))
    revert S4 e4
    show Same H (upd H3 l3 (HO.lst ((kb7 i).map V.bl))) → _ → (_ : St → Hp → Prop) _ (upd H3 l3 (HO.lst ((kb7 i).map V.bl)))
    generalize upd H3 l3 (HO.lst ((kb7 i).map V.bl)) = H4
    intro S4 e4
    walk_at "rd"
    refine rd_tyL (SqL.of e4) _ ?_
    walk_at "rd"
    refine rd_bcount (L := kb7 i) (SqL.of e4) ?_
    rw [kb7_count i hi]
    walk_at "rd"
    refine rd_nF rfl ?_
    walk_at "rd"
    refine rd_isXT hc.isi (dm S4) hc.ve ?_
    walk_at "rd"
    refine rd_cF rfl ?_
    walk_at "rd"
    refine rd_tyL (SqL.of e4) _ ?_
    walk_at "rd"
    refine rd_kbIndex hi e4 ?_
    walk_at "rd"
    refine ⟨by rw [sizeLine_eq]; decide, fun l5 n5 => ?_⟩
    have e5 : atI (rzW.map V.str) (i : Nat) = some (.str w) := by
      exact atI_nat (by rw [List.getElem?_map, hw]; rfl)
    walk_at "rd"
    refine rd_ixI ?_ (SqL.of (xs := rzW.map V.str) upd_same) e5
    have S5 := Same.new (o := HO.lst (rzW.map V.str)) S4 n5
    walk_at "rd"
    rcases hans with ⟨h2, hF, dd, n, fs, rfl, hx, hl, k⟩ | ⟨h2, rfl, k⟩
    · refine rd_dT (by omega) ?_
      refine rd_tup ?_
      walk_at "rd"
      refine ⟨_, rfl, rfl, D, dd, fs, .int n, rfl, hF.xf, hF.no, rfl, S5 _ _ hx, hl, ?_⟩
      walk_at "rd"
      refine ⟨two_line, fun p np => ?_⟩
      exact k p _ (Same.new S5 np) upd_same
    · refine rd_dF (by omega) ?_
      walk_at "rd"
      refine ⟨one_line, fun p np => ?_⟩
      exact k p _ (Same.new S5 np) upd_same
end

section
variable {P : Program} {w : World} {K : PySem.W.Frag} {mg : Str → Option Value} {base : Heap} {CText CPart CTextError CInvalidStep CInvalidChanges CTooLong CInvalidPlace CInvalidKey CInvalidLetter CInvalidNumber c_x_law_is_changed p_x_law_is_changed c_law p_law : Addr}
theorem ok_x_law_keys (T : Txt K mg CText CPart CTextError CInvalidStep CInvalidChanges CTooLong CInvalidPlace CInvalidKey CInvalidLetter CInvalidNumber c_x_law_is_changed p_x_law_is_changed c_law p_law) : GOk P w K mg base CX0 1 "_law_keys" (sp_x_law_keys K) := by
  refine T.d_x_law_keys.ok sc_x_law_keys (fun vs H Q E h => ?len) (fun f cdv A outer s H vs Q E hr h => ?_)
  case len => obtain ⟨a, ms, ss, rfl, _⟩ := h; rfl
  · obtain ⟨a, ms, ss, rfl, hq, hst, ok, few, hz, k⟩ := h
    refine ⟨_, (pss_cons (ps_par (i := 1) (j := 2) rfl sc_x_law_keys.nd rfl rfl (by decide) rfl rfl (pa_cons (pe_lst pa_nil) (pa_cons pe_str pa_nil)) rfl)
    (pss_cons (ps_for PassesOwn.never rfl (pi_tupK (K := K) rfl (pv 0)) (pg_name (i := 3) sc_x_law_keys.nd rfl (Or.inl rfl)) (pss_one (ps_if (pt_cmpR (eqK (K := K) rfl hr.units) (pe_ix (ixK (K := K) rfl) (pv 3) pe_int (fun _ _ => rfl)) pe_str (nomark _)) (pss_cons (ps_set (i := 1) sc_x_law_keys.nd rfl (Or.inl rfl) (pe_op (addK (K := K) rfl) (pv 1) (pe_listRg rfl rfl T.n_list (prg_2 rfl T.n_range (pe_callB (lenK (K := K) rfl) rfl T.n_len (by decide +kernel) (pa_cons (pv 2) pa_nil)) (pe_op (addK (K := K) rfl) (pe_callB (lenK (K := K) rfl) rfl T.n_len (by decide +kernel) (pa_cons (pv 2) pa_nil)) (pe_callB (lenK (K := K) rfl) rfl T.n_len (by decide +kernel) (pa_cons (pe_ix (ixK (K := K) rfl) (pv 3) pe_int (fun _ _ => rfl)) pa_nil)))))))
    (pss_one (ps_set (i := 2) sc_x_law_keys.nd rfl (Or.inl rfl) (pe_op (addK (K := K) rfl) (pv 2) (pe_ix (ixK (K := K) rfl) (pv 3) pe_int (fun _ _ => rfl))))))
    (pss_one (ps_set (i := 1) sc_x_law_keys.nd rfl (Or.inl rfl) (pe_op (addK (K := K) rfl) (pv 1) (pe_op oMul (pe_slice (slK (K := K) rfl) (pv 1) (po_some (pe_ix (ixK (K := K) rfl) (pv 3) pe_int (fun _ _ => rfl))) (po_some (pe_op (addK (K := K) rfl) (pe_ix (ixK (K := K) rfl) (pv 3) pe_int (fun _ _ => rfl)) pe_int))) (pe_ix (ixK (K := K) rfl) (pv 3) pe_int (fun _ _ => rfl)))))))))
    (pss_one (ps_ret (pe_tup (pa_cons (pv 1) (pa_cons (pv 2) pa_nil))))))), ?_⟩
    walk_at "rd"
    refine ⟨Nat.zero_le _, fun l hl => ?_⟩
    walk_at "rd"
    have S1 : Same H (upd H l (.lst [])) := Same.new (Same.refl _) hl
    have line : 16000 < sizeLine := by rw [sizeLine_eq]; decide
    refine ⟨_, rfl, ⟨_, Same.tup S1 hq⟩, for_tup (xs := ms) (fun i σ H' => ∃ l v3, σ = [some (.ref a), some (.ref l), some (.str (mkS (tyL (ss.take i)))), v3] ∧ Same H H' ∧ H' l = some (.lst (ksV (ss.take i)))) ⟨l, _, by rw [emp_mk]; rfl, S1, upd_same⟩ (fun i σ H' _ ⟨_, _, _, S, _⟩ => Same.tup S hq) ?_ ?_⟩
    · rintro i v σ H' hv ⟨l, v3, rfl, S, hl'⟩
      obtain ⟨s', hs, a', rfl, hq1⟩ := hst.at hv
      have hq' := Same.tup S hq1
      have ok' := (ok_at ok hs).1
      have hks : (ksV (ss.take i)).length = sz (ss.take i) := by unfold ksV; rw [List.length_map, ks_len (ok_take ok i)]
      have hzs := sz_take hs
      have hz1 := sz_take_le (ss := ss) (i + 1)
      have hty : (tyL (ss.take i)).length ≤ 620 := by
        have := tyL_small (ok_take ok i)
        rw [List.length_take] at this; omega
      have tys : (mkS (tyL (ss.take i))).length ≤ sizeLine := by rw [mkS_len]; omega
      walk_at "rd"
      cases s' with
      | wr w =>
        have w20 := ok'.2.1
        simp only [len1] at hzs
        have wz : w.length ≤ sizeLine := str_small w20
        refine rd_ixT ?_ hq' rfl
        walk_at "rd"
        refine rd_dT rfl ?_
        walk_at "rd"
        refine rd_len_str tys ?_
        walk_at "rd"
        refine rd_len_str tys ?_
        walk_at "rd"
        refine rd_ixT ?_ hq' rfl
        walk_at "rd"
        refine rd_len_str wz ?_
        walk_at "rd"
        rw [mkS_len]
        refine ⟨_, _, rfl, rfl, RgOk.of_le ?b1 ?b2 ?b3 ?b4, fun q hn => ?_⟩
        case b1 => omega
        case b2 => omega
        case b3 => omega
        case b4 => omega
        rw [show (((tyL (ss.take i)).length : Nat) : Int) + (w.length : Nat) = (((tyL (ss.take i)).length + w.length : Nat) : Int) by omega, rgV_nat, Nat.add_sub_cancel_left]
        have S2 := Same.new (o := .lst ((List.range' (tyL (ss.take i)).length w.length).map fun m => V.int (m : Nat))) (Same.refl H') hn
        refine rd_add_lst (S2 _ _ hl') upd_same (by rw [hks, List.length_map, List.length_range']; omega) fun q2 hn2 => ?_
        walk_at "rd"
        have S3 := Same.new (o := .lst (ksV (ss.take i) ++ (List.range' (tyL (ss.take i)).length w.length).map fun m => V.int (m : Nat))) S2 hn2
        refine rd_ixT ?_ (Same.tup S3 hq') rfl
        refine rd_add_str (by rw [mkS_len]; omega) ?_
        walk_at "rd"
        refine ⟨q2, some (.ref a'), ?_, S.trans S3, ?_⟩
        · rw [tyL_take hs, ← mkS_app]
          simp only [ty1]
          rw [mkS_tl]
          rfl
        · unfold ksV
          rw [ks_take_wr hs, List.map_append]
          exact upd_same
      | pa f l2 t =>
        obtain ⟨o1, o2, o3, o4⟩ := ok'
        simp only [len1] at hzs
        refine rd_ixT ?_ hq' rfl
        walk_at "rd"
        refine rd_dF (by decide +kernel) ?_
        walk_at "rd"
        refine rd_ixT ?_ hq' rfl
        walk_at "rd"
        refine rd_ixT ?_ hq' rfl
        walk_at "rd"
        refine rd_slL (SqL.of hl') fun q hn => ?_
        walk_at "rd"
        rw [show ((l2 : Nat) : Int) + 1 = ((l2 + 1 : Nat) : Int) by omega, cutV_nat _ _ _ (by rw [hks]; omega)]
        have S2 := Same.new (o := .lst (((ksV (ss.take i)).drop f).take (l2 + 1 - f))) (Same.refl H') hn
        refine rd_ixT ?_ (Same.tup S2 hq') rfl
        have hlen : (((ksV (ss.take i)).drop f).take (l2 + 1 - f)).length = l2 - f + 1 := by rw [List.length_take, List.length_drop, hks]; omega
        have h15 : (l2 - f + 1) * t ≤ 16000 := by omega
        refine rd_mul_lst upd_same (by omega) (by rw [hlen]; omega) fun q2 hn2 => ?_
        have S3 := Same.new (o := .lst (List.replicate t (((ksV (ss.take i)).drop f).take (l2 + 1 - f))).flatten) S2 hn2
        refine rd_add_lst (S3 _ _ hl') upd_same (by rw [hks, length_flat_rep, hlen, Nat.mul_comm]; omega) fun q3 hn3 => ?_
        walk_at "rd"
        refine ⟨q3, some (.ref a'), ?_, S.trans (Same.new S3 hn3), ?_⟩
        · rw [tyL_take hs]
          simp only [ty1, List.append_nil]
          rfl
        · rw [upd_same]
          unfold ksV
          rw [ks_take_pa hs, List.map_append, List.map_flatten, List.map_replicate, List.map_take, List.map_drop, show l2 + 1 - f = l2 - f + 1 by omega]
    · rintro σ H' ⟨l, v3, rfl, S, hl'⟩
      rw [hst.1, List.take_length] at hl' ⊢
      walk_at "rd"
      refine ⟨two_line, fun p hp => ?_⟩
      have S2 := Same.new (o := .tup [.ref l, .str (mkS (tyL ss))]) S hp
      exact k p l _ S2 upd_same (lk_new hp hl')
end

local macro_rules | `(tactic| walk_at "zl") => `(tactic| (rw [sizeLine_eq]; first | decide | (simp only [List.length_cons, List.length_nil]; omega) | omega))
local macro_rules | `(tactic| walk_at "sm") => `(tactic| first | exact Same.refl _ | assumption | ((with_reducible refine' Same.trans ?sx ?sy); (case sy => assumption); (case sx => walk_at "sm")))
local macro_rules | `(tactic| walk_at "kp") => `(tactic| first | exact Kp.refl | assumption | ((with_reducible refine' Kp.trans ?kx ?ky); (case ky => assumption); (case kx => walk_at "kp")) | ((with_reducible refine' Kp.trans ?kx (Kp.same ?ky)); (case ky => assumption); (case kx => walk_at "kp")))
local macro_rules | `(tactic| walk_at "tx") => `(tactic| first | assumption | ((with_reducible refine' TX.kp ?tx1 ?tx2); (case tx1 => assumption); (case tx2 => walk_at "kp")))
local macro_rules | `(tactic| walk_at "ts") => `(tactic| first | assumption | ((with_reducible refine' TS'.kp ?tx1 ?tx2); (case tx1 => assumption); (case tx2 => walk_at "kp")) | ((with_reducible refine' ts_nil ?tx1); (case tx1 => assumption)))
local macro_rules | `(tactic| walk_at "sx") => `(tactic| first | assumption | ((with_reducible refine' SX.kp ?tx1 ?tx2); (case tx1 => assumption); (case tx2 => walk_at "kp")) | ((with_reducible refine' TS'.sx ?tx1); (case tx1 => walk_at "ts")))
local macro_rules | `(tactic| walk_at "row") => `(tactic| first | assumption | ((with_reducible refine' RowAt.mono ?tx1 ?tx2); (case tx1 => assumption); (case tx2 => walk_at "sm")))
local macro_rules | `(tactic| walk_at "ls") => `(tactic| first | assumption | ((with_reducible refine' kp_natV ?tx1 ?tx2); (case tx1 => assumption); (case tx2 => walk_at "kp")) | ((with_reducible refine' kp_sgV ?tx1 ?tx2); (case tx1 => assumption); (case tx2 => walk_at "kp")) | ((refine' Same.lk ?tx1 ?tx2); (case tx1 => assumption); (case tx2 => walk_at "sm")))
local macro_rules | `(tactic| walk_at "om") => `(tactic| first | omega | with_reducible assumption)
local macro_rules | `(tactic| walk_at "rd1") => `(tactic| first
  | with_reducible refine rd_cons ?_ | ((with_reducible refine' rd_var ?k1 ?_); (case k1 => rfl)) | with_reducible refine rd_C ?_ | with_reducible refine rd_nil ?_ | with_reducible refine rd_op ?_ | with_reducible refine rd_g ?_
  | ((with_reducible refine' rd_nameE ?k1 ?_); (case k1 => (dsimp only [List.set_cons_zero, List.set_cons_succ]; exact rfl))) | with_reducible refine rd_asg ?_ | with_reducible refine rd_seq ?_ | with_reducible refine rd_andrfl ?_ | with_reducible refine rd_prop ?_ | with_reducible refine rd_cb ?_ | with_reducible refine rd_test ?_ | with_reducible refine rd_bl ?_ | with_reducible refine rd_ifS ?_ | with_reducible refine rd_next ?_
  | with_reducible refine rd_tupN ?_ | with_reducible refine rd_lstN ?_ | with_reducible refine rd_add_int ?_ | with_reducible refine rd_sub ?_ | with_reducible refine rd_tB ?_ | with_reducible refine rd_not ?_ | with_reducible refine rd_and ?_ | with_reducible refine rd_or ?_ | with_reducible refine rd_ret ?_ | with_reducible refine rd_cmeth ?_ | with_reducible refine rd_o ?_ | with_reducible refine rd_I0 ?_
  | ((with_reducible show @Eq (Option HO) _ Option.none → _); intro) | with_reducible refine rd_m1 ?_ | with_reducible refine rd_exStr ?_ | ((with_reducible refine' rd_iNat ?k1 ?_); (case k1 => walk_at "ls"))
  | ((with_reducible refine' rd_taken ?k1 ?k2 ?k3 ?_); (case k1 => walk_at "row"); (case k2 => walk_at "om"); (case k3 => walk_at "om"))
  | ((with_reducible refine' rd_word ?k1 ?k2 ?k3 ?_); (case k1 => walk_at "row"); (case k2 => walk_at "om"); (case k3 => walk_at "om"))
  | ((with_reducible refine' rd_stepsL ?k1 ?k2 ?k3 ?k4 ?k5 ?_); (case k1 => walk_at "row"); (case k2 => walk_at "om"); (case k3 => walk_at "om"); (case k4 => walk_at "om"); (case k5 => walk_at "om"))
  | ((with_reducible refine' rd_listS ?k1 ?_); (case k1 => walk_at "ts"))
  | ((with_reducible refine' rd_ofSteps ?k1 ?k2 ?k3 ?_); (case k1 => walk_at "sx"); (case k2 => walk_at "om"); (case k3 => walk_at "om"))
  | ((with_reducible refine' rd_pSize ?k1 ?_); (case k1 => walk_at "tx"))
  | ((with_reducible refine' rd_pTyped ?k1 ?_); (case k1 => walk_at "tx"))
  | ((with_reducible refine' rd_pSteps ?k1 ?_); (case k1 => walk_at "tx"))
  | ((with_reducible refine' rd_oCall ?k1 ?k2 ?k3 ?_); (case k1 => walk_at "tx"); (case k2 => walk_at "om"); (case k3 => walk_at "om"))
  | ((with_reducible refine' rd_oItem ?k1 ?k2 ?k3 ?_); (case k1 => walk_at "tx"); (case k2 => walk_at "om"); (case k3 => walk_at "om"))
  | ((with_reducible refine' rd_opAdd ?k1 ?k2 ?k3 ?k4 ?_); (case k1 => walk_at "tx"); (case k2 => walk_at "tx"); (case k3 => walk_at "om"); (case k4 => walk_at "om"))
  | ((with_reducible refine' rd_opMul ?k1 ?k2 ?k3 ?k4 ?k5 ?_); (case k1 => walk_at "tx"); (case k2 => walk_at "om"); (case k3 => walk_at "om"); (case k4 => walk_at "om"); (case k5 => walk_at "om"))
  | ((with_reducible refine' rd_opEq ?k1 ?k2 ?_); (case k1 => walk_at "tx"); (case k2 => walk_at "tx"))
  | ((with_reducible refine' rd_opEqT ?k1 ?k2 ?_); (case k1 => walk_at "tx"); (case k2 => walk_at "ts"))
  | ((with_reducible refine' rd_opNe ?k1 ?k2 ?_); (case k1 => walk_at "tx"); (case k2 => walk_at "tx"))
  | ((with_reducible refine' rd_mTx ?k1 ?k2 ?_); (case k1 => walk_at "tx"); (case k2 => decide +kernel))
  | ((with_reducible refine' rd_mRetyped ?k1 ?k2 ?k3 ?_); (case k1 => walk_at "tx"); (case k2 => walk_at "om"); (case k3 => walk_at "om"))
  | ((with_reducible refine' rd_eqTT ?k1 ?k2 ?k3 ?k4 ?_); (case k1 => walk_at "ts"); (case k2 => walk_at "ts"); (case k3 => first | assumption | trivial); (case k4 => first | assumption | trivial))
  | ((with_reducible refine' rd_neTT ?k1 ?k2 ?k3 ?k4 ?_); (case k1 => walk_at "ts"); (case k2 => walk_at "ts"); (case k3 => first | assumption | trivial); (case k4 => first | assumption | trivial))
  | ((with_reducible refine' rd_neNN ?k1 ?k2 ?_); (case k1 => walk_at "ls"); (case k2 => walk_at "ls"))
  | ((with_reducible refine' rd_eqNN ?k1 ?k2 ?_); (case k1 => walk_at "ls"); (case k2 => walk_at "ls"))
  | ((with_reducible refine' rd_lenN ?k1 ?_); (case k1 => walk_at "ls"))
  | ((with_reducible refine' rd_lenS ?k1 ?_); (case k1 => walk_at "om"))
  | ((with_reducible refine' rd_ixN ?k1 ?k2 ?k3 ?_); (case k1 => walk_at "ls"); (case k2 => walk_at "om"); (case k3 => walk_at "om"))
  | ((with_reducible refine' rd_ixC ?k1 ?k2 ?k3 ?_); (case k1 => walk_at "om"); (case k2 => walk_at "om"); (case k3 => walk_at "om"))
  | ((with_reducible refine' rd_gtup ?k1 ?k2 ?_); (case k1 => exact SqT.of (by assumption)); (case k2 => rfl))
  | ((with_reducible refine' rd_new ?k1 ?_); (case k1 => walk_at "zl"))
  | with_reducible refine rd_ref1 ?_
  | with_reducible refine rd_nF rfl ?_ | with_reducible refine rd_dT rfl ?_ | with_reducible refine rd_cT rfl ?_ | with_reducible refine rd_cF rfl ?_
  | ((with_reducible refine' rd_dT ?k1 ?_); (case k1 => omega)) | ((with_reducible refine' rd_dF ?k1 ?_); (case k1 => omega)) | ((with_reducible refine' rd_nT ?k1 ?_); (case k1 => omega)) | ((with_reducible refine' rd_nF ?k1 ?_); (case k1 => omega)))
local macro_rules | `(tactic| walk_at "rdS") => `(tactic| repeat ((fail_if_success with_reducible show tIfS _ _ _ _ _ _); walk_at "rd1"))
section
variable {P : Program} {w : World} {K : PySem.W.Frag} {mg : Str → Option Value} {base : Heap} {CText CPart CTextError CInvalidStep CInvalidChanges CTooLong CInvalidPlace CInvalidKey CInvalidLetter CInvalidNumber c_x_law_is_changed p_x_law_is_changed c_law p_law : Addr}
theorem ok_Text_of_word (T : Txt K mg CText CPart CTextError CInvalidStep CInvalidChanges CTooLong CInvalidPlace CInvalidKey CInvalidLetter CInvalidNumber c_x_law_is_changed p_x_law_is_changed c_law p_law) : COk P w K mg base CX0 6 CText "of_word" (sp_Text_of_word K CText CPart) := by
  refine T.d_Text_of_word.ok sc_Text_of_word (fun vs H Q E h => ?len) (fun f cdv A outer s H vs Q E hr h => ?_)
  case len => obtain ⟨w, rfl, _⟩ := h; rfl
  · obtain ⟨w0, rfl, h1, h2, h3, q⟩ := h
    refine ⟨_, (pss_one (ps_ret (pe_kv (pv 0) (ok_Text_init (K := K) T) (hr.mono (by decide)) pass0 (pa_cons (pe_tup (pa_cons pe_str (pa_cons (pv 1) pa_nil))) pa_nil)))), ?_⟩
    refine rd_startE (show start N_Text_of_word [.ref CText, .str (mkS w0)] = [some (.ref CText), some (.str (mkS w0))] from rfl) ?_
    walk_at "rd"
    refine rd_makeV ?_
    walk_at "rd"
    intro T1 H1 S1 e1 _
    walk_at "rd"
    exact rd_mkWord e1 h1 h2 h3 fun p H2 S2 T2 => q p H2 (S1.trans S2) T2
end

local macro_rules | `(tactic| walk_at "rd1") => `(tactic| first
  | with_reducible refine rd_iRng1 ?_ | with_reducible refine rd_lc ?_ | with_reducible refine rd_dsetd ?_
  | ((with_reducible refine' rd_keyRow ?k1 ?k2 ?_); (case k1 => walk_at "tx"); (case k2 => omega)))
section
variable {P : Program} {w : World} {K : PySem.W.Frag} {mg : Str → Option Value} {base : Heap} {CText CPart CTextError CInvalidStep CInvalidChanges CTooLong CInvalidPlace CInvalidKey CInvalidLetter CInvalidNumber c_x_law_is_changed p_x_law_is_changed c_law p_law : Addr}
theorem ok_key_row (T : Txt K mg CText CPart CTextError CInvalidStep CInvalidChanges CTooLong CInvalidPlace CInvalidKey CInvalidLetter CInvalidNumber c_x_law_is_changed p_x_law_is_changed c_law p_law) : GOk P w K mg base CX0 3 "key_row" (fun vs => (sp_key_row K CText CPart) (vs ++ [.int 2000])) := by
  refine T.d_key_row.ok sc_key_row (fun vs H Q E h => ?len) (fun f cdv A outer s H vs Q E hr h => ?_)
  case len => obtain ⟨a, ss, m, rfl, _⟩ := h; rfl
  · obtain ⟨a, ss, m, rfl, TT, h1, h2, k⟩ := h
    refine ⟨_, (pss_cons (ps_if (pt_cmpR op_gt (pe_p (pv 0) T.cText (ok_Text_size (K := K) T) (hr.mono (by decide)) pass0) (pv 1) (nomark _)) (pss_one ps_never)
    pss_nil)
    (pss_one (ps_ret (pe_lc (own := [("place", 2)]) rfl sc_key_row.nd (pi_range1 rfl T.n_range (pa_cons (pe_p (pv 0) T.cText (ok_Text_size (K := K) T) (hr.mono (by decide)) pass0) pa_nil)) (blkOk_by (own := [("place", 2)]) (N := N_key_row) (sc := (defScope s_key_row)) (by first | decide +kernel | rfl)) (fun _ _ _ _ _ => (pg_name (i := 2) sc_key_row.nd rfl (Or.inl rfl))) (fun _ _ _ _ _ => pts_nil) (fun _ _ _ _ _ => (pe_m (pv 0) T.cText (ok_Text_key_of (K := K) T) (hr.mono (by decide)) pass0 (pa_cons (pv 2) pa_nil))))))), ?_⟩
    refine rd_startE (show start N_key_row [.ref a, .int (m : Nat)] = [some (.ref a), some (.int (m : Nat)), none] from rfl) ?_
    have ok := TT.ok
    walk_at "rd"
    refine ⟨_, rfl, by omega, by omega, fun D hD => lc_fun (n := sz ss) (it := fun j => .int (0 + (j : Nat))) (by rw [Int.toNat_natCast]; exact plain_rng) hD (by rw [sizeLine_eq]; omega) (fun _ => rfl) (fun j => .int (kat ss j : Nat)) (fun j H1 Q1 hj S1 q => ?_) fun H1 S1 eD => ?_⟩
    · have T1 := TT.kp (Kp.same S1)
      walk_at "rd"
      refine rd_keyOf T1 (by omega) (by omega) ?_
      rw [show ((0 : Int) + (j : Nat)).toNat = j by omega]
      exact q _ (Same.refl _)
    · exact k H1 D S1 (by rw [eD, range_kat ss ok fun x => V.int (x : Nat)]; rfl)
end
section
variable {P : Program} {w : World} {K : PySem.W.Frag} {mg : Str → Option Value} {base : Heap} {CText CPart CTextError CInvalidStep CInvalidChanges CTooLong CInvalidPlace CInvalidKey CInvalidLetter CInvalidNumber c_x_law_is_changed p_x_law_is_changed c_law p_law : Addr}
theorem ok_tie_pattern (T : Txt K mg CText CPart CTextError CInvalidStep CInvalidChanges CTooLong CInvalidPlace CInvalidKey CInvalidLetter CInvalidNumber c_x_law_is_changed p_x_law_is_changed c_law p_law) : GOk P w K mg base CX0 4 "tie_pattern" (sp_tie_pattern K CText CPart) := by
  refine T.d_tie_pattern.ok sc_tie_pattern (fun vs H Q E h => ?len) (fun f cdv A outer s H vs Q E hr h => ?_)
  case len => obtain ⟨a, ss, rfl, _⟩ := h; rfl
  · obtain ⟨a, ss, rfl, TT, h1, k⟩ := h
    refine ⟨_, (pss_cons (ps_set (i := 1) sc_tie_pattern.nd rfl (Or.inr rfl) pe_dnewK)
    (pss_one (ps_ret (pe_lc (own := [("key", 2)]) rfl sc_tie_pattern.nd (pi_listK (K := K) rfl (pe_g (ok_key_row (K := K) T) (hr.mono (by decide)) pass0 (pa_cons (pv 0) pa_nil))) (blkOk_by (own := [("key", 2)]) (N := N_tie_pattern) (sc := (defScope s_tie_pattern)) (by first | decide +kernel | rfl)) (fun _ _ _ _ _ => (pg_name (i := 2) sc_tie_pattern.nd rfl (Or.inl rfl))) (fun _ _ _ _ _ => pts_nil) (fun _ _ _ _ _ => (pe_dsetd (pv 1) (pv 2) (pe_callB lenD rfl T.n_len (by decide +kernel) (pa_cons (pv 1) pa_nil)) ⟨rfl, rfl, rfl, rfl⟩)))))), ?_⟩
    refine rd_startE (show start N_tie_pattern [.ref a] = [some (.ref a), none, none] from rfl) ?_
    have ok := TT.ok
    walk_at "rd"
    refine fun d hd => ?_
    have S1 : Same H (upd H d (.dK [])) := Same.new (Same.refl _) hd
    have eD0 : upd H d (.dK []) d = some (.dK []) := upd_same
    have T1 := TT.kp (Kp.same S1)
    revert S1 eD0 T1
    generalize upd H d (.dK []) = H1
    intro S1 eD0 T1
    walk_at "rd"
    intro l H2 S2 e2
    have eD2 := S2 _ _ eD0
    have hI := iniS_ks ss
    have hlen := ks_len ok
    walk_at "rd"
    refine fun D hD => ?_
    have nd : D ≠ d := fun z => by subst z; rw [eD2] at hD; cases hD
    have nl : l ≠ d := fun z => by subst z; rw [eD2] at e2; cases e2
    have nD : D ≠ l := fun z => by subst z; rw [e2] at hD; cases hD
    refine lc_sti (fun i H' => (∀ b o, b ≠ d → b ≠ D → H2 b = some o → H' b = some o) ∧ H' d = some (.dK (kvI (few (ks ss) i)))) (fun i H' ⟨B, _⟩ => plain_nat (B _ _ nl (Ne.symm nD) e2)) ⟨fun b o h1 h2 h => by rw [upd_ne h2]; exact h, by rw [upd_ne (Ne.symm nd), few_zero hI]; exact eD2⟩ (by rw [sizeLine_eq]; omega) (fun _ => rfl) (fun i => .int ((ks ss)[i]?.getD 0 : Nat)) (fun i H' ys zs ⟨B, e⟩ eD => ⟨fun b o h1 h2 h => by rw [upd_ne h2]; exact B b o h1 h2 h, by rw [upd_ne (Ne.symm nd)]; exact e⟩) (fun i H3 ys Q3 hi ⟨B3, e3⟩ eD3 q => ?_) fun H3 ⟨B3, e3⟩ eD3 => ?_
    · have hk : (ks ss)[i]? = some ((ks ss)[i]?.getD 0) := by rw [List.getElem?_eq_getElem hi]; rfl
      obtain ⟨f1, f2⟩ := few_step hI hk
      have f3 := few_le hI i
      revert hk f1 f2 q
      generalize (ks ss)[i]?.getD 0 = x
      intro q hk f1 f2
      walk_at "rd"
      refine ⟨.inl ⟨_, .inl e3⟩, ?_⟩
      walk_at "rd"
      refine ⟨d, _, rfl, e3, _, (Sum.inl (x : Int) : Key), e3, rfl, by rw [kvI_len, sizeLine_eq]; omega, fun v hv => ?_, fun hv => ?_⟩
      · rw [kvI_val] at hv
        split at hv
        · rename_i z
          cases hv
          exact q _ ⟨B3, by rw [f2, if_pos z]; exact e3⟩ eD3
        · cases hv
      · rw [kvI_val] at hv
        split at hv
        · cases hv
        · rename_i z
          have ex : x = few (ks ss) i := by omega
          rw [kvI_len]
          rw [if_neg z] at f2
          rw [← ex, kvI_put, ex, ← f2] 
          rw [← ex]
          exact q _ ⟨fun b o h1 h2 h => by rw [upd_ne h1]; exact B3 b o h1 h2 h, upd_same⟩ (by rw [upd_ne nd]; exact eD3)
    · refine k _ D (fun b o e => B3 b o (fun z => ?_) (fun z => ?_) (S2 _ _ (S1 _ _ e))) (by rw [eD3, range_mapN (ks ss) fun x => V.int (x : Nat)]; rfl)
      · subst z; rw [hd] at e; cases e
      · subst z; rw [S2 _ _ (S1 _ _ e)] at hD; cases hD
end

local macro_rules | `(tactic| walk_at "rd1") => `(tactic| first
  | with_reducible refine rd_two ?_ | with_reducible refine rd_par ?_ | with_reducible refine rd_for ?_ | with_reducible refine rd_iEnZ ?_
  | ((with_reducible refine' rd_tieP ?k1 ?k2 ?_); (case k1 => walk_at "tx"); (case k2 => omega)))
section
variable {P : Program} {w : World} {K : PySem.W.Frag} {mg : Str → Option Value} {base : Heap} {CText CPart CTextError CInvalidStep CInvalidChanges CTooLong CInvalidPlace CInvalidKey CInvalidLetter CInvalidNumber c_x_law_is_changed p_x_law_is_changed c_law p_law : Addr}
theorem ok_first_unlike_tie (T : Txt K mg CText CPart CTextError CInvalidStep CInvalidChanges CTooLong CInvalidPlace CInvalidKey CInvalidLetter CInvalidNumber c_x_law_is_changed p_x_law_is_changed c_law p_law) : GOk P w K mg base CX0 5 "first_unlike_tie" (sp_first_unlike_tie K CText CPart) := by
  refine T.d_first_unlike_tie.ok sc_first_unlike_tie (fun vs H Q E h => ?len) (fun f cdv A outer s H vs Q E hr h => ?_)
  case len => obtain ⟨a, b, ss, tt, rfl, _⟩ := h; rfl
  · obtain ⟨a, b, ss, tt, rfl, T1, T2, h1, h2, k⟩ := h
    refine ⟨_, (pss_cons (ps_par (i := 2) (j := 3) rfl sc_first_unlike_tie.nd rfl rfl (by decide) rfl rfl (pa_cons (pe_g (ok_tie_pattern (K := K) T) (hr.mono (by decide)) pass0 (pa_cons (pv 0) pa_nil)) (pa_cons (pe_g (ok_tie_pattern (K := K) T) (hr.mono (by decide)) pass0 (pa_cons (pv 1) pa_nil)) pa_nil)) rfl)
    (pss_cons (ps_for PassesOwn.never rfl (pi_enZ (K := K) rfl rfl T.n_enumerate rfl T.n_zip (pa_cons (pv 2) (pa_cons (pv 3) pa_nil))) (pg_tupK (K := K) (n := 2) rfl rfl (pgs_cons (pg_name (i := 4) sc_first_unlike_tie.nd rfl (Or.inl rfl)) (pgs_cons (pg_tupK (K := K) (n := 2) rfl rfl (pgs_cons (pg_name (i := 5) sc_first_unlike_tie.nd rfl (Or.inl rfl)) (pgs_cons (pg_name (i := 6) sc_first_unlike_tie.nd rfl (Or.inl rfl)) pgs_nil))) pgs_nil))) (pss_one (ps_if (pt_cmpR (neK (K := K) rfl hr.units) (pv 5) (pv 6) (nomark _)) (pss_one (ps_ret (pv 4)))
    pss_nil)))
    (pss_one (ps_ret (pe_ifExp (pt_cmpR (eqK (K := K) rfl hr.units) (pe_callB (lenK (K := K) rfl) rfl T.n_len (by decide +kernel) (pa_cons (pv 2) pa_nil)) (pe_callB (lenK (K := K) rfl) rfl T.n_len (by decide +kernel) (pa_cons (pv 3) pa_nil)) (nomark _)) pe_non (pe_callB (cMin2 rfl) rfl T.n_min (by decide +kernel) (pa_cons (pe_callB (lenK (K := K) rfl) rfl T.n_len (by decide +kernel) (pa_cons (pv 2) pa_nil)) (pa_cons (pe_callB (lenK (K := K) rfl) rfl T.n_len (by decide +kernel) (pa_cons (pv 3) pa_nil)) pa_nil)))))))), ?_⟩
    refine rd_startE (show start N_first_unlike_tie [.ref a, .ref b] = [some (.ref a), some (.ref b), none, none, none, none, none] from rfl) ?_
    have ok1 := T1.ok
    have ok2 := T2.ok
    have l1 := ks_len ok1
    have l2 := ks_len ok2
    walk_at "rd"
    intro l H2 S2 e2
    have T3 := T2.kp (Kp.same S2)
    walk_at "rd"
    intro m H3 S3 e3
    have e2 := S3 _ _ e2
    have S := S2.trans S3
    walk_at "rd"
    refine ⟨l, m, _, _, rfl, SqL.of e2, SqL.of e3, for_ez (L := ks ss) (M := ks tt) (fun i σ H' => ∃ v4 v5 v6, σ = [some (.ref a), some (.ref b), some (.ref l), some (.ref m), v4, v5, v6] ∧ Same H3 H' ∧ ∀ j, j < i → (ks ss)[j]? = (ks tt)[j]?)
      ⟨_, _, _, rfl, Same.refl _, fun j h => absurd h (Nat.not_lt_zero _)⟩ (fun i σ H' ⟨_, _, _, _, S, _⟩ => S _ _ e2) (fun i σ H' ⟨_, _, _, _, S, _⟩ => S _ _ e3) ?_ ?_⟩
    · rintro i T T' σ H4 H5 hi1 hi2 ⟨v4, v5, v6, rfl, S4, he⟩ S5 eT eT'
      refine rd_gtup (SqT.of eT') rfl (rd_gcons (rd_name (rd_gcons (rd_gtup (SqT.of eT) rfl ?_))))
      walk_at "rd"
      have g1 : (ks ss)[i]? = some ((ks ss)[i]?.getD 0) := by rw [List.getElem?_eq_getElem hi1]; rfl
      have g2 : (ks tt)[i]? = some ((ks tt)[i]?.getD 0) := by rw [List.getElem?_eq_getElem hi2]; rfl
      by_cases e : (ks ss)[i]?.getD 0 = (ks tt)[i]?.getD 0
      · rw [if_neg (by simp [e])]
        walk_at "rd"
        refine ⟨_, _, _, rfl, S4.trans S5, fun j hj => ?_⟩
        by_cases hj' : j = i
        · rw [hj', g1, g2, e]
        · exact he j (by omega)
      · rw [if_pos (by simp; omega)]
        have hp : i = pre (ks ss) (ks tt) := pre_eq (by omega) (by omega) he (.inr (.inr (by rw [g1, g2]; simpa using e)))
        have hu : unlV (ks ss) (ks tt) = .int (i : Nat) := by unfold unlV; rw [if_neg (by omega), ← hp]
        rw [hu] at k
        walk_at "rd"
        exact k _ ((S.trans S4).trans S5)
    · rintro σ H4 ⟨v4, v5, v6, rfl, S4, he⟩
      have e2 := S4 _ _ e2
      have e3 := S4 _ _ e3
      walk_at "rd"
      have hp : min (ks ss).length (ks tt).length = pre (ks ss) (ks tt) := pre_eq (by omega) (by omega) he (by omega)
      by_cases e : (ks ss).length = (ks tt).length
      · rw [if_pos (by simp; omega)]
        have hu : unlV (ks ss) (ks tt) = .non := by unfold unlV; rw [if_pos (by omega)]
        rw [hu] at k
        walk_at "rd"
        exact k _ (S.trans S4)
      · rw [if_neg (by simp; omega)]
        have hu : unlV (ks ss) (ks tt) = .int (min (ks ss).length (ks tt).length : Nat) := by unfold unlV; rw [if_neg (by omega), ← hp]
        rw [hu] at k
        walk_at "rd"
        rw [show (if ((ks tt).length : Int) < ((ks ss).length : Int) then ((ks tt).length : Int) else ((ks ss).length : Int)) = ((min (ks ss).length (ks tt).length : Nat) : Int) by split <;> omega]
        exact k _ (S.trans S4)
end

local macro_rules | `(tactic| walk_at "rd1") => `(tactic| first
  | with_reducible refine rd_two ?_ | with_reducible refine rd_par ?_ | with_reducible refine rd_for ?_ | with_reducible refine rd_iEnum ?_ | with_reducible refine rd_iList ?_)
section
variable {P : Program} {w : World} {K : PySem.W.Frag} {mg : Str → Option Value} {base : Heap} {CText CPart CTextError CInvalidStep CInvalidChanges CTooLong CInvalidPlace CInvalidKey CInvalidLetter CInvalidNumber c_x_law_is_changed p_x_law_is_changed c_law p_law : Addr}
theorem ok_retyped_by (T : Txt K mg CText CPart CTextError CInvalidStep CInvalidChanges CTooLong CInvalidPlace CInvalidKey CInvalidLetter CInvalidNumber c_x_law_is_changed p_x_law_is_changed c_law p_law) : GOk P w K mg base CX0 7 "retyped_by" (sp_retyped_by K CText CPart) := by
  refine T.d_retyped_by.ok sc_retyped_by (fun vs H Q E h => ?len) (fun f cdv A outer s H vs Q E hr h => ?_)
  case len => obtain ⟨a, l, ss, cs, rfl, _⟩ := h; rfl
  · obtain ⟨a, l, ss, cs, rfl, T1, ⟨xs, el, hl, hx⟩, h1, k⟩ := h
    refine ⟨_, (pss_cons (ps_if (pt_not (pt_val (pe_callB (isiK (K := K) rfl) rfl T.n_isinstance (by decide +kernel) (pa_cons (pv 1) (pa_cons (pe_bltn (v := .ty "list") rfl T.n_list (by decide +kernel) rfl) pa_nil))))) (pss_one ps_never)
    pss_nil)
    (pss_cons (ps_for PassesOwn.never rfl (pi_enumK (K := K) rfl rfl T.n_enumerate (pa_cons (pv 1) pa_nil)) (pg_tupK (K := K) (n := 2) rfl rfl (pgs_cons (pg_name (i := 2) sc_retyped_by.nd rfl (Or.inl rfl)) (pgs_cons (pg_name (i := 3) sc_retyped_by.nd rfl (Or.inl rfl)) pgs_nil))) (pss_one (ps_match (pv 3) (pcs_seq (qs := [.inr 4, .inr 5]) rfl sc_retyped_by.nd (PatEach.cap ⟨rfl, (Or.inl rfl), Or.inl rfl⟩ (PatEach.cap ⟨rfl, (Or.inl rfl), Or.inl rfl⟩ PatEach.nil)) rfl (pt_val (pe_callB (isiK (K := K) rfl) rfl T.n_isinstance (by decide +kernel) (pa_cons (pv 3) (pa_cons (pe_bltn (v := .ty "tuple") rfl T.n_tuple (by decide +kernel) rfl) pa_nil)))) (pss_one (ps_if (PW.pt (pw_or (pt_not (pt_val (pe_g (ok_is_integer (K := K) T) (hr.mono (by decide)) pass0 (pa_cons (pv 4) (pa_cons pe_int (pa_cons (pe_op op_sub (pe_callB (lenK (K := K) rfl) rfl T.n_len (by decide +kernel) (pa_cons (pe_p (pv 0) T.cText (ok_Text_typed_keys (K := K) T) (hr.mono (by decide)) pass0) pa_nil)) pe_int) pa_nil)))))) (pw_or1 (pt_not (pt_val (pe_g (ok_is_letter (K := K) T) (hr.mono (by decide)) pass0 (pa_cons (pv 5) pa_nil))))))) (pss_one ps_never)
    pss_nil))
    (pcs_wild (pss_one ps_never))))))
    (pss_cons (ps_for PassesOwn.never rfl (pi_listK (K := K) rfl (pv 1)) (pg_tupK (K := K) (n := 2) rfl rfl (pgs_cons (pg_name (i := 6) sc_retyped_by.nd rfl (Or.inl rfl)) (pgs_cons (pg_name (i := 7) sc_retyped_by.nd rfl (Or.inl rfl)) pgs_nil))) (pss_one (ps_set (i := 0) sc_retyped_by.nd rfl (Or.inl rfl) (pe_m (pv 0) T.cText (ok_Text_retyped (K := K) T) (hr.mono (by decide)) pass0 (pa_cons (pv 6) (pa_cons (pv 7) pa_nil))))))
    (pss_one (ps_ret (pv 0)))))), ?_⟩
    refine rd_startE (show start N_retyped_by [.ref a, .ref l] = [some (.ref a), some (.ref l), none, none, none, none, none, none] from rfl) ?_
    have ok1 := T1.ok
    walk_at "rd"
    refine rd_isi_lst_list (SqL.of el) ?_
    walk_at "rd"
    refine ⟨l, _, rfl, SqL.of el, for_pair (J := Ite K l) (n := xs.length) (it := fun i => [.int (i : Nat), (xs[i]?).getD .non]) (fun i σ H' => ∃ v2 v3 v4 v5 v6 v7, σ = [some (.ref a), some (.ref l), v2, v3, v4, v5, v6, v7] ∧ Same H H')
      ⟨_, _, _, _, _, _, rfl, Same.refl _⟩ (fun i σ H' _ ⟨_, _, _, _, _, _, _, S⟩ => pairy_enum (SqL.of (S _ _ el))) ?_ ?_⟩
    · rintro i Tu σ H2 hi ⟨v2, v3, v4, v5, v6, v7, rfl, S2⟩ hT
      have hci : cs[i]? = some (cs[i]'(by omega)) := List.getElem?_eq_getElem _
      obtain ⟨c1, c2, c3, T, ex, eT⟩ := hx i _ hci
      generalize cs[i]'(by omega) = cc at c1 c2 c3 ex eT
      refine rd_gtup (SqT.of upd_same) rfl ?_
      have S3 : Same H2 (upd H2 Tu (.tup [.int (i : Nat), (xs[i]?).getD .non])) := Same.new (Same.refl _) hT
      rw [ex, Option.getD_some] at S3 ⊢
      revert S3
      generalize upd H2 Tu _ = H3
      intro S3
      have T3 := T1.kp (Kp.same (S2.trans S3))
      have eT3 := S3 _ _ (S2 _ _ eT)
      walk_at "rd"
      have em : mBind [.inr 4, .inr 5] [.int (cc.1 : Nat), .str ⟨#[cc.2]⟩] = some [(4, .int (cc.1 : Nat)), (5, .str ⟨#[cc.2]⟩)] := by simp [mBind]
      refine .inr ⟨T, _, rfl, .inl (SqT.of eT3), .inr ⟨rfl, trivial, ?_⟩⟩
      rw [em]
      walk_at "rd"
      refine rd_isi_tup_tuple (SqT.of eT3) ?_
      walk_at "rd"
      refine rd_len_str (by rw [mkS_len]; exact tyL_line ok1 T1.few) ?_
      walk_at "rd"
      rw [mkS_len]
      refine rd_isIntT (by omega) ?_
      walk_at "rd"
      refine rd_isLetter ⟨c2, c3⟩ ?_
      walk_at "rd"
      exact ⟨_, _, _, _, _, _, rfl, S2.trans S3⟩
    · rintro σ H2 ⟨v2, v3, v4, v5, v6, v7, rfl, S2⟩
      walk_at "rd"
      refine ⟨⟨_, SqL.of (S2 _ _ el)⟩, for_plain (n := xs.length) (it := fun i => (xs[i]?).getD .non) (fun i σ H' => ∃ v2 v3 v4 v5 v6 v7 x, σ = [some (.ref x), some (.ref l), v2, v3, v4, v5, v6, v7] ∧ Same H H' ∧ TX K CText CPart H' x (rts (cs.take i) ss))
        ⟨_, _, _, _, _, _, _, rfl, S2, T1.kp (Kp.same S2)⟩ (fun i σ H' _ ⟨_, _, _, _, _, _, _, _, S, _⟩ => plain_list (SqL.of (S _ _ el))) ?_ ?_⟩
      · rintro i σ H3 hi ⟨v2, v3, v4, v5, v6, v7, x, rfl, S3, T3⟩
        have hci : cs[i]? = some (cs[i]'(by omega)) := List.getElem?_eq_getElem _
        obtain ⟨c1, c2, c3, T, ex, eT⟩ := hx i _ hci
        have htk : cs.take (i + 1) = cs.take i ++ [cs[i]'(by omega)] := by rw [List.take_succ, hci]; rfl
        revert htk
        generalize cs[i]'(by omega) = cc at c1 c2 c3 ex eT
        intro htk
        rw [ex, Option.getD_some]
        refine rd_gtup (SqT.of (S3 _ _ eT)) rfl ?_
        walk_at "rd"
        refine rd_mRetyped T3 (by rw [tyL_rts_len]; exact c1) ⟨c2, c3⟩ fun p H4 S4 T4 => ?_
        walk_at "rd"
        refine ⟨_, _, _, _, _, _, _, rfl, S3.trans S4, ?_⟩
        rw [htk, rts_snoc]
        exact T4
      · rintro σ H3 ⟨v2, v3, v4, v5, v6, v7, x, rfl, S3, T3⟩
        rw [List.take_of_length_le (by omega)] at T3
        walk_at "rd"
        exact k _ _ S3 T3
end

local macro_rules | `(tactic| walk_at "rd1") => `(tactic| first
  | with_reducible refine rd_for ?_ | with_reducible refine rd_lc ?_ | with_reducible refine rd_iList ?_)
section
variable {P : Program} {w : World} {K : PySem.W.Frag} {mg : Str → Option Value} {base : Heap} {CText CPart CTextError CInvalidStep CInvalidChanges CTooLong CInvalidPlace CInvalidKey CInvalidLetter CInvalidNumber c_x_law_is_changed p_x_law_is_changed c_law p_law : Addr}
theorem ok_x_law_pattern (T : Txt K mg CText CPart CTextError CInvalidStep CInvalidChanges CTooLong CInvalidPlace CInvalidKey CInvalidLetter CInvalidNumber c_x_law_is_changed p_x_law_is_changed c_law p_law) : GOk P w K mg base CX0 1 "_law_pattern" (sp_x_law_pattern ) := by
  refine T.d_x_law_pattern.ok sc_x_law_pattern (fun vs H Q E h => ?len) (fun f cdv A outer s H vs Q E hr h => ?_)
  case len => obtain ⟨l, L, rfl, _⟩ := h; rfl
  · obtain ⟨l, L, rfl, el, hi, hl, k⟩ := h
    refine ⟨_, (pss_cons (ps_set (i := 1) sc_x_law_pattern.nd rfl (Or.inr rfl) (pe_lst pa_nil))
    (pss_cons (ps_for PassesOwn.never rfl (pi_listK (K := K) rfl (pv 0)) (pg_name (i := 2) sc_x_law_pattern.nd rfl (Or.inl rfl)) (pss_one (ps_if (pt_cmpR (notInK (K := K) rfl) (pv 2) (pv 1) rfl) (pss_one (ps_expr (pe_bmK (K := K) rfl PySem.F.plainAttrs_list PySem.F.slot_list_append PySem.F.type_list_append mt_append (pv 1) (pa_cons (pv 2) pa_nil))))
    pss_nil)))
    (pss_one (ps_ret (pe_lc (own := [("_law_key", 2)]) rfl sc_x_law_pattern.nd (pi_listK (K := K) rfl (pv 0)) (blkOk_by (own := [("_law_key", 2)]) (N := N_x_law_pattern) (sc := (defScope s_x_law_pattern)) (by first | decide +kernel | rfl)) (fun _ _ _ _ _ => (pg_name (i := 2) sc_x_law_pattern.nd rfl (Or.inl rfl))) (fun _ _ _ _ _ => pts_nil) (fun _ _ _ _ _ => (pe_bmK (K := K) rfl PySem.F.plainAttrs_list PySem.F.slot_list_index PySem.F.type_list_index (mt_indexK (K := K) rfl) (pv 1) (pa_cons (pv 2) pa_nil)))))))), ?_⟩
    refine rd_startE (show start N_x_law_pattern [.ref l] = [some (.ref l), none, none] from rfl) ?_
    walk_at "rd"
    intro p H2 S2 ep hp
    walk_at "rd"
    refine for_plain (n := L.length) (it := fun i => .int (L[i]?.getD 0 : Nat)) (fun i σ H' => ∃ v2, σ = [some (.ref l), some (.ref p), v2] ∧ Same H H' ∧ H' p = some (.lst (natV (List.range (few L i)))))
      ⟨_, rfl, S2, by rw [few_zero hi]; exact ep⟩ (fun i σ H' _ ⟨_, _, S, _⟩ => plain_nat (S _ _ el)) ?_ ?_
    · rintro i σ H3 hlt ⟨v2, rfl, S3, e3⟩
      have hk : L[i]? = some (L[i]?.getD 0) := by rw [List.getElem?_eq_getElem hlt]; rfl
      obtain ⟨f1, f2⟩ := few_step hi hk
      have f3 := few_le hi i
      revert hk f1 f2
      generalize L[i]?.getD 0 = x
      intro hk f1 f2
      walk_at "rd"
      refine rd_notInN e3 ?_
      walk_at "rd"
      have hm : (decide (x ∈ List.range (few L i)) = true) ↔ x < few L i := by rw [decide_eq_true_iff, List.mem_range]
      by_cases z : x < few L i
      · rw [if_pos z] at f2
        rw [if_neg (by rw [hm.mpr z]; decide)]
        walk_at "rd"
        exact ⟨_, rfl, S3, by rw [f2]; exact e3⟩
      · rw [if_neg z] at f2
        have ex : x = few L i := by omega
        rw [if_pos (by rw [Bool.not_eq_true', ← Bool.not_eq_true, hm]; exact z)]
        walk_at "rd"
        refine rd_tyL (SqL.of e3) _ ?_
        walk_at "rd"
        refine rd_append e3 (by rw [natV_len, List.length_range, sizeLine_eq]; omega) ?_
        walk_at "rd"
        refine ⟨_, rfl, Same.mut S3 hp, ?_⟩
        rw [upd_same, f2, List.range_succ, ← ex, natV_snoc]
    · rintro σ H3 ⟨v2, rfl, S3, e3⟩
      have el3 := S3 _ _ el
      walk_at "rd"
      refine fun D hD => lc_fun (n := L.length) (it := fun i => .int (L[i]?.getD 0 : Nat)) (plain_nat el3) hD (by rw [sizeLine_eq]; omega) (fun _ => rfl) (fun i => .int (L[i]?.getD 0 : Nat)) (fun i H4 Q4 hlt S4 q => ?_) fun H4 S4 eD => ?_
      · have e4 := S4 _ _ e3
        have hk : L[i]? = some (L[i]?.getD 0) := by rw [List.getElem?_eq_getElem hlt]; rfl
        have hx : L[i]?.getD 0 < few L L.length := (few_spec hi L.length _).mp (by rw [List.take_length]; exact List.mem_of_getElem? hk)
        revert q hx
        generalize L[i]?.getD 0 = x
        intro q hx
        walk_at "rd"
        refine rd_tyL (SqL.of e4) _ ?_
        walk_at "rd"
        refine rd_indexN e4 hx ?_
        exact q _ (Same.refl _)
      · exact k _ _ (S3.trans S4) (by rw [eD, range_mapN L fun x => V.int (x : Nat)]; rfl)
end

local macro_rules | `(tactic| walk_at "rd1") => `(tactic| first
  | with_reducible refine rd_iRng1 ?_ | with_reducible refine rd_lc ?_ | with_reducible refine rd_dsetd ?_ | with_reducible refine rd_par ?_ | with_reducible refine rd_two ?_ | with_reducible refine rd_for ?_ | with_reducible refine rd_iEnum ?_ | with_reducible refine rd_iList ?_)
section
variable {P : Program} {w : World} {K : PySem.W.Frag} {mg : Str → Option Value} {base : Heap} {CText CPart CTextError CInvalidStep CInvalidChanges CTooLong CInvalidPlace CInvalidKey CInvalidLetter CInvalidNumber c_x_law_is_changed p_x_law_is_changed c_law p_law : Addr}
theorem okR_key_row (T : Txt K mg CText CPart CTextError CInvalidStep CInvalidChanges CTooLong CInvalidPlace CInvalidKey CInvalidLetter CInvalidNumber c_x_law_is_changed p_x_law_is_changed c_law p_law) : GOk P w K mg base (L2.CX P w) 4 "key_row" (fun vs => (sp_key_rowR K CTooLong CText CPart) (vs ++ [.int 2000])) := by
  refine T.d_key_row.okX sc_key_row (fun vs H Q E h => ?len) (fun f cdv A outer s H vs Q E hr h => ?_)
  case len => obtain ⟨a, ss, m, rfl, _⟩ := h; rfl
  · obtain ⟨a, ss, m, rfl, TT, hz, k⟩ := h
    refine ⟨_, (pss_cons (ps_if (pt_cmpR op_gt (pe_p (pv 0) T.cText (ok_Text_size (K := K) T) (hr.mono (by decide)) pass0) (pv 1) (nomark _)) (pss_one (ps_rz T.x_TooLong (takes_of rfl rfl rfl rfl)))
    pss_nil)
    (pss_one (ps_ret (pe_lc (own := [("place", 2)]) rfl sc_key_row.nd (pi_range1 rfl T.n_range (pa_cons (pe_p (pv 0) T.cText (ok_Text_size (K := K) T) (hr.mono (by decide)) pass0) pa_nil)) (blkOk_by (own := [("place", 2)]) (N := N_key_row) (sc := (defScope s_key_row)) (by first | decide +kernel | rfl)) (fun _ _ _ _ _ => (pg_name (i := 2) sc_key_row.nd rfl (Or.inl rfl))) (fun _ _ _ _ _ => pts_nil) (fun _ _ _ _ _ => (pe_m (pv 0) T.cText (ok_Text_key_of (K := K) T) (hr.mono (by decide)) pass0 (pa_cons (pv 2) pa_nil))))))), ?_⟩
    refine rd_startE (show start N_key_row [.ref a, .int (m : Nat)] = [some (.ref a), some (.int (m : Nat)), none] from rfl) ?_
    walk_at "rd"
    exact k
end
section
variable {P : Program} {w : World} {K : PySem.W.Frag} {mg : Str → Option Value} {base : Heap} {CText CPart CTextError CInvalidStep CInvalidChanges CTooLong CInvalidPlace CInvalidKey CInvalidLetter CInvalidNumber c_x_law_is_changed p_x_law_is_changed c_law p_law : Addr}
theorem okR_tie_pattern (T : Txt K mg CText CPart CTextError CInvalidStep CInvalidChanges CTooLong CInvalidPlace CInvalidKey CInvalidLetter CInvalidNumber c_x_law_is_changed p_x_law_is_changed c_law p_law) : GOk P w K mg base (L2.CX P w) 5 "tie_pattern" (sp_tie_patternR K CTooLong CText CPart) := by
  refine T.d_tie_pattern.okX sc_tie_pattern (fun vs H Q E h => ?len) (fun f cdv A outer s H vs Q E hr h => ?_)
  case len => obtain ⟨a, ss, rfl, _⟩ := h; rfl
  · obtain ⟨a, ss, rfl, TT, hz, k⟩ := h
    refine ⟨_, (pss_cons (ps_set (i := 1) sc_tie_pattern.nd rfl (Or.inr rfl) pe_dnewK)
    (pss_one (ps_ret (pe_lc (own := [("key", 2)]) rfl sc_tie_pattern.nd (pi_listK (K := K) rfl (pe_g (okR_key_row (K := K) T) (hr.mono (by decide)) (passX (takes_of rfl rfl rfl rfl)) (pa_cons (pv 0) pa_nil))) (blkOk_by (own := [("key", 2)]) (N := N_tie_pattern) (sc := (defScope s_tie_pattern)) (by first | decide +kernel | rfl)) (fun _ _ _ _ _ => (pg_name (i := 2) sc_tie_pattern.nd rfl (Or.inl rfl))) (fun _ _ _ _ _ => pts_nil) (fun _ _ _ _ _ => (pe_dsetd (pv 1) (pv 2) (pe_callB lenD rfl T.n_len (by decide +kernel) (pa_cons (pv 1) pa_nil)) ⟨rfl, rfl, rfl, rfl⟩)))))), ?_⟩
    refine rd_startE (show start N_tie_pattern [.ref a] = [some (.ref a), none, none] from rfl) ?_
    walk_at "rd"
    refine fun d hd => ?_
    have S1 : Same H (upd H d (.dK [])) := Same.new (Same.refl _) hd
    revert S1
    generalize upd H d (.dK []) = H1
    intro S1
    walk_at "rd"
    exact ⟨a, ss, 2000, rfl, TT.kp (Kp.same S1), hz, k _ S1⟩
end
section
variable {P : Program} {w : World} {K : PySem.W.Frag} {mg : Str → Option Value} {base : Heap} {CText CPart CTextError CInvalidStep CInvalidChanges CTooLong CInvalidPlace CInvalidKey CInvalidLetter CInvalidNumber c_x_law_is_changed p_x_law_is_changed c_law p_law : Addr}
theorem okQ_tie_pattern (T : Txt K mg CText CPart CTextError CInvalidStep CInvalidChanges CTooLong CInvalidPlace CInvalidKey CInvalidLetter CInvalidNumber c_x_law_is_changed p_x_law_is_changed c_law p_law) : GOk P w K mg base (L2.CX P w) 40 "tie_pattern" (sp_tie_patternQ K CTooLong CText CPart) := (ok_tie_pattern T).or (okR_tie_pattern T) (by decide) (by decide)
theorem okR_first_unlike_tie (T : Txt K mg CText CPart CTextError CInvalidStep CInvalidChanges CTooLong CInvalidPlace CInvalidKey CInvalidLetter CInvalidNumber c_x_law_is_changed p_x_law_is_changed c_law p_law) : GOk P w K mg base (L2.CX P w) 41 "first_unlike_tie" (sp_first_unlike_tieR K CTooLong CText CPart) := by
  refine T.d_first_unlike_tie.okX sc_first_unlike_tie (fun vs H Q E h => ?len) (fun f cdv A outer s H vs Q E hr h => ?_)
  case len => obtain ⟨a, b, ss, tt, rfl, _⟩ := h; rfl
  · obtain ⟨a, b, ss, tt, rfl, T1, T2, h1, k⟩ := h
    refine ⟨_, (pss_cons (ps_par (i := 2) (j := 3) rfl sc_first_unlike_tie.nd rfl rfl (by decide) rfl rfl (pa_cons (pe_g (okQ_tie_pattern (K := K) T) (hr.mono (by decide)) (passX (takes_of rfl rfl rfl rfl)) (pa_cons (pv 0) pa_nil)) (pa_cons (pe_g (okQ_tie_pattern (K := K) T) (hr.mono (by decide)) (passX (takes_of rfl rfl rfl rfl)) (pa_cons (pv 1) pa_nil)) pa_nil)) rfl)
    (pss_cons (ps_for (passes_of rfl) rfl (pi_enZ (K := K) rfl rfl T.n_enumerate rfl T.n_zip (pa_cons (pv 2) (pa_cons (pv 3) pa_nil))) (pg_tupK (K := K) (n := 2) rfl rfl (pgs_cons (pg_name (i := 4) sc_first_unlike_tie.nd rfl (Or.inl rfl)) (pgs_cons (pg_tupK (K := K) (n := 2) rfl rfl (pgs_cons (pg_name (i := 5) sc_first_unlike_tie.nd rfl (Or.inl rfl)) (pgs_cons (pg_name (i := 6) sc_first_unlike_tie.nd rfl (Or.inl rfl)) pgs_nil))) pgs_nil))) (pss_one (ps_if (pt_cmpR (neK (K := K) rfl hr.units) (pv 5) (pv 6) (nomark _)) (pss_one (ps_ret (pv 4)))
    pss_nil)))
    (pss_one (ps_ret (pe_ifExp (pt_cmpR (eqK (K := K) rfl hr.units) (pe_callB (lenK (K := K) rfl) rfl T.n_len (by decide +kernel) (pa_cons (pv 2) pa_nil)) (pe_callB (lenK (K := K) rfl) rfl T.n_len (by decide +kernel) (pa_cons (pv 3) pa_nil)) (nomark _)) pe_non (pe_callB (cMin2 rfl) rfl T.n_min (by decide +kernel) (pa_cons (pe_callB (lenK (K := K) rfl) rfl T.n_len (by decide +kernel) (pa_cons (pv 2) pa_nil)) (pa_cons (pe_callB (lenK (K := K) rfl) rfl T.n_len (by decide +kernel) (pa_cons (pv 3) pa_nil)) pa_nil)))))))), ?_⟩
    refine rd_startE (show start N_first_unlike_tie [.ref a, .ref b] = [some (.ref a), some (.ref b), none, none, none, none, none] from rfl) ?_
    walk_at "rd"
    rcases h1 with h1 | ⟨h1, h2⟩
    · exact .inr ⟨a, ss, rfl, T1, h1, k⟩
    · refine .inl (rd_tieP T1 h1 fun l H2 S2 e2 => ?_)
      walk_at "rd"
      exact .inr ⟨b, tt, rfl, T2.kp (Kp.same S2), h2, fun H' S => k _ (S2.trans S)⟩
end
section
variable {P : Program} {w : World} {K : PySem.W.Frag} {mg : Str → Option Value} {base : Heap} {CText CPart CTextError CInvalidStep CInvalidChanges CTooLong CInvalidPlace CInvalidKey CInvalidLetter CInvalidNumber c_x_law_is_changed p_x_law_is_changed c_law p_law : Addr}
theorem okR_retyped_by (T : Txt K mg CText CPart CTextError CInvalidStep CInvalidChanges CTooLong CInvalidPlace CInvalidKey CInvalidLetter CInvalidNumber c_x_law_is_changed p_x_law_is_changed c_law p_law) : GOk P w K mg base (L2.CX P w) 7 "retyped_by" (sp_retyped_byR K CInvalidChanges CText CPart) := by
  refine T.d_retyped_by.okX sc_retyped_by (fun vs H Q E h => ?len) (fun f cdv A outer s H vs Q E hr h => ?_)
  case len => obtain ⟨a, v, ss, rfl, _⟩ := h; rfl
  · obtain ⟨a, v, ss, rfl, T1, h⟩ := h
    refine ⟨_, (pss_cons (ps_if (pt_not (pt_val (pe_callB (isiK (K := K) rfl) rfl T.n_isinstance (by decide +kernel) (pa_cons (pv 1) (pa_cons (pe_bltn (v := .ty "list") rfl T.n_list (by decide +kernel) rfl) pa_nil))))) (pss_one (ps_rzI T.x_InvalidChanges (ok_InvalidChanges_init (K := K) T) (hr.mono (by decide)) (takes_of rfl rfl rfl rfl) (pa_cons pe_int pa_nil)))
    pss_nil)
    (pss_cons (ps_for (passes_of rfl) rfl (pi_enumK (K := K) rfl rfl T.n_enumerate (pa_cons (pv 1) pa_nil)) (pg_tupK (K := K) (n := 2) rfl rfl (pgs_cons (pg_name (i := 2) sc_retyped_by.nd rfl (Or.inl rfl)) (pgs_cons (pg_name (i := 3) sc_retyped_by.nd rfl (Or.inl rfl)) pgs_nil))) (pss_one (ps_match (pv 3) (pcs_seq (qs := [.inr 4, .inr 5]) rfl sc_retyped_by.nd (PatEach.cap ⟨rfl, (Or.inl rfl), Or.inl rfl⟩ (PatEach.cap ⟨rfl, (Or.inl rfl), Or.inl rfl⟩ PatEach.nil)) rfl (pt_val (pe_callB (isiK (K := K) rfl) rfl T.n_isinstance (by decide +kernel) (pa_cons (pv 3) (pa_cons (pe_bltn (v := .ty "tuple") rfl T.n_tuple (by decide +kernel) rfl) pa_nil)))) (pss_one (ps_if (PW.pt (pw_or (pt_not (pt_val (pe_g (ok_is_integer (K := K) T) (hr.mono (by decide)) pass0 (pa_cons (pv 4) (pa_cons pe_int (pa_cons (pe_op op_sub (pe_callB (lenK (K := K) rfl) rfl T.n_len (by decide +kernel) (pa_cons (pe_p (pv 0) T.cText (ok_Text_typed_keys (K := K) T) (hr.mono (by decide)) pass0) pa_nil)) pe_int) pa_nil)))))) (pw_or1 (pt_not (pt_val (pe_g (ok_is_letter (K := K) T) (hr.mono (by decide)) pass0 (pa_cons (pv 5) pa_nil))))))) (pss_one (ps_rzI T.x_InvalidChanges (ok_InvalidChanges_init (K := K) T) (hr.mono (by decide)) (takes_of rfl rfl rfl rfl) (pa_cons (pv 2) pa_nil)))
    pss_nil))
    (pcs_wild (pss_one (ps_rzI T.x_InvalidChanges (ok_InvalidChanges_init (K := K) T) (hr.mono (by decide)) (takes_of rfl rfl rfl rfl) (pa_cons (pv 2) pa_nil))))))))
    (pss_cons (ps_for (passes_of rfl) rfl (pi_listK (K := K) rfl (pv 1)) (pg_tupK (K := K) (n := 2) rfl rfl (pgs_cons (pg_name (i := 6) sc_retyped_by.nd rfl (Or.inl rfl)) (pgs_cons (pg_name (i := 7) sc_retyped_by.nd rfl (Or.inl rfl)) pgs_nil))) (pss_one (ps_set (i := 0) sc_retyped_by.nd rfl (Or.inl rfl) (pe_m (pv 0) T.cText (ok_Text_retyped (K := K) T) (hr.mono (by decide)) pass0 (pa_cons (pv 6) (pa_cons (pv 7) pa_nil))))))
    (pss_one (ps_ret (pv 0)))))), ?_⟩
    refine rd_startE (show start N_retyped_by [.ref a, v] = [some (.ref a), some (v), none, none, none, none, none, none] from rfl) ?_
    have ok1 := T1.ok
    walk_at "rd"
    rcases h with ⟨hv, k⟩ | ⟨l, xs, cs, b, rfl, el, hl, hb, bb, hx, k⟩
    · rcases hv with hv | ⟨p, xs, rfl, hp⟩
      · refine rd_isi_ibn_list hv ?_
        walk_at "rd"
        refine rd_rzI ?_
        walk_at "rd"
        exact rd_mk1 (by decide) fun d hd => k d _ (Same.new (Same.refl _) hd) upd_same
      · refine rd_isi_tup_list hp ?_
        walk_at "rd"
        refine rd_rzI ?_
        walk_at "rd"
        exact rd_mk1 (by decide) fun d hd => k d _ (Same.new (Same.refl _) hd) upd_same
    · refine rd_isi_lst_list (SqL.of el) ?_
      walk_at "rd"
      have hbl := (List.getElem?_eq_some_iff.mp hb).1
      refine ⟨l, _, rfl, SqL.of el, for_pair (J := Ite K l) (n := xs.length) (it := fun i => [.int (i : Nat), (xs[i]?).getD .non]) (fun i σ H' => i ≤ cs.length ∧ ∃ v2 v3 v4 v5 v6 v7, σ = [some (.ref a), some (.ref l), v2, v3, v4, v5, v6, v7] ∧ Same H H')
        ⟨Nat.zero_le _, _, _, _, _, _, _, rfl, Same.refl _⟩ (fun i σ H' _ ⟨_, _, _, _, _, _, _, _, S⟩ => pairy_enum (SqL.of (S _ _ el))) ?_ ?_⟩
      · rintro i Tu σ H2 hi ⟨hic, v2, v3, v4, v5, v6, v7, rfl, S2⟩ hT
        refine rd_gtup (SqT.of upd_same) rfl ?_
        have S3 : Same H2 (upd H2 Tu (.tup [.int (i : Nat), (xs[i]?).getD .non])) := Same.new (Same.refl _) hT
        by_cases hlt : i < cs.length
        · have hci : cs[i]? = some (cs[i]'hlt) := List.getElem?_eq_getElem _
          obtain ⟨c1, c2, c3, T0, ex, eT⟩ := hx i _ hci
          generalize cs[i]'hlt = cc at c1 c2 c3 ex eT
          rw [ex, Option.getD_some] at S3 ⊢
          revert S3
          generalize upd H2 Tu _ = H3
          intro S3
          have T3 := T1.kp (Kp.same (S2.trans S3))
          have eT3 := S3 _ _ (S2 _ _ eT)
          walk_at "rd"
          have em : mBind [.inr 4, .inr 5] [.int (cc.1 : Nat), .str ⟨#[cc.2]⟩] = some [(4, .int (cc.1 : Nat)), (5, .str ⟨#[cc.2]⟩)] := by simp [mBind]
          refine .inr ⟨T0, _, rfl, .inl (SqT.of eT3), .inr ⟨rfl, trivial, ?_⟩⟩
          rw [em]
          walk_at "rd"
          refine rd_isi_tup_tuple (SqT.of eT3) ?_
          walk_at "rd"
          refine rd_len_str (by rw [mkS_len]; exact tyL_line ok1 T1.few) ?_
          walk_at "rd"
          rw [mkS_len]
          refine rd_isIntT (by omega) ?_
          walk_at "rd"
          refine rd_isLetter ⟨c2, c3⟩ ?_
          walk_at "rd"
          exact ⟨hlt, _, _, _, _, _, _, rfl, S2.trans S3⟩
        · have ei : i = cs.length := by omega
          subst ei
          rw [hb, Option.getD_some] at S3 ⊢
          revert S3
          generalize upd H2 Tu _ = H3
          intro S3
          have T3 := T1.kp (Kp.same (S2.trans S3))
          have bb3 := bb.mono (S2.trans S3)
          walk_at "rd"
          rcases bb3 with bb3 | ⟨p, ys, rfl, hy, bb3⟩
          · refine .inl ⟨bb3, ?_⟩
            refine rd_rzI ?_
            walk_at "rd"
            exact rd_mk1 (by omega) fun d hd => k d _ (Same.new (S2.trans S3) hd) upd_same
          · by_cases l2 : ys.length = 2
            · match ys, l2, hy, bb3 with
              | [y1, y2], _, hy, bb3 =>
                have h1 := hy y1 (.head _)
                have h2 := hy y2 (.tail _ (.head _))
                have em : mBind [.inr 4, .inr 5] [y1, y2] = some [(4, y1), (5, y2)] := by simp [mBind]
                refine .inr ⟨p, _, rfl, bb3.imp (·.1) id, .inr ⟨rfl, trivial, ?_⟩⟩
                rw [em]
                rcases bb3 with ⟨hq, hc⟩ | hq
                · walk_at "rd"
                  refine rd_isi_tup_tuple hq ?_
                  walk_at "rd"
                  refine rd_len_str (by rw [mkS_len]; exact tyL_line ok1 T1.few) ?_
                  walk_at "rd"
                  rw [mkS_len]
                  refine ⟨_, _, _, rfl, h1.1, ?_⟩
                  have hc : (isInt 0 (((tyL ss).length : Int) - 1) y1 && isLet y2) = false := hc
                  cases b1 : isInt 0 (((tyL ss).length : Int) - 1) y1 with
                  | false =>
                    walk_at "rd"
                    refine rd_rzI ?_
                    walk_at "rd"
                    exact rd_mk1 (by omega) fun d hd => k d _ (Same.new (S2.trans S3) hd) upd_same
                  | true =>
                    rw [b1, Bool.true_and] at hc
                    walk_at "rd"
                    refine ⟨y2, rfl, h2.1, h2.2, ?_⟩
                    rw [hc]
                    walk_at "rd"
                    refine rd_rzI ?_
                    walk_at "rd"
                    exact rd_mk1 (by omega) fun d hd => k d _ (Same.new (S2.trans S3) hd) upd_same
                · walk_at "rd"
                  refine rd_isi_lst_tuple hq ?_
                  walk_at "rd"
                  refine rd_rzI ?_
                  walk_at "rd"
                  exact rd_mk1 (by omega) fun d hd => k d _ (Same.new (S2.trans S3) hd) upd_same
            · refine .inr ⟨p, _, rfl, bb3.imp (·.1) id, .inl ⟨l2, ?_⟩⟩
              refine rd_rzI ?_
              walk_at "rd"
              exact rd_mk1 (by omega) fun d hd => k d _ (Same.new (S2.trans S3) hd) upd_same
      · rintro σ H2 ⟨hic, v2, v3, v4, v5, v6, v7, rfl, S2⟩
        omega
end

local macro_rules | `(tactic| walk_at "kl") => `(tactic| first | exact Kl.refl | assumption | ((with_reducible refine' Kl.trans ?kx ?ky); (case ky => assumption); (case kx => walk_at "kl")) | ((with_reducible refine' Kl.trans ?kx (Kl.kp ?ky)); (case ky => assumption); (case kx => walk_at "kl")) | ((with_reducible refine' Kl.trans ?kx (Kx.kl ?ky)); (case ky => assumption); (case kx => walk_at "kl")) | ((with_reducible refine' Kl.trans ?kx (Kl.same ?ky)); (case ky => assumption); (case kx => walk_at "kl")))
local macro_rules | `(tactic| walk_at "tx") => `(tactic| first | assumption | ((with_reducible refine' TX.kl ?tx1 ?tx2); (case tx1 => assumption); (case tx2 => walk_at "kl")))
local macro_rules | `(tactic| walk_at "ts") => `(tactic| first | assumption | ((with_reducible refine' TS'.kl ?tx1 ?tx2); (case tx1 => assumption); (case tx2 => walk_at "kl")) | ((with_reducible refine' ts_nil ?tx1); (case tx1 => assumption)))
local macro_rules | `(tactic| walk_at "sx") => `(tactic| first | assumption | ((with_reducible refine' SX.kl ?tx1 ?tx2); (case tx1 => assumption); (case tx2 => walk_at "kl")) | ((with_reducible refine' TS'.sx ?tx1); (case tx1 => walk_at "ts")))
local macro_rules | `(tactic| walk_at "row") => `(tactic| first | assumption | ((with_reducible refine' RowAt.mono ?tx1 ?tx2); (case tx1 => walk_at "row"); (case tx2 => walk_at "sm")) | ((with_reducible refine' Kx.row ?tx2 ?tx1); (case tx2 => assumption); (case tx1 => walk_at "row")))
local macro_rules | `(tactic| walk_at "ls") => `(tactic| first | assumption | ((with_reducible refine' kl_natV ?tx1 ?tx2); (case tx1 => assumption); (case tx2 => walk_at "kl")) | ((with_reducible refine' kl_sgV ?tx1 ?tx2); (case tx1 => assumption); (case tx2 => walk_at "kl")) | ((refine' Same.lk ?tx1 ?tx2); (case tx1 => assumption); (case tx2 => walk_at "sm")))
local macro_rules | `(tactic| walk_at "tb") => `(tactic| first | assumption | ((with_reducible refine' Kl.tabs ?tx2 ?tx1); (case tx1 => assumption); (case tx2 => walk_at "kl")))
local macro_rules | `(tactic| walk_at "rd1") => `(tactic| first | with_reducible refine rd_p9 ?_ | ((with_reducible refine' rd_stepsQ ?k1 ?k2 ?k3 ?k4 ?k5 ?_); (case k1 => walk_at "row"); (case k2 => omega); (case k3 => omega); (case k4 => omega); (case k5 => omega)))
section
variable {P : Program} {w : World} {K : PySem.W.Frag} {mg : Str → Option Value} {base : Heap} {CText CPart CTextError CInvalidStep CInvalidChanges CTooLong CInvalidPlace CInvalidKey CInvalidLetter CInvalidNumber c_x_law_is_changed p_x_law_is_changed c_law p_law : Addr}
theorem ok_x_law_is_changed (T : Txt K mg CText CPart CTextError CInvalidStep CInvalidChanges CTooLong CInvalidPlace CInvalidKey CInvalidLetter CInvalidNumber c_x_law_is_changed p_x_law_is_changed c_law p_law) (LB : Lms K mg base c_x_law_is_changed p_x_law_is_changed c_law p_law) : GOk P w K mg base CX0 73 "_law_is_changed" (sp_x_law_is_changed K CText CPart (TL p_x_law_is_changed p_law)) := by
  refine T.d_x_law_is_changed.ok sc_x_law_is_changed (fun vs H Q E h => ?len) (fun f A outer s H vs Q E hr h => ?_)
  case len => obtain ⟨r, a, l, ss, rfl, _⟩ := h; rfl
  · obtain ⟨r, a, l, ss, rfl, row, tab, T1, hz, el, k⟩ := h
    have ok1 := T1.ok
    have hl6 := tyL_600 T1
    refine ⟨_, (pss_cons (ps_asg (pe_tup (pa_cons (pe_callTy (cr_listStr rfl) rfl T.n_list (by decide +kernel) (pa_cons (pv 3) pa_nil)) (pa_cons (pe_lst pa_nil) pa_nil))) (pg_tupK (K := K) (n := 2) rfl rfl (pgs_cons (pg_name (i := 4) sc_x_law_is_changed.nd rfl (Or.inl rfl)) (pgs_cons (pg_name (i := 5) sc_x_law_is_changed.nd rfl (Or.inr rfl)) pgs_nil))))
    (pss_cons (ps_for PassesOwn.never rfl (pi_range1 rfl T.n_range (pa_cons (pe_op oMul (pe_g (ok_x_law_taken (K := K) T) (hr.mono (by decide)) pass0 (pa_cons (pv 0) (pa_cons pe_int pa_nil))) (pe_callTy cInt rfl T.n_int (by decide +kernel) (pa_cons (pe_cmpR (neK (K := K) rfl hr.units) (pv 3) pe_str (nomark _)) pa_nil))) pa_nil)) (pg_name (i := 6) sc_x_law_is_changed.nd rfl (Or.inr rfl)) (pss_cons (ps_expr (pe_bmK (K := K) rfl PySem.F.plainAttrs_list PySem.F.slot_list_append PySem.F.type_list_append mt_append (pv 5) (pa_cons (pe_tup (pa_cons (pe_g (ok_x_law_taken (K := K) T) (hr.mono (by decide)) pass0 (pa_cons (pv 0) (pa_cons (pe_callB (lenK (K := K) rfl) rfl T.n_len (by decide +kernel) (pa_cons (pv 3) pa_nil)) pa_nil))) (pa_cons (pe_ix (ixK (K := K) rfl) pe_str (pe_g (ok_x_law_taken (K := K) T) (hr.mono (by decide)) pass0 (pa_cons (pv 0) (pa_cons pe_int pa_nil))) (fun _ _ => rfl)) pa_nil))) pa_nil)))
    (pss_one (ps_asg (pe_ix (ixK (K := K) rfl) (pe_ix (ixK (K := K) rfl) (pv 5) (pe_un un_neg pe_int) (fun _ _ => rfl)) pe_int (fun _ _ => rfl)) (pg_sub (pv 4) (pe_ix (ixK (K := K) rfl) (pe_ix (ixK (K := K) rfl) (pv 5) (pe_un un_neg pe_int) (fun _ _ => rfl)) pe_int (fun _ _ => rfl)) set_list)))))
    (pss_cons (ps_set (i := 7) sc_x_law_is_changed.nd rfl (Or.inr rfl) (pe_g (ok_retyped_by (K := K) T) (hr.mono (by decide)) pass0 (pa_cons (pv 1) (pa_cons (pv 5) pa_nil))))
    (pss_cons (ps_if (PW.pt (pw_or (pt_cmpR (neK (K := K) rfl hr.units) (pe_p (pv 7) T.cText (ok_Text_typed_keys (K := K) T) (hr.mono (by decide)) pass0) (pe_joinK (K := K) rfl pe_str (pv 4)) (nomark _)) (pw_or1 (pt_cmpR (neK (K := K) rfl hr.units) (pe_lc (own := [("_law_place", 8)]) rfl sc_x_law_is_changed.nd (pi_range1 rfl T.n_range (pa_cons (pe_p (pv 7) T.cText (ok_Text_size (K := K) T) (hr.mono (by decide)) pass0) pa_nil)) (blkOk_by (own := [("_law_place", 8)]) (N := N_x_law_is_changed) (sc := (defScope s_x_law_is_changed)) (by first | decide +kernel | rfl)) (fun _ _ _ _ _ => (pg_name (i := 8) sc_x_law_is_changed.nd rfl (Or.inl rfl))) (fun _ _ _ _ _ => pts_nil) (fun _ _ _ _ _ => (pe_o (pv 7) (ok_Text_call (K := K) T) (hr.mono (by decide)) pass0 (pa_cons (pv 8) pa_nil)))) (pv 2) (nomark _))))) (pss_one (ps_ret pe_bl))
    pss_nil)
    (pss_cons (ps_set (i := 6) sc_x_law_is_changed.nd rfl (Or.inr rfl) (pe_g (ok_x_law_taken (K := K) T) (hr.mono (by decide)) pass0 (pa_cons (pv 0) (pa_cons (pe_op (addK (K := K) rfl) (pe_callB (lenK (K := K) rfl) rfl T.n_len (by decide +kernel) (pa_cons (pv 5) pa_nil)) pe_int) pa_nil))))
    (pss_cons (ps_for PassesOwn.never rfl (pi_tupK (K := K) rfl (pe_tup (pa_cons (pe_tup (pa_cons (pe_callB (lenK (K := K) rfl) rfl T.n_len (by decide +kernel) (pa_cons (pv 3) pa_nil)) (pa_cons pe_str pa_nil))) (pa_cons (pe_tup (pa_cons (pe_op op_sub pe_int pe_int) (pa_cons pe_str pa_nil))) (pa_cons (pe_tup (pa_cons pe_int (pa_cons pe_str pa_nil))) (pa_cons (pe_tup (pa_cons pe_int pa_nil)) (pa_cons (pe_lst (pa_cons pe_int (pa_cons pe_str pa_nil))) (pa_cons pe_non (pa_cons (pe_tup (pa_cons pe_str (pa_cons pe_int pa_nil))) (pa_cons (pe_tup (pa_cons pe_int (pa_cons pe_str (pa_cons pe_int pa_nil)))) (pa_cons (pe_tup (pa_cons pe_bl (pa_cons pe_str pa_nil))) pa_nil))))))))))) (pg_name (i := 9) sc_x_law_is_changed.nd rfl (Or.inr rfl)) (pss_one (ps_if (pt_cmpR (neK (K := K) rfl hr.units) (pe_giv (k := 70) T.d_x_law_raised sc_x_law_raised (fun g cdg => gv_x_law_raised T g cdg) (hr.mono (by decide)) (pe_lam (T := (TL p_x_law_is_changed p_law)) (k := 70) LB.tb_x_law_is_changed rfl (.head _) LB.hu_x_law_is_changed (lamC_by (N := N_x_law_is_changed) (sc := defScope s_x_law_is_changed) (by decide +kernel)) (fun A outer s H E f c' hr => (pe_g (okR_retyped_by (K := K) T) (hr.mono (by decide)) (passX (takes_of rfl rfl rfl rfl)) (pa_cons (pv 1) (pa_cons (pe_op (addK (K := K) rfl) (pe_op (addK (K := K) rfl) (pe_slice (slK (K := K) rfl) (pv 5) po_none (po_some (pv 6))) (pe_lst (pa_cons (pv 9) pa_nil))) (pe_slice (slK (K := K) rfl) (pv 5) (po_some (pv 6)) po_none)) pa_nil)))))) (pe_tup (pa_cons pe_str (pa_cons (pv 6) pa_nil))) (nomark _)) (pss_one (ps_ret pe_bl))
    pss_nil)))
    (pss_one (ps_ret (pe_cmpR (eqK (K := K) rfl hr.units) (pe_lc (own := [("_law_bad", 9)]) rfl sc_x_law_is_changed.nd (pi_tupK (K := K) rfl (pe_tup (pa_cons pe_non (pa_cons (pe_tup pa_nil) (pa_cons pe_int pa_nil))))) (blkOk_by (own := [("_law_bad", 9)]) (N := N_x_law_is_changed) (sc := (defScope s_x_law_is_changed)) (by first | decide +kernel | rfl)) (fun _ _ _ _ _ => (pg_name (i := 9) sc_x_law_is_changed.nd rfl (Or.inr rfl))) (fun _ _ _ _ _ => (pts_one (pt_cmpR (neK (K := K) rfl hr.units) (pe_givL (k := 70) (T := (TL p_x_law_is_changed p_law)) (TT := (fun tl H Q => tl (fun cls d H' => RzAns K CTextError [CInvalidStep, CInvalidChanges, CTooLong, CInvalidPlace, CInvalidKey, CInvalidLetter, CInvalidNumber] cls d H' Q) H fun _ H' => Q .non H')) (pe_giv (k := 70) T.d_x_law_raised sc_x_law_raised (fun g cdg => gv_x_law_raised T g cdg) (hr.mono (by decide)) (pe_lam (T := (TL p_x_law_is_changed p_law)) (k := 70) LB.tb_x_law_is_changed rfl (.head _) LB.hu_x_law_is_changed (by exact lamC_by (by first | decide +kernel | rfl)) (fun A outer s H E f c' hr => (pe_g (okR_retyped_by (K := K) T) (hr.mono (by decide)) (passX (takes_of rfl rfl rfl rfl)) (pa_cons (pv 1) (pa_cons (pv 9) pa_nil))))))) (pe_tup (pa_cons pe_str (pa_cons pe_int pa_nil))) (nomark _)))) (fun _ _ _ _ _ => (pv 9))) (pe_lst pa_nil) (nomark _)))))))))), ?_⟩
    refine rd_startE (show start N_x_law_is_changed [.ref r, .ref a, .ref l, .str (mkS (tyL ss))] = [some (.ref r), some (.ref a), some (.ref l), some (.str (mkS (tyL ss))), none, none, none, none, none, none] from rfl) ?_
    walk_at "rd"
    refine ⟨_, rfl, by rw [mkS_len]; exact tyL_line ok1 T1.few, fun ln nl => ?_⟩
    have S1 := Same.new (o := HO.lst (sgV (tl (mkS (tyL ss))))) (Same.refl H) nl
    have e1 := @upd_same H ln (HO.lst (sgV (tl (mkS (tyL ss)))))
    revert S1 e1
    generalize upd H ln _ = H1
    intro S1 e1
    walk_at "rd"
    intro lc H2 S2 e2 nlc
    have hne : ln ≠ lc := ne_of_none e1 nlc
    have nlc0 : H lc = none := by
      cases z : H lc with
      | none => rfl
      | some o => exact absurd ((S1 _ _ z).symm.trans nlc) (by simp)
    have e1 := S2 _ _ e1
    walk_at "rd"
    intro pt H3 S3 e3 _
    refine rd_gtup (SqT.of e3) rfl ?_
    have e1 := S3 _ _ e1
    have e2 := S3 _ _ e2
    have S := (S1.trans S2).trans S3
    have row3 := row.mono S
    clear S1 S2 S3 e3
    walk_at "rd"
    intro n H4 hn k4 row4
    have e1 : H4 ln = some (HO.lst (sgV (tl (mkS (tyL ss))))) := k4.keep _ _ nr_sgV e1
    have e2 : H4 lc = some (HO.lst []) := k4.keep _ _ (nr_refs (fun _ h => nomatch h)) e2
    have S4 := (Kp.same S).trans k4
    clear S k4 row3
    walk_at "rd"
    refine rd_mul_int (.inl ⟨by omega, by omega⟩) ?_
    obtain ⟨m, em, hm, hm1⟩ := mul_flag n (tyL ss)
    rw [em]
    walk_at "rd"
    refine ⟨_, rfl, by omega, by omega, for_range (fun i σ H' => ∃ v6 cs, σ = [some (.ref r), some (.ref a), some (.ref l), some (.str (mkS (tyL ss))), some (.ref ln), some (.ref lc), v6, none, none, none] ∧ RowAt K H' r ∧ Kp H H' ∧ H' ln = some (.lst (sgV (tyL (rts cs ss)))) ∧ ChAt K H' lc cs (tyL ss).length ∧ cs.length = i)
      ⟨_, [], rfl, row4, S4, e1, ⟨[], e2, rfl, fun i c h => by simp at h⟩, rfl⟩ ?_ ?_⟩
    · rintro i σ H5 hi ⟨v6, cs, rfl, row5, k5, eln, hcs, hcl⟩
      have hl1 := hm1 (by omega)
      obtain ⟨xs, ex, hxl, hxs⟩ := hcs
      walk_at "rd"
      refine rd_tyL (SqL.of ex) _ ?_
      walk_at "rd"
      intro kx H6 hk6 k6 row6
      walk_at "rd"
      intro c4 H7 hc4 k7 row7
      obtain ⟨c, e1, e2⟩ : ∃ c, (tl ("abcq" : Str))[c4]? = some c ∧ (97 ≤ c ∧ c ≤ 122) := by
        have e : tl ("abcq" : Str) = [97, 98, 99, 113] := by decide +kernel
        rw [e]
        match c4, hc4 with
        | 0, _ => exact ⟨97, rfl, by omega⟩
        | 1, _ => exact ⟨98, rfl, by omega⟩
        | 2, _ => exact ⟨99, rfl, by omega⟩
        | 3, _ => exact ⟨113, rfl, by omega⟩
        | _ + 4, h => omega
      refine rd_ixSn (Nat.le_trans (show ("abcq" : Str).length ≤ 4 by decide +kernel) four_line) e1 ?_
      walk_at "rd"
      intro pT H8 S8 e8 n8
      walk_at "rd"
      have hrf : ∀ v ∈ xs, isRef v = true := by
        intro v hv
        obtain ⟨j, hj, rfl⟩ := List.getElem_of_mem hv
        obtain ⟨_, _, _, T0, ex0, _⟩ := hxs j (cs[j]'(by omega)) (List.getElem?_eq_getElem _)
        rw [List.getElem?_eq_getElem hj] at ex0
        rw [Option.some.inj ex0]; rfl
      have ex8 : H8 lc = some (.lst xs) := S8 _ _ (k7.keep _ _ (nr_refs hrf) (k6.keep _ _ (nr_refs hrf) ex))
      have eln8 : H8 ln = some (.lst (sgV (tyL (rts cs ss)))) := S8 _ _ (k7.keep _ _ nr_sgV (k6.keep _ _ nr_sgV eln))
      have row8 := row7.mono S8
      have k8 : Kp H H8 := ((k5.trans k6).trans k7).trans (Kp.same S8)
      have hcs8 : ChAt K H8 lc cs (tyL ss).length := ⟨xs, ex8, hxl, fun i c hc => let ⟨a1, a2, a3, T0, b1, b2⟩ := hxs i c hc; ⟨a1, a2, a3, T0, b1, S8 _ _ (k7.keep _ _ nr_tup (k6.keep _ _ nr_tup b2))⟩⟩
      refine rd_append ex8 (by rw [sizeLine_eq]; show _ < 16777216; omega) ?_
      have hcs9 := hcs8.snoc ex8 (k := kx) (c := c) (p := pT) (by omega) e2 e8
      have row9 : RowAt K (upd H8 lc (.lst (xs ++ [V.ref pT]))) r := row.butL k8 nlc0 row8 ex8
      have k9 : Kp H (upd H8 lc (.lst (xs ++ [V.ref pT]))) := k8.mut nlc0
      have ex9 := @upd_same H8 lc (HO.lst (xs ++ [V.ref pT]))
      have eln9 : upd H8 lc (.lst (xs ++ [V.ref pT])) ln = some (.lst (sgV (tyL (rts cs ss)))) := by rw [upd_ne hne]; exact eln8
      have e9 : upd H8 lc (.lst (xs ++ [V.ref pT])) pT = some (.tup [.int (kx : Nat), .str ⟨#[c]⟩]) := by rw [upd_ne (fun z => by subst z; rw [ex8] at e8; cases e8)]; exact e8
      revert hcs9 row9 k9 ex9 eln9 e9
      generalize upd H8 lc _ = H9
      intro hcs9 row9 k9 ex9 eln9 e9
      clear hcs8 row8 k8 ex8 eln8 e8 S8 row7 k7 row6 k6 row5 k5 ex eln hxs
      walk_at "rd"
      refine rd_ixI ?_ (SqL.of ex9) (atI_last _ _)
      walk_at "rd"
      refine rd_ixT ?_ (SqT.of e9) rfl
      walk_at "rd"
      refine rd_ixI ?_ (SqL.of ex9) (atI_last _ _)
      walk_at "rd"
      refine rd_ixT ?_ (SqT.of e9) rfl
      refine rd_setL (j := kx) eln9 (by unfold sgV; rw [List.length_map, tyL_rts_len]; exact ixN_natx (by omega)) ?_
      rw [sgV_set, ← tyL_rt0, ← rts_snoc cs (kx, c)]
      exact ⟨_, cs ++ [(kx, c)], rfl, row.butL k9 nl row9 eln9, k9.mut nl, upd_same, hcs9.but (fun b o hb hs => by rw [upd_ne hb]; exact hs) eln9 (Ne.symm hne), by rw [List.length_append, List.length_singleton]; omega⟩
    · rintro σ H5 ⟨v6, cs, rfl, row5, k5, eln, hcs, hcl⟩
      walk_at "rd"
      refine rd_retypedBy (T1.kp k5) hcs (by omega) fun x6 H6 S6 T6 => ?_
      have eln6 := S6 _ _ eln
      walk_at "rd"
      refine rd_joinS eln6 (by rw [tyL_rts_len]; omega) ?_
      walk_at "rd"
      have ok6 := T6.ok
      have hz6 : sz (rts cs ss) = sz ss := sz_rts cs ss
      have el5 : H5 l = some (.lst (natV (ks ss))) := k5.keep _ _ nr_natV el
      refine ⟨_, rfl, by omega, by omega, fun D hD => lc_fun (n := sz (rts cs ss)) (it := fun j => .int (0 + (j : Nat))) (by rw [Int.toNat_natCast]; exact plain_rng) hD (by rw [sizeLine_eq]; omega) (fun _ => rfl) (fun j => .int (kat (rts cs ss) j : Nat)) (fun j H7 Q7 hj S7 q => ?_) fun H7 S7 eD => ?_⟩
      · have T7 := T6.kp (Kp.same S7)
        walk_at "rd"
        rw [show ((0 : Int) + (j : Nat)).toNat = j by omega]
        exact q _ (Same.refl _)
      · rw [range_kat (rts cs ss) ok6 fun x => V.int (x : Nat), ks_rts] at eD
        have el7 := S7 _ _ (S6 _ _ el5)
        have row7 := (row5.mono S6).mono S7
        have k7 : Kp H H7 := (k5.trans (Kp.same S6)).trans (Kp.same S7)
        have hcs7 := (hcs.mono S6).mono S7
        walk_at "rd"
        obtain ⟨xs, ex, hxl, hxs⟩ := hcs7
        have hrf : ∀ v ∈ xs, isRef v = true := by
          intro v hv
          obtain ⟨j, hj, rfl⟩ := List.getElem_of_mem hv
          obtain ⟨_, _, _, T0, ex0, _⟩ := hxs j (cs[j]'(by omega)) (List.getElem?_eq_getElem _)
          rw [List.getElem?_eq_getElem hj] at ex0
          rw [Option.some.inj ex0]; rfl
        refine rd_len_lst (SqL.of ex) ?_
        walk_at "rd"
        intro kk H8 hkk k8 row8
        have ex8 : H8 lc = some (.lst xs) := k8.keep _ _ (nr_refs hrf) ex
        have hxs8 : ∀ (i : Nat) (c : Nat × Nat), cs[i]? = some c → c.1 < (tyL ss).length ∧ 97 ≤ c.2 ∧ c.2 ≤ 122 ∧ ∃ T, xs[i]? = some (V.ref T) ∧ H8 T = some (.tup [.int (c.1 : Nat), .str ⟨#[c.2]⟩]) :=
          fun i c hc => let ⟨a1, a2, a3, T0, b1, b2⟩ := hxs i c hc; ⟨a1, a2, a3, T0, b1, k8.keep _ _ nr_tup b2⟩
        have k9 := k7.trans k8
        have T8 := T1.kp k9
        have tab8 := (Kl.kp k9).tabs tab
        clear hxs ex row7 k7 k8 el7 eD hcs eln eln6 T6 row5 k5 S6 S7
        walk_at "rd"
        intro b1 G1 V1 w1 _
        have c1 : BadCh K G1 ((tyL ss).length : Nat) (.ref b1) := bch_tup w1 rfl (isCh_no (decide_eq_false (by omega)))
        clear w1
        walk_at "rd"
        intro b2 G2 V2 w2 _
        have c2 : BadCh K G2 ((tyL ss).length : Nat) (.ref b2) := bch_tup w2 rfl (isCh_no (decide_eq_false (p := (0 : Int) ≤ 0 - 1 ∧ (0 - 1 : Int) ≤ ((tyL ss).length : Int) - 1) (by omega)))
        clear w2
        walk_at "rd"
        intro b3 G3 V3 w3 _
        have c3 : BadCh K G3 ((tyL ss).length : Nat) (.ref b3) := bch_tup w3 (by decide +kernel) (isCh_let (by decide +kernel))
        clear w3
        walk_at "rd"
        intro b4 G4 V4 w4 _
        have c4 : BadCh K G4 ((tyL ss).length : Nat) (.ref b4) := bch_tup w4 rfl rfl
        clear w4
        walk_at "rd"
        intro b5 G5 V5 w5 _
        have c5 : BadCh K G5 ((tyL ss).length : Nat) (.ref b5) := bch_lst w5 (by decide +kernel)
        clear w5
        walk_at "rd"
        intro b6 G6 V6 w6 _
        have c6 : BadCh K G6 ((tyL ss).length : Nat) (.ref b6) := bch_tup w6 (by decide +kernel) (isCh_no rfl)
        clear w6
        walk_at "rd"
        intro b7 G7 V7 w7 _
        have c7 : BadCh K G7 ((tyL ss).length : Nat) (.ref b7) := bch_tup w7 (by decide +kernel) rfl
        clear w7
        walk_at "rd"
        intro b8 G8 V8 w8 _
        have c8 : BadCh K G8 ((tyL ss).length : Nat) (.ref b8) := bch_tup w8 (by decide +kernel) (isCh_no rfl)
        clear w8
        walk_at "rd"
        intro pt9 G9 V9 w9 _
        have bads : ∀ v ∈ [V.ref b1, V.ref b2, V.ref b3, V.ref b4, V.ref b5, V.non, V.ref b6, V.ref b7, V.ref b8], BadCh K G9 ((tyL ss).length : Nat) v := by
          intro v hv
          simp only [List.mem_cons, List.not_mem_nil, or_false] at hv
          rcases hv with rfl | rfl | rfl | rfl | rfl | rfl | rfl | rfl | rfl
          · exact c1.mono (by walk_at "sm")
          · exact c2.mono (by walk_at "sm")
          · exact c3.mono (by walk_at "sm")
          · exact c4.mono (by walk_at "sm")
          · exact c5.mono (by walk_at "sm")
          · exact .inl trivial
          · exact c6.mono (by walk_at "sm")
          · exact c7.mono (by walk_at "sm")
          · exact c8.mono (by walk_at "sm")
        have S9 : Same H8 G9 := by walk_at "sm"
        clear c1 c2 c3 c4 c5 c6 c7 c8 V1 V2 V3 V4 V5 V6 V7 V8 V9
        walk_at "rd"
        have k9' : Kp H G9 := k9.trans (Kp.same S9)
        have row9 := row8.mono S9
        have T9 := T8.kp (Kp.same S9)
        have tab9 := (Kl.same S9).tabs tab8
        have ex9 := S9 _ _ ex8
        have hxs9 : ∀ (i : Nat) (c : Nat × Nat), cs[i]? = some c → c.1 < (tyL ss).length ∧ 97 ≤ c.2 ∧ c.2 ≤ 122 ∧ ∃ T, xs[i]? = some (V.ref T) ∧ G9 T = some (.tup [.int (c.1 : Nat), .str ⟨#[c.2]⟩]) :=
          fun i c hc => let ⟨a1, a2, a3, T0, b1, b2⟩ := hxs8 i c hc; ⟨a1, a2, a3, T0, b1, S9 _ _ b2⟩
        clear hxs8 ex8 tab8 T8 k9 row8 S9
        refine ⟨⟨_, SqT.of w9⟩, for_tup (xs := [V.ref b1, V.ref b2, V.ref b3, V.ref b4, V.ref b5, V.non, V.ref b6, V.ref b7, V.ref b8]) (fun i σ H' => ∃ v9, σ = [some (.ref r), some (.ref a), some (.ref l), some (.str (mkS (tyL ss))), some (.ref ln), some (.ref lc), some (.int (kk : Nat)), some (.ref x6), none, v9] ∧ Kx (TL p_x_law_is_changed p_law) G9 H')
          ⟨_, rfl, .refl⟩ (fun i σ H' _ ⟨_, _, x⟩ => x.tup (SqT.of w9)) ?_ ?_⟩
        · rintro i v σ J1 hv ⟨v9, rfl, y1⟩
          have bad := bads v (List.mem_of_getElem? hv)
          walk_at "rd"
          refine rd_giv (y1.tabs tab9) fun J2 y2 => ?_
          have y3 := y1.trans y2
          have T2 := T9.kl y3.kl
          walk_at "rd"
          refine rd_slToV (y3.kl.keep _ _ (nr_refs hrf) (fun _ z => nomatch z) ex9) fun m1 J3 U3 f3 => ?_
          walk_at "rd"
          intro m2 J4 U4 f4 _
          refine rd_addSame (U4 _ _ f3) f4 (by simp only [List.length_take, List.length_cons, List.length_nil]; rw [sizeLine_eq]; omega) fun m5 J5 U5 _ f5 => ?_
          have U35 := (U3.trans U4).trans U5
          walk_at "rd"
          refine rd_slFromV ((y3.trans (.same U35)).kl.keep _ _ (nr_refs hrf) (fun _ z => nomatch z) ex9) fun m6 J6 U6 f6 => ?_
          refine rd_addSame (U6 _ _ f5) f6 (by simp only [List.length_append, List.length_take, List.length_drop, List.length_cons, List.length_nil]; rw [sizeLine_eq]; omega) fun m7 J7 U7 _ f7 => ?_
          have U37 := (U35.trans U6).trans U7
          have y7 := y3.trans (.same (T := (TL p_x_law_is_changed p_law)) U37)
          walk_at "rd"
          refine rd_badCh (T2.kp (Kp.same U37)) (by omega) (by omega) hxl f7 (bad.kx y7) (fun i c hc => let ⟨a1, a2, a3, T0, g1, g2⟩ := hxs9 i c hc; ⟨a1, a2, a3, T0, g1, y7.keep _ _ (fun _ z => nomatch z) g2⟩) fun d J8 U8 f8 => ?_
          refine rz_num "changes" T.z_InvalidChanges T.zf_InvalidChanges_index (by decide) rfl f8 fun p9 J9 U9 f9 => ?_
          walk_at "rd"
          intro q1 K1 V1 g1 _
          refine rd_neW2 rfl (V1 _ _ f9) g1 (by decide +kernel) ?_
          walk_at "rd"
          exact ⟨_, rfl, y7.trans (.same ((U8.trans U9).trans V1))⟩
        · rintro σ J1 ⟨v9, rfl, y1⟩
          have tab1 := y1.tabs tab9
          have T1' := T9.kl y1.kl
          clear hxs9 ex9 T9 tab9 w9 bads
          walk_at "rd"
          intro t0 J2 U2 f2 _
          walk_at "rd"
          intro t1 J3 U3 f3 _
          have f2 := U3 _ _ f2
          have tab3 := (Kl.same (U2.trans U3)).tabs tab1
          have T3 := T1'.kp (Kp.same (U2.trans U3))
          have y3 := y1.trans (.same (T := (TL p_x_law_is_changed p_law)) (U2.trans U3))
          walk_at "rd"
          refine ⟨⟨_, SqT.of f3⟩, fun D hD => lc_noneT (T := (TL p_x_law_is_changed p_law)) (SqT.of f3) hD (fun _ => rfl) (fun u H24 R hu x24 q => ?_) fun H25 x25 e25 => ?_⟩
          · have hv : isIBN u = true ∨ ∃ p xs, u = .ref p ∧ SqT K J3 p xs := by
              simp only [List.mem_cons, List.not_mem_nil, or_false] at hu
              rcases hu with rfl | rfl | rfl
              · exact .inl rfl
              · exact .inr ⟨t0, _, rfl, SqT.of f2⟩
              · exact .inl rfl
            walk_at "rd"
            refine ⟨x24.tabs tab3, fun H26 x26 => ?_⟩
            have x4 := x24.trans x26
            walk_at "rd"
            refine rd_badNo (T3.kl x4.kl) (hv.imp id fun ⟨p, xs, e, hs⟩ => ⟨p, xs, e, x4.tup hs⟩) fun d J8 U8 f8 => ?_
            refine rz_num "changes" T.z_InvalidChanges T.zf_InvalidChanges_index (by decide) rfl f8 fun p9 J9 U9 f9 => ?_
            walk_at "rd"
            intro q1 K1 V1 g1 _
            refine rd_neW2 rfl (V1 _ _ f9) g1 (by decide +kernel) ?_
            walk_at "rd"
            exact q _ (x26.trans (.same ((U8.trans U9).trans V1)))
          · walk_at "rd"
            intro l28 H28 S28 e28 _
            have y9 := y3.trans (x25.trans (.same (T := (TL p_x_law_is_changed p_law)) S28))
            exact rd_eqLL0 (S28 _ _ e25) e28 (k _ ((Kl.kp k9').trans y9.kl) (y9.row row9))
end

local macro_rules | `(tactic| walk_at "rd1") => `(tactic| first
  | with_reducible refine rd_par ?_ | with_reducible refine rd_two ?_ | with_reducible refine rd_lc ?_ | with_reducible refine rd_iRng1 ?_ | with_reducible refine rd_for ?_ | with_reducible refine rd_iTup ?_ | with_reducible refine rd_iList ?_
  | ((with_reducible refine' rd_stepsS ?k1 ?k2 ?k3 ?k4 ?k5 ?_); (case k1 => walk_at "row"); (case k2 => omega); (case k3 => omega); (case k4 => omega); (case k5 => omega))
  | ((with_reducible refine' rd_tieP ?k1 ?k2 ?_); (case k1 => walk_at "tx"); (case k2 => omega))
  | ((with_reducible refine' rd_pattern ?k1 ?k2 ?k3 ?_); (case k1 => assumption); (case k2 => exact iniS_ks _); (case k3 => omega))
  | ((with_reducible refine' rd_unlike ?k1 ?k2 ?k3 ?k4 ?_); (case k1 => walk_at "tx"); (case k2 => walk_at "tx"); (case k3 => omega); (case k4 => omega)))
section
variable {P : Program} {w : World} {K : PySem.W.Frag} {mg : Str → Option Value} {base : Heap} {CText CPart CTextError CInvalidStep CInvalidChanges CTooLong CInvalidPlace CInvalidKey CInvalidLetter CInvalidNumber c_x_law_is_changed p_x_law_is_changed c_law p_law : Addr}
theorem ok_law (T : Txt K mg CText CPart CTextError CInvalidStep CInvalidChanges CTooLong CInvalidPlace CInvalidKey CInvalidLetter CInvalidNumber c_x_law_is_changed p_x_law_is_changed c_law p_law) (LB : Lms K mg base c_x_law_is_changed p_x_law_is_changed c_law p_law) {f : Addr} {fd : FuncData} (F : FunC K "law" "law" s_law c_law f fd) : FnOk P w K mg base CX0 74 f fd ["_law_script"] (sp_lawL K (TL p_x_law_is_changed p_law)) := by
  refine F.ok sc_law (fun vs H Q E h => ?len) (fun A outer s H vs Q E hr h => ?_)
  case len => obtain ⟨a, sc, rfl, _⟩ := h; rfl
  · obtain ⟨a, sc, rfl, ha, tab, k⟩ := h
    refine ⟨_, (pss_cons (ps_set (i := 1) sc_law.nd rfl (Or.inl rfl) (pe_lst (pa_cons (pv 0) (pa_cons pe_int (pa_cons pe_int (pa_cons pe_int pa_nil))))))
    (pss_cons (ps_for PassesOwn.never rfl (pi_range1 rfl T.n_range (pa_cons pe_int pa_nil)) (pg_name (i := 2) sc_law.nd rfl (Or.inl rfl)) (pss_cons (ps_set (i := 3) sc_law.nd rfl (Or.inl rfl) (pe_g (ok_x_law_steps (K := K) T) (hr.mono (by decide)) pass0 (pa_cons (pv 1) (pa_cons (pe_g (ok_x_law_taken (K := K) T) (hr.mono (by decide)) pass0 (pa_cons (pv 1) (pa_cons pe_int pa_nil))) (pa_cons pe_int pa_nil)))))
    (pss_cons (ps_set (i := 4) sc_law.nd rfl (Or.inl rfl) (pe_ifExp (pt_cmpR (eqK (K := K) rfl hr.units) (pe_g (ok_x_law_taken (K := K) T) (hr.mono (by decide)) pass0 (pa_cons (pv 1) (pa_cons pe_int pa_nil))) pe_int (nomark _)) (pv 3) (pe_g (ok_x_law_steps (K := K) T) (hr.mono (by decide)) pass0 (pa_cons (pv 1) (pa_cons (pe_g (ok_x_law_taken (K := K) T) (hr.mono (by decide)) pass0 (pa_cons (pv 1) (pa_cons pe_int pa_nil))) (pa_cons pe_int pa_nil))))))
    (pss_cons (ps_if (pt_cmpR (eqK (K := K) rfl hr.units) (pe_g (ok_x_law_taken (K := K) T) (hr.mono (by decide)) pass0 (pa_cons (pv 1) (pa_cons pe_int pa_nil))) pe_int (nomark _)) (pss_one (ps_set (i := 4) sc_law.nd rfl (Or.inl rfl) (pe_op (catTK (K := K) rfl) (pv 4) (pe_g (ok_x_law_steps (K := K) T) (hr.mono (by decide)) pass0 (pa_cons (pv 1) (pa_cons pe_int (pa_cons pe_int pa_nil)))))))
    pss_nil)
    (pss_cons (ps_par (i := 5) (j := 6) rfl sc_law.nd rfl rfl (by decide) rfl rfl (pa_cons (pe_c (pe_glob (v := .ref CText) rfl T.g_Text rfl) (ok_Text_of_steps (K := K) T) (hr.mono (by decide)) pass0 (pa_cons (pe_callTy (listK (K := K) rfl) rfl T.n_list (by decide +kernel) (pa_cons (pv 3) pa_nil)) pa_nil)) (pa_cons (pe_c (pe_glob (v := .ref CText) rfl T.g_Text rfl) (ok_Text_of_steps (K := K) T) (hr.mono (by decide)) pass0 (pa_cons (pe_callTy (listK (K := K) rfl) rfl T.n_list (by decide +kernel) (pa_cons (pv 4) pa_nil)) pa_nil)) pa_nil)) rfl)
    (pss_cons (ps_asg (pe_g (ok_x_law_keys (K := K) T) (hr.mono (by decide)) pass0 (pa_cons (pv 3) pa_nil)) (pg_tupK (K := K) (n := 2) rfl rfl (pgs_cons (pg_name (i := 7) sc_law.nd rfl (Or.inl rfl)) (pgs_cons (pg_name (i := 8) sc_law.nd rfl (Or.inl rfl)) pgs_nil))))
    (pss_cons (ps_asg (pe_tup (pa_cons (pe_g (ok_x_law_pattern (K := K) T) (hr.mono (by decide)) pass0 (pa_cons (pv 7) pa_nil)) (pa_cons (pe_g (ok_x_law_pattern (K := K) T) (hr.mono (by decide)) pass0 (pa_cons (pe_ix (ixK (K := K) rfl) (pe_g (ok_x_law_keys (K := K) T) (hr.mono (by decide)) pass0 (pa_cons (pv 4) pa_nil)) pe_int (fun _ _ => rfl)) pa_nil)) pa_nil))) (pg_tupK (K := K) (n := 2) rfl rfl (pgs_cons (pg_name (i := 9) sc_law.nd rfl (Or.inr rfl)) (pgs_cons (pg_name (i := 10) sc_law.nd rfl (Or.inr rfl)) pgs_nil))))
    (pss_cons (ps_if (pt_not (pt_val (pe_g (ok_x_law_alike T) (hr.mono (by decide)) pass0 (pa_cons (pe_lst (pa_cons (pe_g (ok_tie_pattern (K := K) T) (hr.mono (by decide)) pass0 (pa_cons (pv 5) pa_nil)) (pa_cons (pe_g (ok_tie_pattern (K := K) T) (hr.mono (by decide)) pass0 (pa_cons (pv 6) pa_nil)) pa_nil))) (pa_cons (pe_lst (pa_cons (pv 9) (pa_cons (pv 10) pa_nil))) pa_nil))))) (pss_one (ps_ret pe_bl))
    pss_nil)
    (pss_cons (ps_setLc (i := 11) (own := [("_law_k", 12)]) rfl sc_law.nd rfl rfl (sw_true rfl rfl rfl (by decide +kernel)) (pi_range1 rfl T.n_range (pa_cons (pe_callB (cMax2 rfl) rfl T.n_max (by decide +kernel) (pa_cons (pe_callB (lenK (K := K) rfl) rfl T.n_len (by decide +kernel) (pa_cons (pv 9) pa_nil)) (pa_cons (pe_callB (lenK (K := K) rfl) rfl T.n_len (by decide +kernel) (pa_cons (pv 10) pa_nil)) pa_nil))) pa_nil)) (blkOk_by (own := [("_law_k", 12)]) (N := N_law) (sc := (defScope s_law)) (by first | decide +kernel | rfl)) (fun _ _ _ _ _ => (pg_name (i := 12) sc_law.nd rfl (Or.inl rfl))) (fun _ _ _ _ _ => (pts_one (pt_cmpR (neK (K := K) rfl hr.units) (pe_slice (slK (K := K) rfl) (pv 9) (po_some (pv 12)) (po_some (pe_op (addK (K := K) rfl) (pv 12) pe_int))) (pe_slice (slK (K := K) rfl) (pv 10) (po_some (pv 12)) (po_some (pe_op (addK (K := K) rfl) (pv 12) pe_int))) (nomark _)))) (fun _ _ _ _ _ => (pv 12)))
    (pss_cons (ps_if (pt_not (pt_val (pe_g (ok_x_law_alike T) (hr.mono (by decide)) pass0 (pa_cons (pe_g (ok_first_unlike_tie (K := K) T) (hr.mono (by decide)) pass0 (pa_cons (pv 5) (pa_cons (pv 6) pa_nil))) (pa_cons (pe_ifExp (pt_cmpR (neK (K := K) rfl hr.units) (pv 11) (pe_lst pa_nil) (nomark _)) (pe_ix (ixK (K := K) rfl) (pv 11) pe_int (fun _ _ => rfl)) pe_non) pa_nil))))) (pss_one (ps_ret pe_bl))
    pss_nil)
    (pss_one (ps_if (pt_not (pt_val (pe_g (ok_x_law_is_changed (K := K) T LB) (hr.mono (by decide)) pass0 (pa_cons (pv 1) (pa_cons (pv 5) (pa_cons (pv 7) (pa_cons (pv 8) pa_nil))))))) (pss_one (ps_ret pe_bl))
    pss_nil))))))))))))
    (pss_cons (ps_asg (pe_tup (pa_cons (pe_op (oOwnI (ok_Text_mul (K := K) T) (hr.mono (by decide)) pass0) (pe_c (pe_glob (v := .ref CText) rfl T.g_Text rfl) (ok_Text_of_word (K := K) T) (hr.mono (by decide)) pass0 (pa_cons pe_str pa_nil)) pe_int) (pa_cons (pe_c (pe_glob (v := .ref CText) rfl T.g_Text rfl) (ok_Text_of_word (K := K) T) (hr.mono (by decide)) pass0 (pa_cons pe_str pa_nil)) pa_nil))) (pg_tupK (K := K) (n := 2) rfl rfl (pgs_cons (pg_name (i := 13) sc_law.nd rfl (Or.inr rfl)) (pgs_cons (pg_name (i := 14) sc_law.nd rfl (Or.inr rfl)) pgs_nil))))
    (pss_cons (ps_set (i := 15) sc_law.nd rfl (Or.inl rfl) (pe_lst (pa_cons (pe_lam (T := (TL p_x_law_is_changed p_law)) (k := 70) LB.tb_law rfl (.tail _ (.head _)) LB.hu_law (lamC_by (N := N_law) (sc := defScope s_law) (by decide +kernel)) (fun A outer s H E f c' hr => (pe_g (okR_tie_pattern (K := K) T) (hr.mono (by decide)) (passX (takes_of rfl rfl rfl rfl)) (pa_cons (pv 13) pa_nil)))) pa_nil)))
    (pss_cons (ps_expr (pe_bmK (K := K) rfl PySem.F.plainAttrs_list PySem.F.slot_list_append PySem.F.type_list_append mt_append (pv 15) (pa_cons (pe_lam (T := (TL p_x_law_is_changed p_law)) (k := 70) LB.tb_law rfl (.tail _ (.head _)) LB.hu_law (lamC_by (N := N_law) (sc := defScope s_law) (by decide +kernel)) (fun A outer s H E f c' hr => (pe_g (okR_first_unlike_tie (K := K) T) (hr.mono (by decide)) (passX (takes_of rfl rfl rfl rfl)) (pa_cons (pv 14) (pa_cons (pv 13) pa_nil))))) pa_nil)))
    (pss_cons (ps_expr (pe_bmK (K := K) rfl PySem.F.plainAttrs_list PySem.F.slot_list_append PySem.F.type_list_append mt_append (pv 15) (pa_cons (pe_lam (T := (TL p_x_law_is_changed p_law)) (k := 70) LB.tb_law rfl (.tail _ (.head _)) LB.hu_law (lamC_by (N := N_law) (sc := defScope s_law) (by decide +kernel)) (fun A outer s H E f c' hr => (pe_g (okR_first_unlike_tie (K := K) T) (hr.mono (by decide)) (passX (takes_of rfl rfl rfl rfl)) (pa_cons (pv 13) (pa_cons (pv 14) pa_nil))))) pa_nil)))
    (pss_one (ps_ret (pe_cmpR (eqK (K := K) rfl hr.units) (pe_lcM (own := [("_law_work", 16)]) rfl sc_law.nd (pi_listK (K := K) rfl (pv 15)) (blkOk_by (own := [("_law_work", 16)]) (N := N_law) (sc := (defScope s_law)) (by first | decide +kernel | rfl)) (fun σ0 s0 H0 C0 cl0 fp0 mk => ⟨(pg_name (i := 16) sc_law.nd rfl (Or.inl rfl)), (pts_one (pt_cmpR (neK (K := K) rfl hr.units) (pe_givB (k := 70) mk T.d_x_law_raised sc_x_law_raised (fun g cdg => gv_x_law_raised T g cdg) (hr.mono (by decide)) (pv 16)) (pe_tup (pa_cons pe_str pa_nil)) (nomark _))), (pv 16)⟩)) (pe_lst pa_nil) (nomark _)))))))))), ?_⟩
    refine rd_startE (show start N_law [.ref a] = [some (.ref a), none, none, none, none, none, none, none, none, none, none, none, none, none, none, none, none] from rfl) ?_
    walk_at "rd"
    intro r H0 S0 e0 _
    have row0 : RowAt K H0 r := ⟨a, sc, 0, 0, 0, e0, S0.seq ha⟩
    have tab0 := (Kl.same S0).tabs tab
    clear tab S0 e0 ha
    walk_at "rd"
    refine ⟨3, rfl, by omega, by omega, for_range (fun i σ H' => ∃ v2 v3 v4 v5 v6 v7 v8 v9 v10 v11 v12, σ = [some (.ref a), some (.ref r), v2, v3, v4, v5, v6, v7, v8, v9, v10, v11, v12, none, none, none, none] ∧ RowAt K H' r ∧ LamX.Tabs (TL p_x_law_is_changed p_law) H')
      ⟨_, _, _, _, _, _, _, _, _, _, _, rfl, row0, tab0⟩ ?_ ?_⟩
    · rintro i σ H1 hi ⟨v2, v3, v4, v5, v6, v7, v8, v9, v10, v11, v12, rfl, row1, tab1⟩
      clear row0 tab0
      walk_at "rd"
      intro n0 H2 h2 k2 row2
      walk_at "rd"
      intro p3 s3 H3 k3 row3 q3 ok3 few3 hz3 hL3
      have tab3 := (Kl.kp (k2.trans k3)).tabs tab1
      clear k2 k3 row1 row2 tab1
      walk_at "rd"
      intro n4 H4 h4 k4 row4
      have q4 := q3.kp k4
      have tab4 := (Kl.kp k4).tabs tab3
      walk_at "rd"
      refine rd_ifJ (fun v H' => ∃ p5 s5, v = .ref p5 ∧ Kp H4 H' ∧ RowAt K H' r ∧ TS' K H' p5 s5 ∧ okFrom 0 s5 ∧ s5.length ≤ 7 ∧ sz s5 ≤ 80) ?_ ?_
      rotate_left
      · intro R hR
        refine rd_ite (fun h => ?_) (fun h => ?_)
        · walk_at "rd"
          exact hR _ _ ⟨p3, s3, rfl, .refl, row4, q4, ok3, by omega, by omega⟩
        · walk_at "rd"
          intro n5 H5 h5 k5 row5
          walk_at "rd"
          intro p6 s6 H6 k6 row6 q6 ok6 few6 hz6 hL6
          exact hR _ _ ⟨p6, s6, rfl, k5.trans k6, row6, q6, ok6, by omega, by omega⟩
      rintro v5 H5 ⟨p5, s5, rfl, k5, row5, q5, ok5, few5, hz5⟩
      have q3' := q4.kp k5
      have tab5 := (Kl.kp k5).tabs tab4
      clear q3 q4 k4 row3 row4 tab3 tab4 k5
      walk_at "rdS"
      refine rd_join1 4 (fun v H' => ∃ p6 s6, v = .ref p6 ∧ Kp H5 H' ∧ RowAt K H' r ∧ TS' K H' p6 s6 ∧ okFrom 0 s6 ∧ s6.length ≤ 8 ∧ sz s6 ≤ 89) ?_ ?_
      rotate_left
      · intro N hN
        walk_at "rd"
        intro n6 H6 h6 k6 row6
        walk_at "rd"
        refine rd_ite (fun h => ?_) (fun h => ?_)
        · walk_at "rd"
          intro p7 s7 H7 k7 row7 q7 ok7 few7 hz7 hL7
          refine rd_catTS (q5.kp (k6.trans k7)) q7 (by omega) fun p8 H8 S8 q8 => ?_
          walk_at "rd"
          exact hN _ _ ⟨p8, _, rfl, (k6.trans k7).trans (.same S8), row7.mono S8, q8, (okFrom_append 0 s5 s7).mpr ⟨ok5, ok_one ok7 (by omega) (by omega)⟩, by rw [List.length_append]; omega, by rw [sz_append]; omega⟩
        · walk_at "rd"
          exact hN (.ref p5) _ ⟨p5, s5, rfl, k6, row6, q5.kp k6, ok5, by omega, by omega⟩
      rintro v6 H6 ⟨p6, s6, rfl, k6, row6, q6, ok6, few6, hz6⟩
      have q3 := q3'.kp k6
      have tab6 := (Kl.kp k6).tabs tab5
      clear q3' q5 row5 tab5 k6
      walk_at "rd"
      intro l7 H7 S7 x7
      walk_at "rd"
      intro a8 H8 S8 T8
      walk_at "rd"
      have q6 := q6.kp (Kp.same (S7.trans S8))
      have x6 := q6.sx
      intro l9 H9 S9 x9
      walk_at "rd"
      intro b10 H10 S10 T10
      walk_at "rd"
      have S67 := S7.trans S8
      have S90 := S9.trans S10
      refine rd_keysS (q3.kp (Kp.same (S67.trans S90))) ok3 (by omega) (by omega) fun p11 l11 H11 S11 e11 e11' => ?_
      have T8 := T8.kp (Kp.same (S90.trans S11))
      have T10 := T10.kp (Kp.same S11)
      have q6 := q6.kp (Kp.same (S90.trans S11))
      have row11 := row6.mono ((S67.trans S90).trans S11)
      have tab11 := (Kl.same ((S67.trans S90).trans S11)).tabs tab6
      have kl3 := ks_len ok3
      have kl6 := ks_len ok6
      clear q3 S67 S90 S7 S8 S9 S10 S11 row6 tab6 x7 x9 x6
      walk_at "rd"
      intro l12 H12 S12 e12
      walk_at "rd"
      refine rd_keysS (q6.kp (Kp.same S12)) ok6 (by omega) (by omega) fun p13 l13 H13 S13 e13 e13' => ?_
      walk_at "rd"
      refine rd_ixT ?_ (SqT.of e13) rfl
      walk_at "rd"
      intro l14 H14 S14 e14
      walk_at "rd"
      intro pt H15 S15 e15 _
      have e11 := S15 _ _ (S14 _ _ (S13 _ _ (S12 _ _ e11')))
      have e12 := S15 _ _ (S14 _ _ (S13 _ _ e12))
      have e14 := S15 _ _ e14
      have S25 := (S12.trans S13).trans (S14.trans S15)
      have T8 := T8.kp (Kp.same S25)
      have T10 := T10.kp (Kp.same S25)
      have row15 := row11.mono S25
      have tab15 := (Kl.same S25).tabs tab11
      clear q6 e13 e13' e11' S12 S13 S14 S15 S25 row11 tab11
      walk_at "rd"
      intro l16 H16 S16 e16
      walk_at "rd"
      intro l17 H17 S17 e17
      walk_at "rd"
      intro q18 H18 S18 e18 _
      walk_at "rd"
      intro q19 H19 S19 e19 _
      have S59 := (S16.trans S17).trans (S18.trans S19)
      have e11 := S59 _ _ e11
      have e12 := S59 _ _ e12
      have e14 := S59 _ _ e14
      have T8 := T8.kp (Kp.same S59)
      have T10 := T10.kp (Kp.same S59)
      have row19 := row15.mono S59
      have tab19 := (Kl.same S59).tabs tab15
      have e16 := S19 _ _ (S18 _ _ (S17 _ _ e16))
      have e17 := S19 _ _ (S18 _ _ e17)
      have e18 := S19 _ _ e18
      clear row15 tab15 S59 S16 S17 S18 S19
      have ls := sizeLine_eq
      walk_at "rd"
      refine rd_alX (alX_two e18 e19 (alX_nats e16 e12 (by omega)) (alX_nats e17 e14 (by omega))) fun H20 S20 => ?_
      have e11 := S20 _ _ e11
      have e12 := S20 _ _ e12
      have e14 := S20 _ _ e14
      have T8 := T8.kp (Kp.same S20)
      have T10 := T10.kp (Kp.same S20)
      have row20 := row19.mono S20
      have tab20 := (Kl.same S20).tabs tab19
      clear row19 tab19 S20 e16 e17 e18 e19
      walk_at "rd"
      rw [show (if ((ks s6).length : Int) > ((ks s3).length : Int) then ((ks s6).length : Int) else ((ks s3).length : Int)) = ((max (ks s3).length (ks s6).length : Nat) : Int) by split <;> omega]
      refine ⟨_, rfl, by omega, by omega, fun D hD => lc_filt (n := max (ks s3).length (ks s6).length) (it := fun j => .int (0 + (j : Nat))) (by rw [Int.toNat_natCast]; exact plain_rng) hD (by omega) (fun _ => rfl) (fun k => .int (k : Nat)) (fun k => !decide (((ks s3).drop k).take 1 = ((ks s6).drop k).take 1)) (fun j H21 R21 hj S21 q => ?_) (fun j H21 Q21 hj hp q21 q => ?_) fun H21 S21 eD => ?_⟩
      · rw [show (0 : Int) + (j : Nat) = (j : Nat) by omega]
        walk_at "rd"
        refine rd_slOne (S21 _ _ e12) fun m1 H22 S22 f22 => ?_
        walk_at "rd"
        refine rd_slOne (S22 _ _ (S21 _ _ e14)) fun m2 H23 S23 f23 => ?_
        refine rd_neNN (S23 _ _ f22) f23 ?_
        walk_at "rd"
        exact q _ (S22.trans S23)
      · rw [show (0 : Int) + (j : Nat) = (j : Nat) by omega]
        walk_at "rd"
        exact q _ (Same.refl _)
      rw [filt_nat _ _ rfl] at eD
      have e11 := S21 _ _ e11
      have T8 := T8.kp (Kp.same S21)
      have T10 := T10.kp (Kp.same S21)
      have row21 := row20.mono S21
      have tab21 := (Kl.same S21).tabs tab20
      clear row20 tab20 S21 e12 e14
      walk_at "rd"
      intro H22 S22
      walk_at "rd"
      intro q23 H23 S23 e23 _
      have eD := S23 _ _ (S22 _ _ eD)
      have e11 := S23 _ _ (S22 _ _ e11)
      have T8 := T8.kp (Kp.same (S22.trans S23))
      have row23 := row21.mono (S22.trans S23)
      have tab23 := (Kl.same (S22.trans S23)).tabs tab21
      clear row21 tab21 S22 S23
      refine rd_neNN (M := []) eD e23 ?_
      walk_at "rd"
      by_cases c : unlL (ks s3) (ks s6) = []
      · refine rd_nF c ?_
        walk_at "rd"
        refine rd_alX (by rw [unl_nil c]; exact .inr (.inr (.inl ⟨rfl, rfl⟩))) fun H24 S24 => ?_
        walk_at "rd"
        refine rd_changed (row23.mono S24) ((Kl.same S24).tabs tab23) (T8.kp (Kp.same S24)) (by omega) (S24 _ _ e11) fun H25 k25 row25 => ?_
        walk_at "rd"
        exact ⟨_, _, _, _, _, _, _, _, _, _, _, rfl, row25, k25.tabs ((Kl.same S24).tabs tab23)⟩
      · refine rd_nT c ?_
        have hpos : 0 < (unlL (ks s3) (ks s6)).length := List.length_pos_iff.mpr c
        walk_at "rd"
        refine rd_alX (by rw [unl_cons (x := (unlL (ks s3) (ks s6))[(0 : Int).toNat]?.getD 0) (by show (unlL (ks s3) (ks s6))[0]? = some ((unlL (ks s3) (ks s6))[0]?.getD 0); rw [List.getElem?_eq_getElem hpos]; rfl)]; exact .inl ⟨_, rfl, rfl⟩) fun H24 S24 => ?_
        walk_at "rd"
        refine rd_changed (row23.mono S24) ((Kl.same S24).tabs tab23) (T8.kp (Kp.same S24)) (by omega) (S24 _ _ e11) fun H25 k25 row25 => ?_
        walk_at "rd"
        exact ⟨_, _, _, _, _, _, _, _, _, _, _, rfl, row25, k25.tabs ((Kl.same S24).tabs tab23)⟩
    · rintro σ H1 ⟨v2, v3, v4, v5, v6, v7, v8, v9, v10, v11, v12, rfl, row1, tab1⟩
      clear row0 tab0
      walk_at "rd"
      refine rd_ofWord (w := [97, 98]) (by decide) (by decide) (by decide) fun b2 H2 S2 T2 => ?_
      walk_at "rd"
      refine rd_opMul T2 (by omega) (by omega) (by show ((2 : Nat) : Int) * _ ≤ _; omega) (by show 1 + 1 ≤ 30; decide) fun b3 H3 S3 T3 => ?_
      walk_at "rd"
      refine rd_ofWord (w := [97]) (by decide) (by decide) (by decide) fun b4 H4 S4 T4 => ?_
      walk_at "rd"
      intro pt H5 S5 e5 _
      have T3 := T3.kp (Kp.same (S4.trans S5))
      have T4 := T4.kp (Kp.same S5)
      have tab5 := (Kl.same (((S2.trans S3).trans S4).trans S5)).tabs tab1
      clear T2 S2 S3 S4 S5 row1 tab1
      walk_at "rd"
      refine rd_mkL tab5 fun f1 H6 x6 n6 il1 => ?_
      walk_at "rd"
      intro lw H7 S7 e7 n7
      walk_at "rd"
      refine rd_tyL (SqL.of e7) _ ?_
      walk_at "rd"
      refine rd_mkL ((x6.trans (.same S7)).tabs tab5) fun f2 H8 x8 n8 il2 => ?_
      have e8 : H8 lw = some (.lst [V.ref f1]) := x8.keep _ _ (fun _ z => nomatch z) e7
      walk_at "rd"
      refine rd_append e8 (by rw [sizeLine_eq]; show 1 < 16777216; decide) ?_
      have x9 : Kx (TL p_x_law_is_changed p_law) H6 (upd H8 lw (.lst ([V.ref f1] ++ [V.ref f2]))) := Kx.updL ((Kx.same S7).trans x8) n7 e8
      have il1 := il1.kl x9.kl
      have il2 := il2.updL e8 (o := .lst ([V.ref f1] ++ [V.ref f2]))
      have e9 := @upd_same H8 lw (.lst ([V.ref f1] ++ [V.ref f2]))
      revert x9 il1 il2 e9
      generalize upd H8 lw _ = H9
      intro x9 il1 il2 e9
      clear e8 n8 x8 S7 e7
      walk_at "rd"
      refine rd_tyL (SqL.of e9) _ ?_
      walk_at "rd"
      refine rd_mkL ((x6.trans x9).tabs tab5) fun f3 H10 x10 n10 il3 => ?_
      have e10 : H10 lw = some (.lst ([V.ref f1] ++ [V.ref f2])) := x10.keep _ _ (fun _ z => nomatch z) e9
      walk_at "rd"
      refine rd_append e10 (by rw [sizeLine_eq]; show 2 < 16777216; decide) ?_
      have x11 : Kx (TL p_x_law_is_changed p_law) H6 (upd H10 lw (.lst ([V.ref f1] ++ [V.ref f2] ++ [V.ref f3]))) := Kx.updL (x9.trans x10) n7 e10
      have il1 := (il1.kl x10.kl).updL e10 (o := .lst ([V.ref f1] ++ [V.ref f2] ++ [V.ref f3]))
      have il2 := (il2.kl x10.kl).updL e10 (o := .lst ([V.ref f1] ++ [V.ref f2] ++ [V.ref f3]))
      have il3 := il3.updL e10 (o := .lst ([V.ref f1] ++ [V.ref f2] ++ [V.ref f3]))
      have e11 := @upd_same H10 lw (.lst ([V.ref f1] ++ [V.ref f2] ++ [V.ref f3]))
      revert x11 il1 il2 il3 e11
      generalize upd H10 lw _ = H11
      intro x11 il1 il2 il3 e11
      have x11 := x6.trans x11
      have T3 := T3.kl x11.kl
      have T4 := T4.kl x11.kl
      clear x9 x10 e9 e10 n10 tab5 n7 x6
      walk_at "rd"
      have z3 : 2000 < sz (mulS [Stp.wr (mkS [97, 98])] (Int.toNat 1001)) := by rw [sz_mul (by decide)]; decide
      have z4 : sz [Stp.wr (mkS [97])] ≤ 2000 := by decide
      refine ⟨⟨_, SqL.of e11⟩, fun D hD => lc_noneK (T := (TL p_x_law_is_changed p_law)) (SqL.of e11) hD (fun _ => rfl) (fun u H24 R hu x24 q => ?_) fun H25 x25 e25 => ?_⟩
      · have T3 := T3.kl x24.kl
        have T4 := T4.kl x24.kl
        simp only [List.mem_append, List.mem_cons, List.not_mem_nil, or_false] at hu
        rcases hu with (rfl | rfl) | rfl
        · walk_at "rd"
          refine rd_givB rfl (il1.kl x24.kl) ?_
          walk_at "rd"
          refine ⟨_, _, rfl, T3, z3, fun H26 S26 => rz_word "long" T.z_TooLong (by decide) rfl fun p27 H27 S27 e27 => ?_⟩
          walk_at "rd"
          intro q28 H28 S28 e28 _
          refine rd_neW1 (S28 _ _ e27) e28 (by decide +kernel) ?_
          walk_at "rd"
          exact q _ (.same ((S26.trans S27).trans S28))
        · walk_at "rd"
          refine rd_givB rfl (il2.kl x24.kl) ?_
          walk_at "rd"
          refine ⟨_, _, _, _, rfl, T4, T3, .inr ⟨z4, z3⟩, fun H26 S26 => rz_word "long" T.z_TooLong (by decide) rfl fun p27 H27 S27 e27 => ?_⟩
          walk_at "rd"
          intro q28 H28 S28 e28 _
          refine rd_neW1 (S28 _ _ e27) e28 (by decide +kernel) ?_
          walk_at "rd"
          exact q _ (.same ((S26.trans S27).trans S28))
        · walk_at "rd"
          refine rd_givB rfl (il3.kl x24.kl) ?_
          walk_at "rd"
          refine ⟨_, _, _, _, rfl, T3, T4, .inl z3, fun H26 S26 => rz_word "long" T.z_TooLong (by decide) rfl fun p27 H27 S27 e27 => ?_⟩
          walk_at "rd"
          intro q28 H28 S28 e28 _
          refine rd_neW1 (S28 _ _ e27) e28 (by decide +kernel) ?_
          walk_at "rd"
          exact q _ (.same ((S26.trans S27).trans S28))
      · walk_at "rd"
        intro l30 H30 S30 e30 _
        exact rd_eqLL0 (S30 _ _ e25) e30 (k _)
end

theorem bf_is_integer : BF "is_integer" "is_integer" s_is_integer ["value", "low", "high"] := fun _ _ _ _ _ _ us hl => match us, hl with | [_, _, _], _ => rfl
theorem bf_is_letter : BF "is_letter" "is_letter" s_is_letter ["value"] := fun _ _ _ _ _ _ us hl => match us, hl with | [_], _ => rfl
theorem bf_is_word : BF "is_word" "is_word" s_is_word ["value"] := fun _ _ _ _ _ _ us hl => match us, hl with | [_], _ => rfl
theorem bf_is_step : BF "is_step" "is_step" s_is_step ["value", "size"] := fun _ _ _ _ _ _ us hl => match us, hl with | [_, _], _ => rfl
theorem bf_Part_init : BF "__init__" "Part.__init__" s_Part_init ["self", "start", "length", "is_typed", "first", "last"] := fun _ _ _ _ _ _ us hl => match us, hl with | [_, _, _, _, _, _], _ => rfl
theorem bf_Part_source : BF "source" "Part.source" s_Part_source ["self", "place"] := fun _ _ _ _ _ _ us hl => match us, hl with | [_, _], _ => rfl
theorem bf_Text_init : BFS "__init__" "Text.__init__" s_Text_init ["self"] "steps" := fun _ _ _ _ _ _ us rest hl => match us, rest, hl with | [_], [], _ => rfl | [_], _ :: _, _ => rfl
theorem bf_Text_of_steps : BF "of_steps" "Text.of_steps" s_Text_of_steps ["cls", "steps"] := fun _ _ _ _ _ _ us hl => match us, hl with | [_, _], _ => rfl
theorem bf_Text_steps : BF "steps" "Text.steps" s_Text_steps ["self"] := fun _ _ _ _ _ _ us hl => match us, hl with | [_], _ => rfl
theorem bf_Text_typed_keys : BF "typed_keys" "Text.typed_keys" s_Text_typed_keys ["self"] := fun _ _ _ _ _ _ us hl => match us, hl with | [_], _ => rfl
theorem bf_Text_size : BF "size" "Text.size" s_Text_size ["self"] := fun _ _ _ _ _ _ us hl => match us, hl with | [_], _ => rfl
theorem bf_Text_check_place : BF "check_place" "Text.check_place" s_Text_check_place ["self", "place"] := fun _ _ _ _ _ _ us hl => match us, hl with | [_, _], _ => rfl
theorem bf_Text_check_key : BF "check_key" "Text.check_key" s_Text_check_key ["self", "key"] := fun _ _ _ _ _ _ us hl => match us, hl with | [_, _], _ => rfl
theorem bf_Text_key_of : BF "key_of" "Text.key_of" s_Text_key_of ["self", "place"] := fun _ _ _ _ _ _ us hl => match us, hl with | [_, _], _ => rfl
theorem bf_Text_call : BF "__call__" "Text.__call__" s_Text_call ["self", "place"] := fun _ _ _ _ _ _ us hl => match us, hl with | [_, _], _ => rfl
theorem bf_Text_getitem : BF "__getitem__" "Text.__getitem__" s_Text_getitem ["self", "place"] := fun _ _ _ _ _ _ us hl => match us, hl with | [_, _], _ => rfl
theorem bf_Text_contains : BF "__contains__" "Text.__contains__" s_Text_contains ["self", "letter"] := fun _ _ _ _ _ _ us hl => match us, hl with | [_, _], _ => rfl
theorem bf_moved_step : BF "moved_step" "moved_step" s_moved_step ["step", "size"] := fun _ _ _ _ _ _ us hl => match us, hl with | [_, _], _ => rfl
theorem bf_joined : BF "joined" "joined" s_joined ["one", "other"] := fun _ _ _ _ _ _ us hl => match us, hl with | [_, _], _ => rfl
theorem bf_repeated : BF "repeated" "repeated" s_repeated ["text", "times"] := fun _ _ _ _ _ _ us hl => match us, hl with | [_, _], _ => rfl
theorem bf_Text_add : BF "__add__" "Text.__add__" s_Text_add ["self", "other"] := fun _ _ _ _ _ _ us hl => match us, hl with | [_, _], _ => rfl
theorem bf_Text_mul : BF "__mul__" "Text.__mul__" s_Text_mul ["self", "times"] := fun _ _ _ _ _ _ us hl => match us, hl with | [_, _], _ => rfl
theorem bf_Text_retyped : BF "retyped" "Text.retyped" s_Text_retyped ["self", "key", "letter"] := fun _ _ _ _ _ _ us hl => match us, hl with | [_, _, _], _ => rfl
theorem bf_Text_of_word : BF "of_word" "Text.of_word" s_Text_of_word ["cls", "word"] := fun _ _ _ _ _ _ us hl => match us, hl with | [_, _], _ => rfl
theorem bf_x_law_taken : BF "_law_taken" "_law_taken" s_x_law_taken ["_law_row", "_law_many"] := fun _ _ _ _ _ _ us hl => match us, hl with | [_, _], _ => rfl
theorem bf_x_law_word : BF "_law_word" "_law_word" s_x_law_word ["_law_row", "_law_most"] := fun _ _ _ _ _ _ us hl => match us, hl with | [_, _], _ => rfl
theorem bf_x_law_steps : BF "_law_steps" "_law_steps" s_x_law_steps ["_law_row", "_law_count", "_law_most"] := fun _ _ _ _ _ _ us hl => match us, hl with | [_, _, _], _ => rfl
theorem bf_InvalidChanges_init : BF "__init__" "InvalidChanges.__init__" s_InvalidChanges_init ["self", "index"] := fun _ _ _ _ _ _ us hl => match us, hl with | [_, _], _ => rfl
theorem bfd1_key_row : BFD "key_row" s_key_row ["text", "most"] 1 1 := fun _ _ _ _ _ _ _ us its hu hi => match us, its, hu, hi with | [_], [_], _, _ => ⟨_, rfl, rfl⟩
theorem bfd2_key_row : BFD "key_row" s_key_row ["text", "most"] 1 2 := fun _ _ _ _ _ _ _ us its hu hi => match us, its, hu, hi with | [_, _], [_], _, _ => ⟨_, rfl, rfl⟩
theorem bf_tie_pattern : BF "tie_pattern" "tie_pattern" s_tie_pattern ["text"] := fun _ _ _ _ _ _ us hl => match us, hl with | [_], _ => rfl
theorem bf_first_unlike_tie : BF "first_unlike_tie" "first_unlike_tie" s_first_unlike_tie ["text", "other"] := fun _ _ _ _ _ _ us hl => match us, hl with | [_, _], _ => rfl
theorem bf_retyped_by : BF "retyped_by" "retyped_by" s_retyped_by ["text", "changes"] := fun _ _ _ _ _ _ us hl => match us, hl with | [_, _], _ => rfl
theorem bf_x_law_raised : BF "_law_raised" "_law_raised" s_x_law_raised ["_law_work"] := fun _ _ _ _ _ _ us hl => match us, hl with | [_], _ => rfl
theorem bf_x_law_keys : BF "_law_keys" "_law_keys" s_x_law_keys ["_law_steps_here"] := fun _ _ _ _ _ _ us hl => match us, hl with | [_], _ => rfl
theorem bf_x_law_alike : BF "_law_alike" "_law_alike" s_x_law_alike ["_law_one", "_law_due"] := fun _ _ _ _ _ _ us hl => match us, hl with | [_, _], _ => rfl
theorem bf_x_law_pattern : BF "_law_pattern" "_law_pattern" s_x_law_pattern ["_law_keys_here"] := fun _ _ _ _ _ _ us hl => match us, hl with | [_], _ => rfl
theorem bf_x_law_is_changed : BF "_law_is_changed" "_law_is_changed" s_x_law_is_changed ["_law_row", "_law_text", "_law_keys_here", "_law_letters"] := fun _ _ _ _ _ _ us hl => match us, hl with | [_, _, _, _], _ => rfl
theorem bf_law : BF "law" "law" s_law ["_law_script"] := fun _ _ _ _ _ _ us hl => match us, hl with | [_], _ => rfl
theorem fin {q : Program} {l : PySem.W.OpenLaw} {w : World} {n : Nat} {K : PySem.W.Frag} {h : Heap} {mg : Str → Option Value} {fa CText CPart CTextError CInvalidStep CInvalidChanges CTooLong CInvalidPlace CInvalidKey CInvalidLetter CInvalidNumber c_x_law_is_changed p_x_law_is_changed c_law p_law : Addr} (X : K.In h) (G : h.Ns mainGlobals mg) (A : AllTab q K mg h) (hmg : mg "law" = some (.ref fa))
    (gText : PySem.W.nsIn K mainGlobals "Text" = some (some (.ref CText)))
    (gPart : PySem.W.nsIn K mainGlobals "Part" = some (some (.ref CPart)))
    (gTextError : PySem.W.nsIn K mainGlobals "TextError" = some (some (.ref CTextError)))
    (gInvalidStep : PySem.W.nsIn K mainGlobals "InvalidStep" = some (some (.ref CInvalidStep)))
    (gInvalidChanges : PySem.W.nsIn K mainGlobals "InvalidChanges" = some (some (.ref CInvalidChanges)))
    (gTooLong : PySem.W.nsIn K mainGlobals "TooLong" = some (some (.ref CTooLong)))
    (gInvalidPlace : PySem.W.nsIn K mainGlobals "InvalidPlace" = some (some (.ref CInvalidPlace)))
    (gInvalidKey : PySem.W.nsIn K mainGlobals "InvalidKey" = some (some (.ref CInvalidKey)))
    (gInvalidLetter : PySem.W.nsIn K mainGlobals "InvalidLetter" = some (some (.ref CInvalidLetter)))
    (gInvalidNumber : PySem.W.nsIn K mainGlobals "InvalidNumber" = some (some (.ref CInvalidNumber)))
    (T : (mg "Text" = some (.ref CText) ∧ mg "Part" = some (.ref CPart) ∧ mg "TextError" = some (.ref CTextError) ∧ mg "InvalidStep" = some (.ref CInvalidStep) ∧ mg "InvalidChanges" = some (.ref CInvalidChanges) ∧ mg "TooLong" = some (.ref CTooLong) ∧ mg "InvalidPlace" = some (.ref CInvalidPlace) ∧ mg "InvalidKey" = some (.ref CInvalidKey) ∧ mg "InvalidLetter" = some (.ref CInvalidLetter) ∧ mg "InvalidNumber" = some (.ref CInvalidNumber)) → Txt K mg CText CPart CTextError CInvalidStep CInvalidChanges CTooLong CInvalidPlace CInvalidKey CInvalidLetter CInvalidNumber c_x_law_is_changed p_x_law_is_changed c_law p_law)
    (hx_x_law_is_changed : ((recsOf q).any fun e => e.name == ("_law_is_changed" : Str)) = true)
    (hx_law : ((recsOf q).any fun e => e.name == ("law" : Str)) = true)
    (dp_x_law_is_changed_law : p_x_law_is_changed ≠ p_law)
    : LamX.LawAtS l w K CX0 74 n "_law_script" mg fa h := by
  have T := T ⟨PySem.W.mg_of X G gText, PySem.W.mg_of X G gPart, PySem.W.mg_of X G gTextError, PySem.W.mg_of X G gInvalidStep, PySem.W.mg_of X G gInvalidChanges, PySem.W.mg_of X G gTooLong, PySem.W.mg_of X G gInvalidPlace, PySem.W.mg_of X G gInvalidKey, PySem.W.mg_of X G gInvalidLetter, PySem.W.mg_of X G gInvalidNumber⟩
  obtain ⟨f, fd, F, a, b⟩ := T.d_law
  have e := hmg.symm.trans a
  cases e
  refine ⟨fd, [(c_x_law_is_changed, p_x_law_is_changed), (c_law, p_law)], sp_lawL K (TL p_x_law_is_changed p_law), ?_, ?_, ?_, fun s u => ?_, fun H a ns _ _ hT hS => ⟨a, ns, rfl, hS, ?_, fun _ => rfl⟩, fun base KB NB hT => ok_law T ?_ F⟩
  · intro p hp
    simp only [List.mem_cons, List.not_mem_nil, or_false] at hp
    rcases hp with rfl | rfl
    · exact T.t_x_law_is_changed.empty A T.d_x_law_is_changed hx_x_law_is_changed
    · exact T.t_law.empty A T.d_law hx_law
  · intro p hp
    simp only [List.mem_cons, List.not_mem_nil, or_false] at hp
    rcases hp with rfl | rfl
    · exact T.t_x_law_is_changed.no
    · exact T.t_law.no
  · intro p hp
    simp only [List.mem_cons, List.not_mem_nil, or_false] at hp
    rcases hp with rfl | rfl
    · exact PySem.W.codeHd_of_K X T.t_x_law_is_changed.hd
    · exact PySem.W.codeHd_of_K X T.t_law.hd
  · obtain ⟨oc, od, kV, doc, pm, an, ct, osl, rfl, lk, hcd⟩ := F.ex
    exact .of_eq (bf_law kV doc pm an (.ref c_law) ct [u] rfl)
  · intro p hp
    simp only [List.mem_cons, List.not_mem_nil, or_false] at hp
    rcases hp with rfl | rfl
    · exact LamX.TabS.nil (hT (c_x_law_is_changed, p_x_law_is_changed) (.head _))
    · exact LamX.TabS.nil (hT (c_law, p_law) (.tail _ (.head _)))
  · refine ⟨hT (c_x_law_is_changed, p_x_law_is_changed) (.head _), ?_, hT (c_law, p_law) (.tail _ (.head _)), ?_⟩
    · intro p hp e
      simp only [List.mem_cons, List.not_mem_nil, or_false] at hp
      rcases hp with rfl | rfl
      · rfl
      · exact absurd e.symm dp_x_law_is_changed_law
    · intro p hp e
      simp only [List.mem_cons, List.not_mem_nil, or_false] at hp
      rcases hp with rfl | rfl
      · exact absurd e dp_x_law_is_changed_law
      · rfl
end L2.Px

open PySem PySem.W PyProof.Rows
set_option maxRecDepth 100000 in
set_option maxHeartbeats 0 in
theorem PySem.Challenge.cw_pastekeys_k07_changes_and_patterns_holds : PySem.Challenge.rw_pastekeys_k07_changes_and_patterns.Holds := by
  w_on; o_law; k_head; (case hw => w_witness2)
  k_fill
  refine L2.Px.walk_ofT (l := PySem.Challenge.rw_pastekeys_k07_changes_and_patterns) (k := 74) (x := "_law_script") rfl (by decide) rfl ⟨rfl, by decide, by decide⟩ (fun w h Y => PySem.W.km_in_of Y) ?F
  case F =>
    intro w mg fa h KX G XL hmg AT
    refine' L2.Px.fin KX G AT hmg ?gText ?gPart ?gTextError ?gInvalidStep ?gInvalidChanges ?gTooLong ?gInvalidPlace ?gInvalidKey ?gInvalidLetter ?gInvalidNumber ?t ?hx_x_law_is_changed ?hx_law ?dp_x_law_is_changed_law
    (case gText => k_is)
    (case gPart => k_is)
    (case gTextError => k_is)
    (case gInvalidStep => k_is)
    (case gInvalidChanges => k_is)
    (case gTooLong => k_is)
    (case gInvalidPlace => k_is)
    (case gInvalidKey => k_is)
    (case gInvalidLetter => k_is)
    (case gInvalidNumber => k_is)
    case t =>
      intro gg
      obtain ⟨qText, qPart, qTextError, qInvalidStep, qInvalidChanges, qTooLong, qInvalidPlace, qInvalidKey, qInvalidLetter, qInvalidNumber⟩ := gg
      refine' L2.Px.Txt.mk ?d_is_integer ?d_is_letter ?d_is_word ?d_is_step ?d_Part_init ?d_Part_source ?d_Text_init ?d_Text_of_steps ?d_Text_steps ?d_Text_typed_keys ?d_Text_size ?d_Text_check_place ?d_Text_check_key ?d_Text_key_of ?d_Text_call ?d_Text_getitem ?d_Text_contains ?d_moved_step ?d_joined ?d_repeated ?d_Text_add ?d_Text_mul ?d_Text_retyped ?d_Text_of_word ?d_x_law_taken ?d_x_law_word ?d_x_law_steps ?d_InvalidChanges_init ?d_key_row ?d_tie_pattern ?d_first_unlike_tie ?d_retyped_by ?d_x_law_raised ?d_x_law_keys ?d_x_law_alike ?d_x_law_pattern ?d_x_law_is_changed ?d_law ?cText ?g_Text ?cPart ?g_Part ?ne_Text_Part ?xb_TextError ?x_InvalidStep ?x_InvalidChanges ?x_TooLong ?x_InvalidPlace ?x_InvalidKey ?x_InvalidLetter ?x_InvalidNumber ?z_InvalidChanges ?zf_InvalidChanges_index ?z_TooLong ?t_x_law_is_changed ?t_law ?na_Part_start ?na_Part_length ?na_Part_is_typed ?na_Part_first ?na_Part_last ?na_Text_made ?na_Text_typed ?na_Text_parts ?na_Text_total ?k_LETTERS ?k_MAX_WORD ?k_MAX_STEPS ?k_MAX_TIMES ?k_MAX_SIZE_texts ?k_MAX_TIED ?n_isinstance ?n_int ?n_bool ?n_str ?n_len ?n_all ?n_tuple ?n_list ?n_range ?n_enumerate ?n_min ?n_max ?n_zip ?n_ValueError
      (case d_is_integer => open L2 L2.Px StX ClX in (refine' defG_mk KX G ?a ?l ?k ?b; (case a => k_is); (case l => (refine' atF ?l1 ?l2; (case l1 => k_is); (case l2 => k_is))); (case k => k_is); (case b => exact bf_is_integer)))
      (case d_is_letter => open L2 L2.Px StX ClX in (refine' defG_mk KX G ?a ?l ?k ?b; (case a => k_is); (case l => (refine' atF ?l1 ?l2; (case l1 => k_is); (case l2 => k_is))); (case k => k_is); (case b => exact bf_is_letter)))
      (case d_is_word => open L2 L2.Px StX ClX in (refine' defG_mk KX G ?a ?l ?k ?b; (case a => k_is); (case l => (refine' atF ?l1 ?l2; (case l1 => k_is); (case l2 => k_is))); (case k => k_is); (case b => exact bf_is_word)))
      (case d_is_step => open L2 L2.Px StX ClX in (refine' defG_mk KX G ?a ?l ?k ?b; (case a => k_is); (case l => (refine' atF ?l1 ?l2; (case l1 => k_is); (case l2 => k_is))); (case k => k_is); (case b => exact bf_is_step)))
      (case d_Part_init => open L2 L2.Px StX ClX in (refine' defK_mk ?mk ?a ?fn ?kc ?l ?k ?b; (case mk => k_is); (case a => k_is); (case fn => k_is); (case kc => k_is); (case l => (refine' atF ?l1 ?l2; (case l1 => k_is); (case l2 => k_is))); (case k => k_is); (case b => exact bf_Part_init)))
      (case d_Part_source => open L2 L2.Px StX ClX in (refine' defM_mk ?a ?fn ?l ?k ?b; (case a => k_is); (case fn => k_is); (case l => (refine' atF ?l1 ?l2; (case l1 => k_is); (case l2 => k_is))); (case k => k_is); (case b => exact bf_Part_source)))
      (case d_Text_init => open L2 L2.Px StX ClX in (refine' defKS_mk ?mk ?a ?fn ?kc ?l ?k ?b; (case mk => k_is); (case a => k_is); (case fn => k_is); (case kc => k_is); (case l => (refine' atF ?l1 ?l2; (case l1 => k_is); (case l2 => k_is))); (case k => k_is); (case b => exact bf_Text_init)))
      (case d_Text_of_steps => open L2 L2.Px StX ClX in (refine' defC_mk (mc := .type "type") ?rd ?ga ?a ?r ?fi ?l ?k ?b; (case rd => k_is); (case ga => k_is); (case a => k_is); (case r => k_is); (case fi => k_is); (case l => (refine' atF ?l1 ?l2; (case l1 => k_is); (case l2 => k_is))); (case k => k_is); (case b => exact bf_Text_of_steps)))
      (case d_Text_steps => open L2 L2.Px StX ClX in (refine' defP_mk ?a ?g ?t ?r ?l ?k ?b; (case a => k_is); (case g => k_is); (case t => k_is); (case r => k_is); (case l => (refine' atF ?l1 ?l2; (case l1 => k_is); (case l2 => k_is))); (case k => k_is); (case b => exact bf_Text_steps)))
      (case d_Text_typed_keys => open L2 L2.Px StX ClX in (refine' defP_mk ?a ?g ?t ?r ?l ?k ?b; (case a => k_is); (case g => k_is); (case t => k_is); (case r => k_is); (case l => (refine' atF ?l1 ?l2; (case l1 => k_is); (case l2 => k_is))); (case k => k_is); (case b => exact bf_Text_typed_keys)))
      (case d_Text_size => open L2 L2.Px StX ClX in (refine' defP_mk ?a ?g ?t ?r ?l ?k ?b; (case a => k_is); (case g => k_is); (case t => k_is); (case r => k_is); (case l => (refine' atF ?l1 ?l2; (case l1 => k_is); (case l2 => k_is))); (case k => k_is); (case b => exact bf_Text_size)))
      (case d_Text_check_place => open L2 L2.Px StX ClX in (refine' defM_mk ?a ?fn ?l ?k ?b; (case a => k_is); (case fn => k_is); (case l => (refine' atF ?l1 ?l2; (case l1 => k_is); (case l2 => k_is))); (case k => k_is); (case b => exact bf_Text_check_place)))
      (case d_Text_check_key => open L2 L2.Px StX ClX in (refine' defM_mk ?a ?fn ?l ?k ?b; (case a => k_is); (case fn => k_is); (case l => (refine' atF ?l1 ?l2; (case l1 => k_is); (case l2 => k_is))); (case k => k_is); (case b => exact bf_Text_check_key)))
      (case d_Text_key_of => open L2 L2.Px StX ClX in (refine' defM_mk ?a ?fn ?l ?k ?b; (case a => k_is); (case fn => k_is); (case l => (refine' atF ?l1 ?l2; (case l1 => k_is); (case l2 => k_is))); (case k => k_is); (case b => exact bf_Text_key_of)))
      (case d_Text_call => open L2 L2.Px StX ClX in (refine' defX_mk ?r ?l ?k ?b; (case r => (refine' CallO.mk ?r1 ?r2 ?r3; (case r1 => k_is); (case r2 => k_is); (case r3 => k_is))); (case l => (refine' atF ?l1 ?l2; (case l1 => k_is); (case l2 => k_is))); (case k => k_is); (case b => exact bf_Text_call)))
      (case d_Text_getitem => open L2 L2.Px StX ClX in (refine' defX_mk ?r ?l ?k ?b; (case r => (refine' IOwn.mk ?r1 ?r2 ?r3; (case r1 => k_is); (case r2 => k_is); (case r3 => k_is))); (case l => (refine' atF ?l1 ?l2; (case l1 => k_is); (case l2 => k_is))); (case k => k_is); (case b => exact bf_Text_getitem)))
      (case d_Text_contains => open L2 L2.Px StX ClX in (refine' defX_mk ?r ?l ?k ?b; (case r => (refine' COwn.mk ?r1 ?r2; (case r1 => k_is); (case r2 => k_is))); (case l => (refine' atF ?l1 ?l2; (case l1 => k_is); (case l2 => k_is))); (case k => k_is); (case b => exact bf_Text_contains)))
      (case d_moved_step => open L2 L2.Px StX ClX in (refine' defG_mk KX G ?a ?l ?k ?b; (case a => k_is); (case l => (refine' atF ?l1 ?l2; (case l1 => k_is); (case l2 => k_is))); (case k => k_is); (case b => exact bf_moved_step)))
      (case d_joined => open L2 L2.Px StX ClX in (refine' defG_mk KX G ?a ?l ?k ?b; (case a => k_is); (case l => (refine' atF ?l1 ?l2; (case l1 => k_is); (case l2 => k_is))); (case k => k_is); (case b => exact bf_joined)))
      (case d_repeated => open L2 L2.Px StX ClX in (refine' defG_mk KX G ?a ?l ?k ?b; (case a => k_is); (case l => (refine' atF ?l1 ?l2; (case l1 => k_is); (case l2 => k_is))); (case k => k_is); (case b => exact bf_repeated)))
      (case d_Text_add => open L2 L2.Px StX ClX in (refine' defX_mk ?r ?l ?k ?b; (case r => (refine' BOwn.mk ?r1 ?r2 ?r3; (case r2 => k_is); (case r1 => k_is); (case r3 => k_is))); (case l => (refine' atF ?l1 ?l2; (case l1 => k_is); (case l2 => k_is))); (case k => k_is); (case b => exact bf_Text_add)))
      (case d_Text_mul => open L2 L2.Px StX ClX in (refine' defX_mk ?r ?l ?k ?b; (case r => (refine' BOwnI.mk ?r1 ?r2 ?r3 ?r4 ?r5 ?r6 ?r7; (case r2 => k_is); (case r1 => k_is); (case r3 => k_is); (case r4 => k_is); (case r5 => exact ⟨_, by k_is⟩); (case r6 => exact ⟨_, by k_is⟩); (case r7 => k_is))); (case l => (refine' atF ?l1 ?l2; (case l1 => k_is); (case l2 => k_is))); (case k => k_is); (case b => exact bf_Text_mul)))
      (case d_Text_retyped => open L2 L2.Px StX ClX in (refine' defM_mk ?a ?fn ?l ?k ?b; (case a => k_is); (case fn => k_is); (case l => (refine' atF ?l1 ?l2; (case l1 => k_is); (case l2 => k_is))); (case k => k_is); (case b => exact bf_Text_retyped)))
      (case d_Text_of_word => open L2 L2.Px StX ClX in (refine' defC_mk (mc := .type "type") ?rd ?ga ?a ?r ?fi ?l ?k ?b; (case rd => k_is); (case ga => k_is); (case a => k_is); (case r => k_is); (case fi => k_is); (case l => (refine' atF ?l1 ?l2; (case l1 => k_is); (case l2 => k_is))); (case k => k_is); (case b => exact bf_Text_of_word)))
      (case d_x_law_taken => open L2 L2.Px StX ClX in (refine' defG_mk KX G ?a ?l ?k ?b; (case a => k_is); (case l => (refine' atF ?l1 ?l2; (case l1 => k_is); (case l2 => k_is))); (case k => k_is); (case b => exact bf_x_law_taken)))
      (case d_x_law_word => open L2 L2.Px StX ClX in (refine' defG_mk KX G ?a ?l ?k ?b; (case a => k_is); (case l => (refine' atF ?l1 ?l2; (case l1 => k_is); (case l2 => k_is))); (case k => k_is); (case b => exact bf_x_law_word)))
      (case d_x_law_steps => open L2 L2.Px StX ClX in (refine' defG_mk KX G ?a ?l ?k ?b; (case a => k_is); (case l => (refine' atF ?l1 ?l2; (case l1 => k_is); (case l2 => k_is))); (case k => k_is); (case b => exact bf_x_law_steps)))
      (case d_InvalidChanges_init => open L2 L2.Px StX ClX in (refine' defI_mk ?a ?t ?l ?k ?b; (case a => k_is); (case t => k_is); (case l => (refine' atF ?l1 ?l2; (case l1 => k_is); (case l2 => k_is))); (case k => k_is); (case b => exact bf_InvalidChanges_init)))
      (case d_key_row => open L2 L2.Px StX ClX in (refine' defGF_mk KX G ?a ?l ?k ?pxd ?pxl ?b1 ?b2; (case a => k_is); (case l => (refine' atFD ?l1 ?l2 ?l3 ?v; (case l1 => k_is); (case l2 => k_is); (case l3 => k_is); (case v => exact .cons ⟨_, rfl⟩ (.nil)))); (case k => k_is); (case pxd => exact List.cons_ne_nil _ _); (case pxl => decide); (case b1 => exact bfd1_key_row); (case b2 => exact bfd2_key_row)))
      (case d_tie_pattern => open L2 L2.Px StX ClX in (refine' defG_mk KX G ?a ?l ?k ?b; (case a => k_is); (case l => (refine' atF ?l1 ?l2; (case l1 => k_is); (case l2 => k_is))); (case k => k_is); (case b => exact bf_tie_pattern)))
      (case d_first_unlike_tie => open L2 L2.Px StX ClX in (refine' defG_mk KX G ?a ?l ?k ?b; (case a => k_is); (case l => (refine' atF ?l1 ?l2; (case l1 => k_is); (case l2 => k_is))); (case k => k_is); (case b => exact bf_first_unlike_tie)))
      (case d_retyped_by => open L2 L2.Px StX ClX in (refine' defG_mk KX G ?a ?l ?k ?b; (case a => k_is); (case l => (refine' atF ?l1 ?l2; (case l1 => k_is); (case l2 => k_is))); (case k => k_is); (case b => exact bf_retyped_by)))
      (case d_x_law_raised => open L2 L2.Px StX ClX in (refine' defG_mk KX G ?a ?l ?k ?b; (case a => k_is); (case l => (refine' atF ?l1 ?l2; (case l1 => k_is); (case l2 => k_is))); (case k => k_is); (case b => exact bf_x_law_raised)))
      (case d_x_law_keys => open L2 L2.Px StX ClX in (refine' defG_mk KX G ?a ?l ?k ?b; (case a => k_is); (case l => (refine' atF ?l1 ?l2; (case l1 => k_is); (case l2 => k_is))); (case k => k_is); (case b => exact bf_x_law_keys)))
      (case d_x_law_alike => open L2 L2.Px StX ClX in (refine' defG_mk KX G ?a ?l ?k ?b; (case a => k_is); (case l => (refine' atF ?l1 ?l2; (case l1 => k_is); (case l2 => k_is))); (case k => k_is); (case b => exact bf_x_law_alike)))
      (case d_x_law_pattern => open L2 L2.Px StX ClX in (refine' defG_mk KX G ?a ?l ?k ?b; (case a => k_is); (case l => (refine' atF ?l1 ?l2; (case l1 => k_is); (case l2 => k_is))); (case k => k_is); (case b => exact bf_x_law_pattern)))
      (case d_x_law_is_changed => open L2 L2.Px StX ClX in (refine' defGC_mk KX G ?a ?l ?k ?b; (case a => k_is); (case l => (refine' atC ?l1 ?l2; (case l1 => k_is); (case l2 => k_is))); (case k => k_is); (case b => exact bf_x_law_is_changed)))
      (case d_law => open L2 L2.Px StX ClX in (refine' defGC_mk KX G ?a ?l ?k ?b; (case a => k_is); (case l => (refine' atC ?l1 ?l2; (case l1 => k_is); (case l2 => k_is))); (case k => k_is); (case b => exact bf_law)))
      (case cText => (refine' L2.Cls.mk ?a1 ?a2 ?a3 ?a4; (case a1 => k_is); (case a2 => k_is); (case a3 => k_is); (case a4 => k_is)))
      (case g_Text => exact qText)
      (case cPart => (refine' L2.Cls.mk ?a1 ?a2 ?a3 ?a4; (case a1 => k_is); (case a2 => k_is); (case a3 => k_is); (case a4 => k_is)))
      (case g_Part => exact qPart)
      (case ne_Text_Part => decide)
      (case xb_TextError => (refine' L2.Px.XBs.mk ?a1 ?a2 ?a3 ?a4; (case a1 => exact qTextError); (case a2 => k_is); (case a3 => k_is); (case a4 => k_is)))
      (case x_InvalidStep => (refine' L2.Px.XNm.mk ?a1; (case a1 => exact qInvalidStep)))
      (case x_InvalidChanges => (refine' L2.Px.XOw.mk ?a1 ?a2 ?a3 ?a4; (case a1 => exact qInvalidChanges); (case a2 => (refine' L2.Px.oex_mk ?l ?r ?sa ?e ?t ?kk; (case l => k_is); (case r => rfl); (case sa => k_is); (case e => k_is); (case t => k_is); (case kk => k_is))); (case a3 => (refine' L2.Px.xf_mk ?f1 ?f2 ?f3 ?f4; (case f1 => k_is); (case f2 => k_is); (case f3 => k_is); (case f4 => k_is))); (case a4 => (refine' L2.Px.no1 ?n1; (case n1 => k_is)))))
      (case x_TooLong => (refine' L2.Px.XPl.mk ?a1 ?a2 ?a3 ?a4 ?a5; (case a1 => exact qTooLong); (case a2 => kernel_rfl); (case a3 => k_is); (case a4 => k_is); (case a5 => k_is)))
      (case x_InvalidPlace => (refine' L2.Px.XNm.mk ?a1; (case a1 => exact qInvalidPlace)))
      (case x_InvalidKey => (refine' L2.Px.XNm.mk ?a1; (case a1 => exact qInvalidKey)))
      (case x_InvalidLetter => (refine' L2.Px.XNm.mk ?a1; (case a1 => exact qInvalidLetter)))
      (case x_InvalidNumber => (refine' L2.Px.XNm.mk ?a1; (case a1 => exact qInvalidNumber)))
      (case z_InvalidChanges => (refine' L2.Px.RzC.mk ?a1 ?a2 ?a3 ?a4; (case a1 => (refine' L2.Px.excC_mk ?e0 ?e1 ?e2 ?e3 ?e4 ?e5 ?e6 ?e7; (case e0 => k_is); (case e1 => k_is); (case e2 => k_is); (case e3 => k_is); (case e4 => k_is); (case e5 => k_is); (case e6 => k_is); (case e7 => k_is))); (case a2 => (refine' L2.Px.exm_mk ?e0 ?e1 ?e2 ?e3; (case e0 => k_is); (case e1 => k_is); (case e2 => k_is); (case e3 => k_is))); (case a3 => (refine' L2.Px.kit_ve ?e0; (case e0 => k_is))); (case a4 => (refine' L2.Px.kit_all ?k0 ?k1 ?k2 ?k3 ?k4 ?k5 ?k6; (case k0 => (refine' L2.Px.kit_cls2 ?a0 ?b1 ?b2 ?b3; (case a0 => decide); (case b1 => k_is); (case b2 => k_is); (case b3 => k_is))); (case k1 => exact L2.Px.kit_self); (case k2 => (refine' L2.Px.kit_cls2 ?a0 ?b1 ?b2 ?b3; (case a0 => decide); (case b1 => k_is); (case b2 => k_is); (case b3 => k_is))); (case k3 => (refine' L2.Px.kit_cls2 ?a0 ?b1 ?b2 ?b3; (case a0 => decide); (case b1 => k_is); (case b2 => k_is); (case b3 => k_is))); (case k4 => (refine' L2.Px.kit_cls2 ?a0 ?b1 ?b2 ?b3; (case a0 => decide); (case b1 => k_is); (case b2 => k_is); (case b3 => k_is))); (case k5 => (refine' L2.Px.kit_cls2 ?a0 ?b1 ?b2 ?b3; (case a0 => decide); (case b1 => k_is); (case b2 => k_is); (case b3 => k_is))); (case k6 => (refine' L2.Px.kit_cls2 ?a0 ?b1 ?b2 ?b3; (case a0 => decide); (case b1 => k_is); (case b2 => k_is); (case b3 => k_is)))))))
      (case zf_InvalidChanges_index => (refine' L2.Px.RzF.mk ?a1 ?a2; (case a1 => (refine' L2.Px.xf_mk ?f1 ?f2 ?f3 ?f4; (case f1 => k_is); (case f2 => k_is); (case f3 => k_is); (case f4 => k_is))); (case a2 => k_is)))
      (case z_TooLong => (refine' L2.Px.RzC.mk ?a1 ?a2 ?a3 ?a4; (case a1 => (refine' L2.Px.excC_mk ?e0 ?e1 ?e2 ?e3 ?e4 ?e5 ?e6 ?e7; (case e0 => k_is); (case e1 => k_is); (case e2 => k_is); (case e3 => k_is); (case e4 => k_is); (case e5 => k_is); (case e6 => k_is); (case e7 => k_is))); (case a2 => (refine' L2.Px.exm_mk ?e0 ?e1 ?e2 ?e3; (case e0 => k_is); (case e1 => k_is); (case e2 => k_is); (case e3 => k_is))); (case a3 => (refine' L2.Px.kit_ve ?e0; (case e0 => k_is))); (case a4 => (refine' L2.Px.kit_all ?k0 ?k1 ?k2 ?k3 ?k4 ?k5 ?k6; (case k0 => (refine' L2.Px.kit_cls2 ?a0 ?b1 ?b2 ?b3; (case a0 => decide); (case b1 => k_is); (case b2 => k_is); (case b3 => k_is))); (case k1 => (refine' L2.Px.kit_cls2 ?a0 ?b1 ?b2 ?b3; (case a0 => decide); (case b1 => k_is); (case b2 => k_is); (case b3 => k_is))); (case k2 => exact L2.Px.kit_self); (case k3 => (refine' L2.Px.kit_cls2 ?a0 ?b1 ?b2 ?b3; (case a0 => decide); (case b1 => k_is); (case b2 => k_is); (case b3 => k_is))); (case k4 => (refine' L2.Px.kit_cls2 ?a0 ?b1 ?b2 ?b3; (case a0 => decide); (case b1 => k_is); (case b2 => k_is); (case b3 => k_is))); (case k5 => (refine' L2.Px.kit_cls2 ?a0 ?b1 ?b2 ?b3; (case a0 => decide); (case b1 => k_is); (case b2 => k_is); (case b3 => k_is))); (case k6 => (refine' L2.Px.kit_cls2 ?a0 ?b1 ?b2 ?b3; (case a0 => decide); (case b1 => k_is); (case b2 => k_is); (case b3 => k_is)))))))
      (case t_x_law_is_changed => (refine' L2.Px.tabC_mk ?l ?v ?hd ?no; (case l => k_is); (case v => rfl); (case hd => kernel_rfl); (case no => kernel_rfl)))
      (case t_law => (refine' L2.Px.tabC_mk ?l ?v ?hd ?no; (case l => k_is); (case v => rfl); (case hd => kernel_rfl); (case no => kernel_rfl)))
      (case na_Part_start => (unfold L2.NoAttr; k_is))
      (case na_Part_length => (unfold L2.NoAttr; k_is))
      (case na_Part_is_typed => (unfold L2.NoAttr; k_is))
      (case na_Part_first => (unfold L2.NoAttr; k_is))
      (case na_Part_last => (unfold L2.NoAttr; k_is))
      (case na_Text_made => (unfold L2.NoAttr; k_is))
      (case na_Text_typed => (unfold L2.NoAttr; k_is))
      (case na_Text_parts => (unfold L2.NoAttr; k_is))
      (case na_Text_total => (unfold L2.NoAttr; k_is))
      (case k_LETTERS => (refine' L2.Px.const_str KX G ?a; (case a => k_is)))
      (case k_MAX_WORD => first | exact L2.Px.loose_int XL (.head _) | exact L2.Px.loose_int XL (.tail _ (.head _)) | exact L2.Px.loose_int XL (.tail _ (.tail _ (.head _))) | exact L2.Px.loose_int XL (.tail _ (.tail _ (.tail _ (.head _)))) | (refine' L2.Px.const_int KX G ?a; (case a => k_is)))
      (case k_MAX_STEPS => first | exact L2.Px.loose_int XL (.head _) | exact L2.Px.loose_int XL (.tail _ (.head _)) | exact L2.Px.loose_int XL (.tail _ (.tail _ (.head _))) | exact L2.Px.loose_int XL (.tail _ (.tail _ (.tail _ (.head _)))) | (refine' L2.Px.const_int KX G ?a; (case a => k_is)))
      (case k_MAX_TIMES => first | exact L2.Px.loose_int XL (.head _) | exact L2.Px.loose_int XL (.tail _ (.head _)) | exact L2.Px.loose_int XL (.tail _ (.tail _ (.head _))) | exact L2.Px.loose_int XL (.tail _ (.tail _ (.tail _ (.head _)))) | (refine' L2.Px.const_int KX G ?a; (case a => k_is)))
      (case k_MAX_SIZE_texts => first | exact L2.Px.loose_int XL (.head _) | exact L2.Px.loose_int XL (.tail _ (.head _)) | exact L2.Px.loose_int XL (.tail _ (.tail _ (.head _))) | exact L2.Px.loose_int XL (.tail _ (.tail _ (.tail _ (.head _)))) | (refine' L2.Px.const_int KX G ?a; (case a => k_is)))
      (case k_MAX_TIED => first | exact L2.Px.loose_int XL (.head _) | exact L2.Px.loose_int XL (.tail _ (.head _)) | exact L2.Px.loose_int XL (.tail _ (.tail _ (.head _))) | exact L2.Px.loose_int XL (.tail _ (.tail _ (.tail _ (.head _)))) | (refine' L2.Px.const_int KX G ?a; (case a => k_is)))
      (case n_isinstance => (refine' PySem.W.mg_none_of KX G ?a; (case a => k_is)))
      (case n_int => (refine' PySem.W.mg_none_of KX G ?a; (case a => k_is)))
      (case n_bool => (refine' PySem.W.mg_none_of KX G ?a; (case a => k_is)))
      (case n_str => (refine' PySem.W.mg_none_of KX G ?a; (case a => k_is)))
      (case n_len => (refine' PySem.W.mg_none_of KX G ?a; (case a => k_is)))
      (case n_all => (refine' PySem.W.mg_none_of KX G ?a; (case a => k_is)))
      (case n_tuple => (refine' PySem.W.mg_none_of KX G ?a; (case a => k_is)))
      (case n_list => (refine' PySem.W.mg_none_of KX G ?a; (case a => k_is)))
      (case n_range => (refine' PySem.W.mg_none_of KX G ?a; (case a => k_is)))
      (case n_enumerate => (refine' PySem.W.mg_none_of KX G ?a; (case a => k_is)))
      (case n_min => (refine' PySem.W.mg_none_of KX G ?a; (case a => k_is)))
      (case n_max => (refine' PySem.W.mg_none_of KX G ?a; (case a => k_is)))
      (case n_zip => (refine' PySem.W.mg_none_of KX G ?a; (case a => k_is)))
      (case n_ValueError => (refine' PySem.W.mg_none_of KX G ?a; (case a => k_is)))
    (case hx_x_law_is_changed => kernel_rfl)
    (case hx_law => kernel_rfl)
    (case dp_x_law_is_changed_law => decide)
