import PyProof.Rows.All
import Wide.All
import OpenK.AllK
import Wide.FinOn
import KE.KOpsOwn
import HandS.ForMost
import HandS.More
import HandS.Star
import HandS.ClsMeth
import HandS.Property
import HandS.IsInst
import HandS.SetKeys
import HandS.Style
import KE.GoesMore
import PyProof.EnumMake
import HandS.Text
import PyProof.InstNe
import HandS.Conv
import HandS.TupAny
import HandS.FStr
import PyProof.Rows.StrIntSpec
import PyProof.FString3
import HandS.WideBits
import HandS.GenYield
import HandS.GenCall
import HandS.GenList
import HandS.DictComp
import HandS.SetFor
import HandS.Strs
import HandS.SortInts
import HandS.Defaults
import HandS.NoneIn
import PyProof.StrOps2
import KE.KDictZip
import HandS.Lambda
import HandS.Nested
import HandS.EndTab
import HandS.ForExc
import HandS.ExcInit
import HandS.ExcIs
import HandS.ExcField
import HandS.TryOnly
import KE.KDflt
import KE.KExcIs
import PyProof.Rows.CountFlat
import HandS.EndOwn
import KE.KRevSl
import PyProof.ListStr
import KE.KUnpackStar
import HandS.Finally
import HandS.TryElse
import HandS.HeadHook3
import HandS.RaiseMore
import HandS.BytesMake
import HandS.WordsDict
import HandS.Replace
import HandS.ToBytes
import HandS.SetTxt0
import PyProof.Rows.SortShellAny
import HandS.ListItems
import PySem.Challenge.RW_pastekeys_k17_whole_rows_and_bytes
set_option Elab.async false
set_option linter.all false
set_option maxRecDepth 100000
set_option maxHeartbeats 1000000
namespace L2.Px
open PySem PySem.Spec PyProof.Rows StX
/-- the def named x keeps the promise sp -/
def GOk (P : Program) (w : World) (K : PySem.W.Frag) (mg : Str → Option Value) (base : Heap) (CX : CXT) (k : Nat) (x : Str) (sp : Sp) : Prop :=
  ∃ f, FnR P w K mg base CX k f sp ∧ mg x = some (.ref f) ∧ PySem.W.keepIn K (.ref f) = true
/-- the method m of the class at C keeps the promise sp -/
def MOk (P : Program) (w : World) (K : PySem.W.Frag) (mg : Str → Option Value) (base : Heap) (CX : CXT) (k : Nat) (C : Addr) (m : Str) (sp : Sp) : Prop :=
  ∃ f, FnR P w K mg base CX k f sp ∧ Meth K C m f
/-- a def of the top, as it stands -/
def DefG (K : PySem.W.Frag) (mg : Str → Option Value) (x : Str) (st : Stmt) (ps : List Str) : Prop :=
  ∃ f fd, Fun K x x st f fd ∧ mg x = some (.ref f) ∧ Binds K fd ps []
/-- a method of the class at C, as it stands -/
def DefM (K : PySem.W.Frag) (C : Addr) (m qual : Str) (st : Stmt) (ps : List Str) : Prop :=
  ∃ f fd, Fun K m qual st f fd ∧ Meth K C m f ∧ Binds K fd ps []
section
variable {P : Program} {w : World} {K : PySem.W.Frag} {mg : Str → Option Value} {base : Heap} {CX : CXT} {k : Nat} {f C : Addr} {fd : FuncData} {ps : List Str} {sp : Sp} {x m qual : Str} {st : Stmt}
theorem FnOk.toR (F : FnOk P w K mg base CX k f fd ps sp) (hb : Binds K fd ps []) : FnR P w K mg base CX k f sp := by
  intro A outer s H us vs Q E hr e0 r h
  have hl : (us ++ ([] : List Value)).length = ps.length := by rw [List.append_nil, ← r.length]; exact F.len _ _ _ _ h
  have kin : K.In s.heap := e0.mod.kin.keeps fun b o e => (e0.bs b o e).1
  have b1 := hb s us kin hl
  rw [List.append_nil] at b1
  exact F.run A outer s H ⟨us, []⟩ us vs Q E hr e0 b1 r h
theorem FnOk.toR1 {dvs : List V} {ds : List Value} (F : FnOk P w K mg base CX k f fd ps sp) (hb : Binds K fd ps ds) (hd : Vals dvs ds) : FnR P w K mg base CX k f (fun vs => sp (vs ++ dvs)) := by
  intro A outer s H us vs Q E hr e0 r h
  have r2 : Vals (vs ++ dvs) (us ++ ds) := r.append hd
  have hl : (us ++ ds).length = ps.length := by rw [← r2.length]; exact F.len _ _ _ _ h
  have kin : K.In s.heap := e0.mod.kin.keeps fun b o e => (e0.bs b o e).1
  exact F.run A outer s H ⟨us, []⟩ (us ++ ds) (vs ++ dvs) Q E hr e0 (hb s us kin hl) r2 h
theorem GOk.mono {j : Nat} (G : GOk P w K mg base CX j x sp) (h : j ≤ k) : GOk P w K mg base CX k x sp := let ⟨f, F, a, b⟩ := G; ⟨f, F.mono h, a, b⟩
theorem MOk.mono {j : Nat} (G : MOk P w K mg base CX j C m sp) (h : j ≤ k) : MOk P w K mg base CX k C m sp := let ⟨f, F, a⟩ := G; ⟨f, F.mono h, a⟩
/-- a def that no error leaves -/
theorem DefG.ok {N : List Str} (D : DefG K mg x st ps) (S : FnScope N ps (defScope st)) (len : ∀ vs H Q E, sp vs H Q E → vs.length = ps.length)
    (hbody : ∀ (f : Addr) (cdv : Value) (A : Around) (outer : List Env) (s : Shared) (H : Hp) (vs : List V) (Q : VK) (E : XK), Room k (A.deeper (envOfC x (defScope st) s.heap.objs.size f cdv)) → sp vs H Q E →
      ∃ t, PSs (cxOf CX0 P w K mg base N x (defScope st) f cdv A outer s H E).nox (defBody st) t ∧ t { nx := fun _ H' => Q .non H', rt := Q } (start N vs) H) : GOk P w K mg base CX0 (k + 1) x sp := by
  obtain ⟨f, fd, F, a, b⟩ := D
  exact ⟨f, FnOk.toR (F.ok S len fun cdv A outer s H vs Q E hr h => hbody f cdv A outer s H vs Q E hr h) b, a, F.kp⟩
theorem DefM.ok {N : List Str} (D : DefM K C m qual st ps) (S : FnScope N ps (defScope st)) (len : ∀ vs H Q E, sp vs H Q E → vs.length = ps.length)
    (hbody : ∀ (f : Addr) (cdv : Value) (A : Around) (outer : List Env) (s : Shared) (H : Hp) (vs : List V) (Q : VK) (E : XK), Room k (A.deeper (envOfC qual (defScope st) s.heap.objs.size f cdv)) → sp vs H Q E →
      ∃ t, PSs (cxOf CX0 P w K mg base N qual (defScope st) f cdv A outer s H E).nox (defBody st) t ∧ t { nx := fun _ H' => Q .non H', rt := Q } (start N vs) H) : MOk P w K mg base CX0 (k + 1) C m sp := by
  obtain ⟨f, fd, F, a, b⟩ := D
  exact ⟨f, FnOk.toR (F.ok S len fun cdv A outer s H vs Q E hr h => hbody f cdv A outer s H vs Q E hr h) b, a⟩
end
section
variable {X : Cx} {CX : CXT} {k : Nat} {C : Addr} {sp : Sp} {E : XK} {x m : Str} {e o : Expr} {es : List Expr} {te ta : TE} {t : TA} {p pos apos : Pos}
def tG (sp : Sp) (E : XK) (t : TA) : TE := fun σ H Q => t σ H fun vs H1 => sp vs H1 Q E
theorem pe_g (G : GOk X.prog X.w X.K X.mg X.base CX k x sp) (hr : Room k X.A) (hx : Passes CX X E) (ha : PA X (e :: es) t) (hg : Gl X x := by rfl) (hd : (x == ("__debug__" : Str)) = false := by decide)
    (he : starEach (e :: es) X.env = (false, eval e X.env) :: starEach es X.env := by rfl) (hpl : (backTo pos (starEach es X.env)).any (·.1) = false := by rfl) : PE X (.Call (.Name x p) (e :: es) [] pos) (tG sp E t) := by
  obtain ⟨f, F, hm, hk⟩ := G
  refine ⟨fun pins s σ H Q I h => ?_⟩
  refine wpAny_Call_Name_kw (ld_glob I hg hm ?_ hd)
  refine PySem.W.callWith_K (h₀ := X.base) I.ok.mod.kin hk (thn (ha.run pos pins s σ H _ I h) fun us s1 ⟨vs, H1, I1, r, q⟩ => ⟨I1.kIn, ?_⟩) he hpl
  exact wpAny_call (run_fnR F hr hx I1 r q)
/-- an instance of C that has no attribute m -/
def InsM (H : Hp) (a C : Addr) (m : Str) : Prop := ∃ dx fs, H a = some (.ins C dx fs) ∧ fs.lookup m = none
def tM (C : Addr) (m : Str) (sp : Sp) (E : XK) (ta : TE) (t : TA) : TE := fun σ H Q => ta σ H fun x H1 => ∃ a, x = .ref a ∧ InsM H1 a C m ∧ t σ H1 fun vs H2 => sp (x :: vs) H2 Q E
theorem pe_m {pl : Sem Bool} (he : PE X o ta) (c : Cls X.K C) (G : MOk X.prog X.w X.K X.mg X.base CX k C m sp) (hr : Room k X.A) (hx : Passes CX X E) (ha : PA X (e :: es) t)
    (hst : starEach (e :: es) X.env = (false, eval e X.env) :: starEach es X.env := by rfl) (hpl : (backTo pos (starEach es X.env)).any (·.1) = false := by rfl)
    (ht : eval (.Call (.Attribute o m apos) (e :: es) [] pos) X.env = (do
      let ov ← eval o X.env
      standAt apos.atName
      let (f, first) ← holding [ov] (getMethod ov m pl)
      callWith pos f first (backTo pos (starEach (e :: es) X.env)) (backToKw pos (keywordEach [] X.env))) := by rfl) :
    PE X (.Call (.Attribute o m apos) (e :: es) [] pos) (tM C m sp E ta t) := by
  obtain ⟨f, F, hm⟩ := G
  refine ⟨fun pins s σ H Q I h => ?_⟩
  refine PySem.W.methodCall_KW (pl := pl) (thn (he.run pins s σ H _ I h) fun u s1 ⟨x, H1, I1, rx, a, ex, ⟨dx, fs, ea, l⟩, q⟩ => ?_) ht
  subst ex
  obtain rfl : u = Value.ref a := rx
  refine getmeth_ok I1 ea c hm l ?_
  refine PySem.W.callWith_K (first := [.ref a]) (h₀ := X.base) I.ok.mod.kin hm.kp (thn (ha.run pos pins s1 σ H1 _ I1 q) fun us s2 ⟨vs, H2, I2, r, q2⟩ => ⟨I2.kIn, ?_⟩) hst hpl
  exact wpAny_call (run_fnR (us := .ref a :: us) (vs := .ref a :: vs) F hr hx I2 (.cons rfl r) q2)
theorem pe_m0 {pl : Sem Bool} (he : PE X o ta) (c : Cls X.K C) (G : MOk X.prog X.w X.K X.mg X.base CX k C m sp) (hr : Room k X.A) (hx : Passes CX X E)
    (ht : eval (.Call (.Attribute o m apos) [] [] pos) X.env = (do
      let ov ← eval o X.env
      standAt apos.atName
      let (f, first) ← holding [ov] (getMethod ov m pl)
      callWith pos f first (backTo pos (starEach [] X.env)) (backToKw pos (keywordEach [] X.env))) := by rfl) :
    PE X (.Call (.Attribute o m apos) [] [] pos) (tM C m sp E ta tNil) := by
  obtain ⟨f, F, hm⟩ := G
  refine ⟨fun pins s σ H Q I h => ?_⟩
  refine PySem.W.methodCall_KW (pl := pl) (thn (he.run pins s σ H _ I h) fun u s1 ⟨x, H1, I1, rx, a, ex, ⟨dx, fs, ea, l⟩, q⟩ => ?_) ht
  subst ex
  obtain rfl : u = Value.ref a := rx
  refine getmeth_ok I1 ea c hm l ?_
  exact PySem.W.callWith_K0 (first := [.ref a]) I1.kIn hm.kp (wpAny_call (run_fnR (us := [.ref a]) (vs := [.ref a]) F hr hx I1 (.cons rfl .nil) q))
/-- the class at C is made by an __init__ that keeps sp -/
def KOk (P : Program) (w : World) (K : PySem.W.Frag) (mg : Str → Option Value) (base : Heap) (CX : CXT) (k : Nat) (C : Addr) (sp : Sp) : Prop :=
  ∃ f, FnR P w K mg base CX k f sp ∧ Mk K C f
theorem pe_k (G : KOk X.prog X.w X.K X.mg X.base CX k C sp) (hr : Room (k + 1) X.A) (hm : X.mg x = some (.ref C)) (hx : Passes CX X E) (ha : PA X (e :: es) t) (hg : Gl X x := by rfl) (hdb : (x == ("__debug__" : Str)) = false := by decide)
    (he : starEach (e :: es) X.env = (false, eval e X.env) :: starEach es X.env := by rfl) (hpl : (backTo pos (starEach es X.env)).any (·.1) = false := by rfl) : PE X (.Call (.Name x p) (e :: es) [] pos) (tMakeR C sp E t) :=
  let ⟨_, F, M⟩ := G
  pe_makeR M F hr hg hm hx ha hdb he hpl
theorem pe_k0 (G : KOk X.prog X.w X.K X.mg X.base CX k C sp) (hr : Room (k + 1) X.A) (hm : X.mg x = some (.ref C)) (hx : Passes CX X E) (hg : Gl X x := by rfl) (hdb : (x == ("__debug__" : Str)) = false := by decide) :
    PE X (.Call (.Name x p) [] [] pos) (tMakeR C sp E tNil) := by
  obtain ⟨f, F, M⟩ := G
  refine ⟨fun pins s σ H Q I h => ?_⟩
  refine wpAny_Call_Name_kw (ld_glob I hg hm ?_ hdb)
  exact PySem.W.callWith_K0 I.kIn M.kp (run_makeR (us := []) M F hr hx I .nil h)
/-- C(*y), C by any name -/
def tMakeS (K : PySem.W.Frag) (C : Addr) (sp : Sp) (E : XK) (tf te : TE) : TE := fun σ H Q => tf σ H fun c H0 => c = V.ref C ∧ te σ H0 fun y H1 => ∃ a xs, y = V.ref a ∧ (SqT K H1 a xs ∨ SqL K H1 a xs) ∧
  ∀ x dx, H1 x = Option.none → H1 dx = Option.none → dx ≠ x → sp (V.ref x :: xs) (upd (upd H1 dx (.own x)) x (.ins C dx [])) (fun v H2 => v = .non ∧ Q (.ref x) H2) E
theorem pe_ks {tf : TE} {sp_ : Pos} (hf : PE X (.Name x p) tf) (G : KOk X.prog X.w X.K X.mg X.base CX k C sp) (hr : Room (k + 1) X.A) (hx : Passes CX X E) (he : PE X e te)
    (hst : starEach [.Starred e sp_] X.env = [(true, eval e X.env)] := by rfl) : PE X (.Call (.Name x p) [.Starred e sp_] [] pos) (tMakeS X.K C sp E tf te) := by
  obtain ⟨f, F, M⟩ := G
  refine ⟨fun pins s σ H Q I h => ?_⟩
  refine wpAny_Call_Name_kw (thn (hf.run pins s σ H _ I h) fun u0 s0 ⟨c, H0, I0, rc, ec, q0⟩ => ?_)
  subst ec
  obtain rfl : u0 = Value.ref C := rc
  refine PySem.W.callWith_S (h₀ := X.base) I.ok.mod.kin M.kp (thn (he.run pins s0 σ H0 _ I0 q0) fun v s1 ⟨y, H1, I1, ry, a, xs, ey, hxs, q⟩ => ?_) hst
  subst ey
  obtain rfl : v = Value.ref a := ry
  exact star_any I1 hxs fun us s2 I2 rv => ⟨I2.kIn, run_makeR M F hr hx I2 rv q⟩
end
section
variable {X : Cx} {CX : CXT} {k : Nat} {C f : Addr} {sp : Sp} {E : XK}
def InsA (H : Hp) (a C : Addr) : Prop := ∃ dx fs, H a = some (.ins C dx fs)
theorem InsA.at {pins : List (Addr × Obj)} {σ : St} {H : Hp} {s : Shared} {a : Addr} (I : Inv X pins σ H s) (h : InsA H a C) : ∃ ox od, PySem.W.InstAt s.heap a ox C od := by
  obtain ⟨dx, fs, h⟩ := h
  obtain ⟨mA, O, _⟩ := ins_get I.hok h
  obtain ⟨od, J, _⟩ := O.look
  exact ⟨_, _, J⟩
/-- what a class must have for x op y by its own method, y of the same class -/
structure BOwn (K : PySem.W.Frag) (C : Addr) (m : Str) (f : Addr) : Prop where
  first : PySem.W.selfFirst K C = true
  at_ : PySem.W.findIn K (.ref C) m = some (some (.ref f))
  fn : PySem.W.isFn K (.ref f) = true
theorem ncb {u : Value} {x : V} (r : RelV x u) {Q : Value → Shared → Prop} {s : Shared} (h : Q u s) : PySem.W.CmpBack Q u s := by
  cases x with
  | non => cases r; exact h
  | bl _ => cases r; exact h
  | int _ => obtain ⟨t, rfl⟩ := r; exact h
  | str _ => obtain ⟨t, rfl⟩ := r; exact h
  | byt _ => obtain ⟨t, rfl⟩ := r; exact h
  | flt _ => obtain ⟨t, rfl⟩ := r; exact h
  | ref _ => cases r; exact h
  | ty _ => cases r; exact h
def rOwn (C : Addr) (sp : Sp) (E : XK) : R2 := fun x y H Q => ∃ a b, x = .ref a ∧ y = .ref b ∧ InsA H a C ∧ InsA H b C ∧ sp [x, y] H Q E
theorem op_own {op : Operator} (b : BOwn X.K C (PySem.dunder op.info.2) f) (F : FnR X.prog X.w X.K X.mg X.base CX k f sp) (hr : Room k X.A) (hx : Passes CX X E) : OpR X (binaryOp op) (rOwn C sp E) := by
  intro pins s σ H x y v u Q I rx ry h
  obtain ⟨a, c, rfl, rfl, ia, ic, q⟩ := h
  obtain rfl : v = Value.ref a := rx
  obtain rfl : u = Value.ref c := ry
  obtain ⟨ox, od, J⟩ := ia.at I
  obtain ⟨oy, od', J'⟩ := ic.at I
  obtain ⟨m, Fr0⟩ := I.fr
  refine PySem.W.binop_K Fr0 I.ok.mod.kin J J'.type b.first b.at_ b.fn ?_
  exact wpAny_call (codeAny_mono (run_fnR (us := [.ref a, .ref c]) (vs := [.ref a, .ref c]) F hr hx I (.cons rfl (.cons rfl .nil)) q) fun r s' hq => by
    cases r with
    | error e => exact hq
    | ok fl =>
      cases fl with
      | ret w =>
        obtain ⟨v', H', I', rv, q'⟩ := hq
        exact ncb rv ⟨v', H', I', rv, q'⟩
      | next => exact hq
      | brk => exact hq
      | cont => exact hq)
/-- .. y an int -/
structure BOwnI (K : PySem.W.Frag) (C : Addr) (op : Operator) (f : Addr) : Prop where
  first : PySem.W.selfFirst K C = true
  at_ : PySem.W.findIn K (.ref C) (PySem.dunder op.info.2) = some (some (.ref f))
  fn : PySem.W.isFn K (.ref f) = true
  rr : PySem.W.findIn K (.ref C) (dunderR op.info.2) = some none
  h1 : ∃ fo, PySem.W.findIn K (.type "int") (PySem.dunder op.info.2) = some fo
  h2 : ∃ ro, PySem.W.findIn K (.type "int") (dunderR op.info.2) = some ro
  sub : PySem.W.subIn K (.type "int") (.ref C) = some false
def rOwnI (C : Addr) (sp : Sp) (E : XK) : R2 := fun x y H Q => ∃ a i, x = .ref a ∧ y = .int i ∧ InsA H a C ∧ sp [x, y] H Q E
theorem op_ownI {op : Operator} (b : BOwnI X.K C op f) (F : FnR X.prog X.w X.K X.mg X.base CX k f sp) (hr : Room k X.A) (hx : Passes CX X E) : OpR X (binaryOp op) (rOwnI C sp E) := by
  intro pins s σ H x y v u Q I rx ry h
  obtain ⟨a, i, rfl, rfl, ia, q⟩ := h
  obtain rfl : v = Value.ref a := rx
  obtain ⟨t, rfl⟩ := ry
  obtain ⟨ox, od, J⟩ := ia.at I
  obtain ⟨m, Fr0⟩ := I.fr
  obtain ⟨fo, h1⟩ := b.h1
  obtain ⟨ro, h2⟩ := b.h2
  refine PySem.W.ksp_binT Fr0 I.ok.mod.kin J (T := "int") rfl b.first b.at_ b.fn b.rr (.inl rfl) h1 h2 b.sub ?_
  exact wpAny_call (codeAny_mono (run_fnR (us := [.ref a, .int i t]) (vs := [.ref a, .int i]) F hr hx I (.cons rfl (.cons ⟨t, rfl⟩ .nil)) q) fun r s' hq => by
    cases r with
    | error e => exact hq
    | ok fl =>
      cases fl with
      | ret w =>
        obtain ⟨v', H', I', rv, q'⟩ := hq
        exact ncb rv ⟨v', H', I', rv, q'⟩
      | next => exact hq
      | brk => exact hq
      | cont => exact hq)
/-- x[y] by the own __getitem__ -/
structure IOwn (K : PySem.W.Frag) (C f : Addr) : Prop where
  at_ : PySem.W.findIn K (.ref C) "__getitem__" = some (some (.ref f))
  fi : PySem.W.fnIn K f = true
  fn : PySem.W.isFn K (.ref f) = true
def tIxOwn (C : Addr) (sp : Sp) (E : XK) (ta tb : TE) : TE := fun σ H Q => ta σ H fun x H1 => tb σ H1 fun y H2 => ∃ a, x = .ref a ∧ InsA H2 a C ∧ sp [x, y] H2 Q E
end
end L2.Px
set_option Elab.async false
set_option linter.all false
set_option maxRecDepth 100000
set_option maxHeartbeats 1000000
namespace L2.Px
open PySem PySem.Spec PyProof.Rows StX
section
variable {X : Cx} {CX : CXT} {k : Nat} {C f : Addr} {sp : Sp} {E : XK} {a b : Expr} {ta tb : TE} {pos : Pos}
structure COwn (K : PySem.W.Frag) (C f : Addr) : Prop where
  at_ : PySem.W.findIn K (.ref C) "__contains__" = some (some (.ref f))
  fn : PySem.W.isFn K (.ref f) = true
end
section
variable {X : Cx}
abbrev MQ := List (Str ⊕ Nat)
/-- the sub-patterns of a sequence: written texts and names -/
inductive PatEach (X : Cx) : List Pattern → MQ → Prop
  | nil : PatEach X [] []
  | val {z : Str} {k : Nat} {c pp : Pos} {ps : List Pattern} {qs : MQ} (h : PatEach X ps qs) : PatEach X (.MatchValue (.Constant (.str z) k c) pp :: ps) (.inl z :: qs)
  | cap {x : Str} {i : Nat} {pp : Pos} {ps : List Pattern} {qs : MQ} (h : X.N[i]? = some x ∧ Loc X.env.scope x ∧ (X.fn x = true ∨ X.env.scope.names.lookup x = some .local)) (h2 : PatEach X ps qs) : PatEach X (.MatchAs none (some x) pp :: ps) (.inr i :: qs)
def mBind : MQ → List V → Option (List (Nat × V))
  | .inl z :: qs, v :: vs => if v = .str z then mBind qs vs else none
  | .inr i :: qs, v :: vs => (mBind qs vs).map ((i, v) :: ·)
  | _, _ => some []
def scalOk : MQ → List V → Prop
  | .inl z :: qs, v :: vs => scal v (.str z) = true ∧ (v = .str z → scalOk qs vs)
  | .inr _ :: qs, _ :: vs => scalOk qs vs
  | _, _ => True
def setAll : St → List (Nat × V) → St
  | σ, [] => σ
  | σ, (i, v) :: bs => setAll (σ.set i (some v)) bs
/-- the names' values, as the matching hands them on -/
def BindsAre (X : Cx) : List (Nat × V) → List (Str × Value) → Prop := Paired fun p q => (X.N[p.1]? = some q.1 ∧ Loc X.env.scope q.1 ∧ (X.fn q.1 = true ∨ X.env.scope.names.lookup q.1 = some .local)) ∧ RelV p.2 q.2
theorem matchEach_run {pins : List (Addr × Obj)} {σ : St} {H : Hp} : ∀ {ps : List Pattern} {qs : MQ} {vs : List V} {us : List Value} {s : Shared}, PatEach X ps qs → Vals vs us → qs.length = vs.length → scalOk qs vs → Inv X pins σ H s →
    wpAny (model X.prog X.w) X.A (matchEach ps X.env us) (fun r s' => Inv X pins σ H s' ∧ match mBind qs vs with | none => r = none | some bs => ∃ bs', r = some bs' ∧ BindsAre X bs bs') X.xe s := by
  intro ps
  induction ps with
  | nil =>
    intro qs vs us s hp r hl hs I
    cases hp
    cases vs with
    | nil =>
      cases r
      exact wpAny_matchEach_nil ⟨I, [], rfl, .nil⟩
    | cons v vs => cases hl
  | cons p ps ih =>
    intro qs vs us s hp r hl hs I
    cases qs with
    | nil => cases hp
    | cons q qs =>
      cases vs with
      | nil => cases hl
      | cons v vs =>
        cases r with
        | cons rv rr =>
          rename_i u us
          have hl' : qs.length = vs.length := Nat.succ.inj hl
          cases q with
          | inl z' =>
            cases hp with
            | val hp2 =>
            rename_i k c pp
            obtain ⟨sc, hs2⟩ := hs
            refine wpAny_matchEach_cons (wpAny_matchPattern_Value (Calls.Constant_str ?_)) rfl
            have I1 := I.tok (s.toks + 1)
            refine thn (op_eq pins { s with toks := s.toks + 1 } σ H v (.str z') u (.str z' s.toks) (fun x H' => H' = H ∧ x = .bl (decide (v = .str z'))) I1 rv ⟨_, rfl⟩ ⟨sc, rfl, rfl⟩) fun w s2 hw => ?_
            obtain ⟨x, H', I2, rx, eH, ex⟩ := hw
            subst eH ex
            obtain rfl : w = Value.bool (decide (v = .str z')) := rx
            refine wpAny_truthy_bool ?_
            by_cases hv : v = .str z'
            · rw [if_pos (decide_eq_true hv)]
              refine thn (ih hp2 rr hl' (hs2 hv) I2) fun r' s3 ⟨I3, h3⟩ => ?_
              unfold mBind
              rw [if_pos hv]
              revert h3
              cases mBind qs vs with
              | none => intro h3; subst h3; exact ⟨I3, rfl⟩
              | some bs =>
                rintro ⟨bs', e, hb⟩
                subst e
                exact ⟨I3, bs', rfl, hb⟩
            · rw [if_neg (by simp [hv])]
              unfold mBind
              rw [if_neg hv]
              exact ⟨I2, rfl⟩
          | inr i =>
            cases hp with
            | cap hx hp2 =>
            refine wpAny_matchEach_cons (wpAny_matchPattern_Capture ?_) rfl
            refine thn (ih hp2 rr hl' hs I) fun r' s3 ⟨I3, h3⟩ => ?_
            unfold mBind
            revert h3
            cases mBind qs vs with
            | none => intro h3; subst h3; exact ⟨I3, rfl⟩
            | some bs =>
              rintro ⟨bs', e, hb⟩
              subst e
              exact ⟨I3, _, rfl, .cons ⟨hx, rv⟩ hb⟩
theorem binds_run {pins : List (Addr × Obj)} {H : Hp} (hN : X.N.Nodup) : ∀ {bs : List (Nat × V)} {bs' : List (Str × Value)} {σ : St} {s : Shared} {Q : Unit → Shared → Prop} {E : Value → Shared → Prop}, BindsAre X bs bs' → Inv X pins σ H s →
    (∀ s', Inv X pins (setAll σ bs) H s' → Q () s') → wpAny (model X.prog X.w) X.A (assignInOrder (bs'.map fun (n, _) => bindName X.env n) (bs'.map (·.2))) Q E s
  | [], _, σ, s, Q, E, .nil, I, h => assignInOrder_nil (h s I)
  | (i, v) :: bs, (x, u) :: bs', σ, s, Q, E, .cons hx hb, I, h => by
    obtain ⟨⟨h1, h2, h3⟩, rv⟩ := hx
    refine assignInOrder_cons (wpAny_bindName (store_ok I hN h1 h2 rv (fun s1 I1 => ?_) h3))
    exact binds_run hN hb I1 h
abbrev TC := V → TS
/-- the cases of a match, from one on -/
structure PCs (X : Cx) (cs : List MatchCase) (t : TC) : Prop where
  run : ∀ (first : Bool) (pins : List (Addr × Obj)) (s : Shared) (σ : St) (H : Hp) (D : Ends) (x : V) (v : Value), Inv X pins σ H s → RelV x v → t x D σ H → wpAny (model X.prog X.w) X.A (matchCases cs X.env v first) (SP X pins D) X.xe s
/-- case _: -/
theorem pcs_wild {body : List Stmt} {tb : TS} {p : Pos} (hb : PSs X body tb) : PCs X [⟨.MatchAs none none p, none, body⟩] (fun _ => tb) := by
  refine ⟨fun first pins s σ H D x v I r h => ?_⟩
  exact wpAny_matchCases_cons (wpAny_matchPattern_Capture (assignInOrder_nil (hb.run pins s σ H D I h)))
def NoSeq : V → Prop
  | .non | .bl _ | .int _ | .str _ => True
  | _ => False
def tCaseS (K : PySem.W.Frag) (qs : MQ) (g : TT) (tb : TS) (rest : TC) : TC := fun x D σ H =>
  (NoSeq x ∧ rest x D σ H) ∨ ∃ a xs, x = .ref a ∧ (SqT K H a xs ∨ SqL K H a xs) ∧ ((xs.length ≠ qs.length ∧ rest x D σ H) ∨ (xs.length = qs.length ∧ scalOk qs xs ∧
    match mBind qs xs with
    | none => rest x D σ H
    | some bs => g (setAll σ bs) H fun ok H1 => if ok = true then tb D (setAll σ bs) H1 else rest x D (setAll σ bs) H1))
theorem noseq_flag {x : V} {v : Value} (n : NoSeq x) (r : RelV x v) {Q : Bool → Shared → Prop} {M : Model} {A : Around} {E : Value → Shared → Prop} {s : Shared} (h : Q false s) : wpAny M A (collectionFlag true v) Q E s := by
  cases x with
  | non => cases r; exact wpAny_collectionFlag (T := "NoneType") rfl flag_seq_None h
  | bl _ => cases r; exact wpAny_collectionFlag (T := "bool") rfl flag_seq_bool h
  | int _ => obtain ⟨t, rfl⟩ := r; exact wpAny_collectionFlag (T := "int") rfl flag_seq_int h
  | str _ => obtain ⟨t, rfl⟩ := r; exact wpAny_collectionFlag (T := "str") rfl flag_seq_str h
  | byt _ => exact n.elim
  | flt _ => exact n.elim
  | ref _ => exact n.elim
  | ty _ => exact n.elim
/-- case [p1, p2, ..] if g: -/
theorem pcs_seq {ps : List Pattern} {qs : MQ} {g : Expr} {body : List Stmt} {rest : List MatchCase} {tg : TT} {tb : TS} {tr : TC} {p : Pos} (hc : X.calm = true) (hN : X.N.Nodup) (hp : PatEach X ps qs) (hl : ps.length = qs.length) (hg : PT X g tg) (hb : PSs X body tb) (hr : PCs X rest tr)
    (hstar : ps.findIdx? (·.isStar) = none := by rfl) (hwild : (ps.all fun p => p.isWildcard || (p.isStar && p.names.isEmpty)) = false := by rfl) : PCs X (⟨.MatchSequence ps p, some g, body⟩ :: rest) (tCaseS X.K qs tg tb tr) := by
  refine ⟨fun first pins s σ H D x v I r h => wpAny_matchCases_cons ?_⟩
  rcases h with ⟨n, h⟩ | ⟨a, xs, rfl, hq, h⟩
  · refine wpAny_matchPattern_Sequence (noseq_flag n r ?_) hstar hwild
    rw [if_neg Bool.false_ne_true]
    exact hr.run false pins s σ H D x v I r h
  · obtain rfl : v = Value.ref a := r
    have tail : ∀ {us : List Value} {s1 : Shared}, Inv X pins σ H s1 → Vals xs us → xs.length = qs.length → scalOk qs xs → (match mBind qs xs with
        | none => tr (.ref a) D σ H
        | some bs => tg (setAll σ bs) H fun ok H1 => if ok = true then tb D (setAll σ bs) H1 else tr (.ref a) D (setAll σ bs) H1) →
        wpAny (model X.prog X.w) X.A (matchEach ps X.env us) (fun r s₁ => match r with
          | none => wpAny (model X.prog X.w) X.A (matchCases rest X.env (.ref a) false) (SP X pins D) X.xe s₁
          | some bs => wpAny (model X.prog X.w) X.A (assignInOrder (bs.map fun (n, _) => bindName X.env n) (bs.map (·.2))) (fun _ s₂ =>
              wpAny (model X.prog X.w) X.A (isTrue g X.env (eval g X.env)) (fun ok s₃ => if ok then wpAny (model X.prog X.w) X.A (execs body X.env) (SP X pins D) X.xe s₃ else wpAny (model X.prog X.w) X.A (matchCases rest X.env (.ref a) false) (SP X pins D) X.xe s₃) X.xe s₂) X.xe s₁) X.xe s1 := by
      intro us s1 I1 rv hl2 hs hm
      refine thn (matchEach_run hp rv hl2.symm hs I1) fun r' s3 ⟨I3, h3⟩ => ?_
      revert h3 hm
      cases mBind qs xs with
      | none => intro hm h3; subst h3; exact hr.run false pins s3 σ H D (.ref a) _ I3 rfl hm
      | some bs =>
        rintro hm ⟨bs', e, hb'⟩
        subst e
        refine binds_run hN hb' I3 fun s4 I4 => ?_
        refine thn (hg.run pins s4 _ H _ I4 hm) fun ok s5 ⟨H5, I5, h5⟩ => ?_
        cases ok with
        | true => exact hb.run pins s5 _ H5 D I5 h5
        | false => exact hr.run false pins s5 _ H5 D (.ref a) _ I5 rfl h5
    rcases hq with hq | hq
    · obtain ⟨its, rv, ht, hz⟩ := I.tuple hq
      have hfit : (its.toArray.size : Int) < 2 ^ 63 := by
        have e := rv.length
        have z := line63
        rw [List.size_toArray]
        omega
      have I1 := I.tok (s.toks + 1 + 1)
      rcases h with ⟨hn, h⟩ | ⟨hn, hs, h⟩
      · exact matchSeq_tuple_miss ht hfit (by rw [List.size_toArray, ← rv.length, hl]; exact hn) (hr.run false pins _ σ H D (.ref a) _ I1 rfl h) hstar hwild
      · refine matchSeq_tuple_hit ht hfit (by rw [List.size_toArray, ← rv.length, hl]; exact hn) ?_ hstar hwild
        have e : ps.length = its.toArray.size := by rw [List.size_toArray, ← rv.length, hl]; exact hn.symm
        rw [e]
        refine unpackItems_tuple (I.ok.hd hc) ht fun h' hx => ?_
        exact tail (I1.kept (t' := s.toks + 1 + 1) fun b o q => hx b o (Nat.ne_of_lt (Heap.lt_size q)) q) (by simpa using rv) hn hs h
    · obtain ⟨its, rv, pl, hz⟩ := I.list hq
      have hfit : (its.toArray.size : Int) < 2 ^ 63 := by
        have e := rv.length
        have z := line63
        rw [List.size_toArray]
        omega
      have I1 := I.tok (s.toks + 1 + 1)
      rcases h with ⟨hn, h⟩ | ⟨hn, hs, h⟩
      · exact matchSeq_list_miss pl.isList hfit (by rw [List.size_toArray, ← rv.length, hl]; exact hn) (hr.run false pins _ σ H D (.ref a) _ I1 rfl h) hstar hwild
      · refine matchSeq_list_hit pl.isList hfit (by rw [List.size_toArray, ← rv.length, hl]; exact hn) ?_ hstar hwild
        have e : ps.length = its.toArray.size := by rw [List.size_toArray, ← rv.length, hl]; exact hn.symm
        rw [e]
        refine PySem.W.kun_itemsOf (I.ok.hd hc) pl.isList fun h' hx => ?_
        exact tail (I1.kept (t' := s.toks + 1 + 1) fun b o q => hx b o (Nat.ne_of_lt (Heap.lt_size q)) q) (by simpa using rv) hn hs h
def tMatch (te : TE) (tc : TC) : TS := fun D σ H => te σ H fun x H1 => tc x D σ H1
theorem ps_match {e : Expr} {cs : List MatchCase} {te : TE} {tc : TC} {pos : Pos} (he : PE X e te) (hc : PCs X cs tc) : PS X (.Match e cs pos) (tMatch te tc) := by
  refine ⟨fun pins s σ H D I h => wpAny_Match (thn (he.run pins s σ H _ I h) fun v s1 ⟨x, H1, I1, r, q⟩ => ?_)⟩
  exact hc.run true pins s1 σ H1 D x v I1 r q
end
end L2.Px
set_option Elab.async false
set_option linter.all false
set_option maxRecDepth 100000
set_option maxHeartbeats 1000000
namespace PySem
open Sem (wp)
open AutoSeq1 (wpAny_loadPart')
theorem pxMeets_enumerate_newT (l : Addr) (items : Array Value) (n : Nat) (dct : Option Addr) (sl : Array (Option Value)) :
    Meets (Builtin.«enumerate.__new__» ⟨[.type "enumerate", .ref l], []⟩) (fun _ R s => s.heap.get? l = some { cls := .type "tuple", dict := dct, data := .seq items n, slots := sl } ∧
      R (.ok (.ret (.ref (s.heap.push { cls := .type "tuple_iterator", data := .fields #[.ref l, .int 0 0] }).objs.size)))
        { s with heap := (s.heap.push { cls := .type "tuple_iterator", data := .fields #[.ref l, .int 0 0] }).push { cls := .type "enumerate", data := .fields #[.none, .bool false, .ref s.heap.objs.size, rawInt 0, .none, .none] } }) :=
  .of_wp fun prog w A R s h => by
    obtain ⟨hp, g, d, tk, os⟩ := s; obtain ⟨hl, h⟩ := h
    have hsub := sub_enumerate
    have hL : Heap.IsTuple (Shared.heap ⟨hp, g, d, tk, os⟩) l items := ⟨_, hl, rfl, n, rfl⟩
    wp_walk using wpAny_loadPart' hl
    refine wpAny_stack_any fun st => wpAny_pure ?_
    split
    · rename_i c _ _ _ _ _
      cases (c == Value.type "enumerate")
      · wp_walk using wpAny_loadPart' hl, wpAny_pyIter_tuple hL
        exact ⟨_, rfl, h⟩
      · wp_walk using wpAny_loadPart' hl, wpAny_pyIter_tuple hL
        exact ⟨_, rfl, h⟩
    · wp_walk using wpAny_loadPart' hl, wpAny_pyIter_tuple hL
      exact ⟨_, rfl, h⟩
section
variable {prog : Program} {w : World} {A : Around} {E : Value → Shared → Prop} {s : Shared}
theorem pxCall_enumerate_tuple {l : Addr} {items : Array Value} {Q : Value → Shared → Prop} (hL : s.heap.IsTuple l items)
    (h : ∀ h', IsEnum h' (s.heap.objs.size + 1) s.heap.objs.size 0 .none → h'.IsTupleIter s.heap.objs.size l 0 → h'.objs.size = s.heap.objs.size + 2 →
      (∀ b o, s.heap.get? b = some o → h'.get? b = some o) → Q (.ref (s.heap.objs.size + 1)) { s with heap := h' }) :
    wpAny (model prog w) A (call (.type "enumerate") [.ref l]) Q E s := by
  obtain ⟨⟨c, dct, dt, sl⟩, hl, hc, n, hd⟩ := hL
  replace hc : c = .type "tuple" := hc
  replace hd : dt = .seq items n := hd
  subst hc hd
  refine callType_new F.called_enumerate (by decide) (F.typeCall_enumerate_1 _) (F.newCall_enumerate_1 _) (fun obj => F.args_object_init_2 obj _) F.entry_enumerate_new
    (pxMeets_enumerate_newT l items n dct sl) ⟨hl, ?_⟩
  have hz : (s.heap.push { cls := .type "tuple_iterator", data := .fields #[.ref l, .int 0 0] }).objs.size = s.heap.objs.size + 1 := Heap.size_push ..
  show _ ∧ _
  rw [hz]
  have he : IsEnum ((s.heap.push { cls := .type "tuple_iterator", data := .fields #[.ref l, .int 0 0] }).push
      { cls := .type "enumerate", data := .fields #[.none, .bool false, .ref s.heap.objs.size, rawInt 0, .none, .none] }) (s.heap.objs.size + 1) s.heap.objs.size 0 .none := by
    have := Heap.get?_push_size (s.heap.push { cls := .type "tuple_iterator", data := .fields #[.ref l, .int 0 0] })
      (o := { cls := .type "enumerate", data := .fields #[.none, .bool false, .ref s.heap.objs.size, rawInt 0, .none, .none] }) rfl
    rw [hz] at this; exact this
  refine ⟨⟨_, he, rfl⟩, h _ he ⟨_, Heap.get?_push_of_some _ (Heap.get?_push_size _ rfl), rfl, rfl⟩ (by rw [Heap.size_push, hz]) fun b o x => Heap.get?_push_of_some _ (Heap.get?_push_of_some _ x)⟩
end
end PySem
namespace L2.Px
open PySem PySem.Spec PyProof.Rows StX
/-- the tuple at a, each item in a new pair -/
def IteT (K : PySem.W.Frag) (a : Addr) : It :=
  ⟨fun i H => ∃ (xs : List V) (x : V), SqT K H a xs ∧ xs[i]? = some x, fun i H v H' => ∃ T x, v = .ref T ∧ H T = none ∧ H' = upd H T (.tup [.int (i : Nat), x]) ∧ ∀ xs, SqT K H a xs → xs[i]? = some x, fun i H => ∃ xs : List V, SqT K H a xs ∧ xs.length ≤ i⟩
theorem turn_enumT {P : Program} {w : World} {K : PySem.W.Frag} {elts : List Expr} {kk : Nat} {tpos : Pos} (a e it : Addr) :
    Turn P w K (.Tuple elts kk tpos) (IteT K a) [e, it] e (fun i h => (∃ old, IsEnum h e it ((i : Nat) : Int) old) ∧ h.IsTupleIter it a i ∧ e ≠ it) where
  mem := by simp
  obj := fun i h st b hb => by
    obtain ⟨⟨old, he⟩, ⟨o, ho, hc, hd⟩, _⟩ := st
    have e' : b = e ∨ b = it := by simpa using hb
    rcases e' with z | z
    · rw [z]; exact ⟨_, he, fun v q => nomatch q⟩
    · rw [z]; exact ⟨o, ho, fun v q => by rw [hd] at q; cases q⟩
  keep := fun i h h' st k => let ⟨⟨old, he⟩, hi, hne⟩ := st; ⟨⟨old, k e (by simp) _ he⟩, hi.at fun o q => k it (by simp) o q, hne⟩
  item := by
    intro X hP hw hK hc i pins s σ H E I hf st hg
    subst hP hw hK
    obtain ⟨⟨old, he⟩, hit, hne⟩ := st
    obtain ⟨xs, x, hq, hx⟩ := hg
    obtain ⟨its, rv, p, hz⟩ := I.tuple hq
    obtain ⟨u, hu, ru⟩ := rv.get hx
    have hel : e < s.heap.objs.size := Heap.lt_size he
    have hil : it < s.heap.objs.size := by obtain ⟨_, q, _⟩ := hit; exact Heap.lt_size q
    have hh : X.A.handled = none := I.ok.hd hc
    have hait : a ≠ it := by
      rintro rfl
      obtain ⟨o1, q1, c1, _⟩ := p
      obtain ⟨o2, q2, c2, _⟩ := hit
      rw [q1] at q2; cases q2; rw [c1] at c2; exact absurd (Value.type.inj c2) (by decide)
    have hae : e ≠ a := by
      rintro rfl
      obtain ⟨o1, q1, c1, _⟩ := p
      have he' : s.heap.get? e = some _ := he
      rw [q1] at he'; cases he'; exact absurd (Value.type.inj c1) (by decide)
    have hi : i < its.toArray.size := by
      rw [List.size_toArray]
      exact (List.getElem?_eq_some_iff.mp hu).1
    refine wpAny_pyNext_enum_itemD (Draws.tuple (A := X.A.in1) hh it a hait its.toArray) he ⟨hit, p⟩ hi hne (by simp [hne, hae]) fun u' h' tk hu' ho hit' hT hsz hk => ?_
    have eu : u' = u := by
      have q : its[i]? = some u' := by simpa using hu'
      rw [hu] at q; exact (Option.some.inj q).symm
    subst eu
    refine ⟨_, rfl, wpAny_letOwnedTupleGo_enum (s := { s with heap := h', toks := tk + 1 }) ho fun h'' he' sb => ?_⟩
    have hT2 : h''.get? s.heap.objs.size = some { cls := .type "tuple", data := .seq #[.int i tk, u'] } := (sb.2 _ (Nat.ne_of_gt hel)).trans hT
    have new : ObjOk X.prog X.w (upd H s.heap.objs.size (.tup [.int (i : Nat), x])) h'' s.heap.objs.size (.tup [.int (i : Nat), x]) :=
      ⟨by show 2 ≤ sizeLine; decide, [.int i tk, u'], .cons ⟨_, rfl⟩ (.cons ru .nil), ⟨_, hT2, rfl, _, rfl⟩⟩
    have I1 : Inv X pins σ (upd H s.heap.objs.size (.tup [.int (i : Nat), x])) { s with heap := h'', toks := tk + 1 } :=
      I.turnedNew (ch := [e, it]) (fun b ob hb q => (sb.2 b (fun z => hb (by simp [z]))).trans (hk b ob (fun z => hb (by simp [z])) (fun z => hb (by simp [z])) q)) hf (Nat.le_refl _) new
    refine ⟨.ref s.heap.objs.size, _, I1, rfl, ⟨_, x, rfl, I.hok.fresh (Nat.le_refl _), rfl, fun ys hy => by rw [I.tuple_inj hy hq]; exact hx⟩, ⟨⟨u', ?_⟩, hit'.1.at fun o q => (sb.2 it (Ne.symm hne)).trans q, hne⟩, fun b hb => ?_⟩
    · have e1 : ((i + 1 : Nat) : Int) = (i : Int) + 1 := by omega
      rw [e1]; exact he'
    · have hb' : b < s.heap.objs.size := by
        have e' : b = e ∨ b = it := by simpa using hb
        rcases e' with z | z
        · rw [z]; exact hel
        · rw [z]; exact hil
      rw [upd_ne (Nat.ne_of_lt hb')]
      exact (hf b hb).1
  done := by
    intro X hP hw hK hc i pins s σ H E I hf st hg
    subst hP hw hK
    obtain ⟨⟨old, he⟩, hit, hne⟩ := st
    obtain ⟨xs, hq, hx⟩ := hg
    obtain ⟨its, rv, p, hz⟩ := I.tuple hq
    obtain ⟨f0, f1, f2, f3, f4, f5⟩ := hf it (by simp)
    have hh : X.A.handled = none := I.ok.hd hc
    have hn : its.toArray[i]? = none := by
      have hl := rv.length
      simp; omega
    have hT : s.TypeIs (.ref e) "enumerate" := ⟨_, he, rfl⟩
    unfold pyNext
    refine wpAny_bind (wpAny_attempt (wpAny_callSpecial?_slot (name := Str.ofString "__next__") hT F.slot_enumerate_next
      (wpAny_call_entry F.slot_enumerate_next hT F.entry_enumerate_next ?_ (F.args_enumerate_next_1 _))))
    show wpAny _ _ (field (.ref e) 2 >>= _) _ _ _
    refine wpAny_bind (wpAny_field he rfl (x := .ref it) rfl ?_)
    refine wpAny_bind (wpAny_nextOf_tuple_end hh hit p hn fun h' x he' hx' => ?_)
    obtain ⟨o, ho, hc'⟩ := hx'
    refine wpAny_bind (wpAny_isInstance (T := "StopIteration") (b := true) ⟨o, ho, hc'⟩ isSubtype_stop ?_)
    exact wpAny_pure ⟨rfl, I.turned (t' := s.toks) (fun b o hb q => he' b o hb q) f0 f1 f3 f4 f5⟩
  self := fun A i s Q E st h => let ⟨⟨_, he⟩, _⟩ := st; wpAny_pyIter_enum he h
def iEnumT (K : PySem.W.Frag) (ta : TA) : TI := fun σ H R => ta σ H fun vs H1 => ∃ a xs, vs = [.ref a] ∧ SqT K H1 a xs ∧ R (IteT K a) H1
theorem pi_enumT {X : Cx} {e : Expr} {ta : TA} {p pos tpos : Pos} {elts : List Expr} {kk : Nat} (hm : X.mg "enumerate" = none) (ha : PA X [e] ta) (hg : Gl X "enumerate" := by rfl) (hs : starEach [e] X.env = [(false, eval e X.env)] := by rfl) :
    PI X (.Tuple elts kk tpos) (.Call (.Name "enumerate" p) [e] [] pos) (iEnumT X.K ta) := by
  refine ⟨fun pins s σ H R I h => ?_⟩
  refine Call_ (ld_blt I hg hm boot_enumerate (PyProof.Rows.callWith_type1 (thn (ha.run pos pins s σ H _ I h) fun us s1 ⟨vs, H1, I1, r1, q1⟩ => ?_) hs rfl))
  obtain ⟨a, xs, ex, hq, q⟩ := q1
  subst ex
  cases r1 with
  | cons r rr =>
    cases rr
    cases r
    obtain ⟨its, rv, p', hz⟩ := I1.tuple hq
    refine pxCall_enumerate_tuple (show s1.heap.IsTuple a its.toArray from p') fun h' he hit hsz hk => wpAny_pyIter_enum he ?_
    have I2 : Inv X pins σ H1 { s1 with heap := h' } := I1.kept (t' := s1.toks) hk
    refine ⟨s1.heap.objs.size + 1, [s1.heap.objs.size + 1, s1.heap.objs.size], _, _, H1, rfl, I2, turn_enumT a (s1.heap.objs.size + 1) s1.heap.objs.size, ⟨⟨.none, he⟩, hit, Nat.succ_ne_self _⟩, fun b hb => ?_, q⟩
    have e' : b = s1.heap.objs.size + 1 ∨ b = s1.heap.objs.size := by simpa using hb
    have hle : s1.heap.objs.size ≤ b := by
      rcases e' with z | z
      · rw [z]; exact Nat.le_add_right _ _
      · rw [z]; exact Nat.le_refl _
    exact I1.fpOk hle (I1.hok.fresh hle)
/-- the loop over such a walk: the pair is new at T -/
theorem for_enumT {K : PySem.W.Frag} {a : Addr} {xs : List V} {g : TG} {tb : TS} {D : Ends} {σ : St} {H : Hp} (Pv : Nat → St → Hp → Prop) (h0 : Pv 0 σ H) (hl : ∀ i σ H, i ≤ xs.length → Pv i σ H → SqT K H a xs)
    (hs : ∀ i x T σ H, xs[i]? = some x → Pv i σ H → H T = none → g (.ref T) σ (upd H T (.tup [.int (i : Nat), x])) fun σ2 H2 => tb { D with nx := Pv (i + 1), ct := Pv (i + 1), bk := D.nx } σ2 H2) (hd : ∀ σ H, Pv xs.length σ H → D.nx σ H) :
    ∃ W : Nat → Nat → St → Hp → Prop, (∃ m, W 0 m σ H) ∧ ∀ i m σ H, W i m σ H →
      ((IteT K a).stop i H ∧ D.nx σ H) ∨ ((IteT K a).go i H ∧ ∃ N : St → Hp → Prop, (∀ σ' H', N σ' H' → ∃ m', m' < m ∧ W (i + 1) m' σ' H') ∧ ∀ x H', (IteT K a).yld i H x H' → g x σ H' fun σ2 H2 => tb { D with nx := N, ct := N, bk := D.nx } σ2 H2) := by
  refine ⟨fun i m σ H => m = xs.length - i ∧ i ≤ xs.length ∧ Pv i σ H, ⟨xs.length, by simp, Nat.zero_le _, h0⟩, ?_⟩
  rintro i m σ H ⟨rfl, hi, p⟩
  have q := hl i σ H hi p
  by_cases hlt : i < xs.length
  · refine .inr ⟨⟨xs, xs[i], q, by simp [hlt]⟩, Pv (i + 1), fun σ' H' p' => ⟨xs.length - (i + 1), by omega, rfl, hlt, p'⟩, fun x H' y => ?_⟩
    obtain ⟨T, z, rfl, hT, rfl, y⟩ := y
    exact hs i z T σ H (y xs q) p hT
  · have e : i = xs.length := by omega
    subst e
    exact .inl ⟨⟨xs, q, Nat.le_refl _⟩, hd σ H p⟩
end L2.Px
set_option Elab.async false
set_option linter.all false
set_option maxRecDepth 100000
set_option maxHeartbeats 1000000
namespace L2.Px
open PySem PySem.Spec PyProof.Rows StX
section
variable {X : Cx}
def rAddS : R2 := fun x y H Q => ∃ i j, x = .str i ∧ y = .str j ∧ i.length + j.length ≤ sizeLine ∧ Q (.str (i ++ j)) H
def rAddA (K : PySem.W.Frag) : R2 := fun x y H Q => rI0 (fun i j => .int (i + j)) x y H Q ∨ rAddS x y H Q ∨ rCat x y H Q
theorem oAdd : OpR X (binaryOp .Add) (rAddA X.K) := op_add.or (op_add_str.or op_cat)
def rMulA : R2 := fun x y H Q => rI CMul (fun i j => .int (i * j)) x y H Q ∨ rRep x y H Q
theorem oMul : OpR X (binaryOp .Mult) rMulA := op_mul.or op_rep
def rEqA (K : PySem.W.Frag) : R2 := fun x y H Q => rEq x y H Q ∨ rEqD K x y H Q
def rNeA (K : PySem.W.Frag) : R2 := fun x y H Q => rNe x y H Q ∨ rNeD K x y H Q
theorem oEq (hu : X.A.units + 64 < cLine) : OpR X (compareOp .Eq) (rEqA X.K) := op_eq.or (op_eqD hu)
theorem oNe (hu : X.A.units + 64 < cLine) : OpR X (compareOp .NotEq) (rNeA X.K) := op_ne.or (op_neD hu)
end
section
variable {K : PySem.W.Frag} {σ : St} {H : Hp} {Q : VK} {i j : Int} {x y : Str} {a b : Addr} {xs ys : List V} {p q : Prop} {A B : Prop} {c : Bool} {v : V}
theorem rd_add_int (h : Q (.int (i + j)) H) : rAddA K (.int i) (.int j) H Q := .inl ⟨i, j, rfl, rfl, h⟩
theorem rd_add_str (hz : x.length + y.length ≤ sizeLine) (h : Q (.str (x ++ y)) H) : rAddA K (.str x) (.str y) H Q := .inr (.inl ⟨x, y, rfl, rfl, hz, h⟩)
theorem rd_add_lst (ha : H a = some (.lst xs)) (hb : H b = some (.lst ys)) (hz : xs.length + ys.length ≤ sizeLine) (h : ∀ p, H p = none → Q (.ref p) (upd H p (.lst (xs ++ ys)))) : rAddA K (.ref a) (.ref b) H Q := .inr (.inr ⟨a, b, xs, ys, rfl, rfl, ha, hb, hz, h⟩)
theorem rd_mul_int (hc : CMul i j) (h : Q (.int (i * j)) H) : rMulA (.int i) (.int j) H Q := .inl ⟨i, j, rfl, rfl, hc, h⟩
theorem rd_eq_scal {v w : V} (hs : scal v w = true) (h : Q (.bl (decide (v = w))) H) : rEqA K v w H Q := .inl ⟨hs, h⟩
theorem rd_ne_scal {v w : V} (hs : scal v w = true) (h : Q (.bl (!decide (v = w))) H) : rNeA K v w H Q := .inl ⟨hs, h⟩
theorem dec_int (i j : Int) : decide (V.int i = V.int j) = decide (i = j) := by rw [L2.dec_int, Bool.beq_eq_decide_eq]
theorem dec_str (x y : Str) : decide (V.str x = V.str y) = decide (x = y) := by rw [L2.dec_str, Bool.beq_eq_decide_eq]
theorem dec_bl (x y : Bool) : decide (V.bl x = V.bl y) = decide (x = y) := by rw [L2.dec_bl, Bool.beq_eq_decide_eq]
theorem rd_eq_int (h : Q (.bl (decide (i = j))) H) : rEqA K (.int i) (.int j) H Q := rd_eq_scal rfl (by rw [dec_int]; exact h)
theorem rd_eq_str (h : Q (.bl (decide (x = y))) H) : rEqA K (.str x) (.str y) H Q := rd_eq_scal rfl (by rw [dec_str]; exact h)
theorem rd_eq_bl {c d : Bool} (h : Q (.bl (decide (c = d))) H) : rEqA K (.bl c) (.bl d) H Q := rd_eq_scal rfl (by rw [dec_bl]; exact h)
theorem rd_ne_int (h : Q (.bl (!decide (i = j))) H) : rNeA K (.int i) (.int j) H Q := rd_ne_scal rfl (by rw [dec_int]; exact h)
theorem rd_ne_str (h : Q (.bl (!decide (x = y))) H) : rNeA K (.str x) (.str y) H Q := rd_ne_scal rfl (by rw [dec_str]; exact h)
theorem rd_ne_bl {c d : Bool} (h : Q (.bl (!decide (c = d))) H) : rNeA K (.bl c) (.bl d) H Q := rd_ne_scal rfl (by rw [dec_bl]; exact h)
theorem rd_eq_dat {d e : PyData} {v w : V} (hd : Dp K H v d) (he : Dp K H w e) (sd : SeqAt.shaped d = true) (se : SeqAt.shaped e = true) (h : Q (.bl (PyData.eqv d e)) H) : rEqA K v w H Q := .inr ⟨d, e, hd, he, sd, se, h⟩
theorem rd_ne_dat {d e : PyData} {v w : V} (hd : Dp K H v d) (he : Dp K H w e) (sd : SeqAt.shaped d = true) (se : SeqAt.shaped e = true) (h : Q (.bl (!PyData.eqv d e)) H) : rNeA K v w H Q := .inr ⟨d, e, hd, he, sd, se, h⟩
theorem rd_sub (h : Q (.int (i - j)) H) : rI0 (fun i j => .int (i - j)) (.int i) (.int j) H Q := ⟨i, j, rfl, rfl, h⟩
theorem rd_I0 {g : Int → Int → V} (h : Q (g i j) H) : rI0 g (.int i) (.int j) H Q := ⟨i, j, rfl, rfl, h⟩
theorem rd_I {C : Int → Int → Prop} {g : Int → Int → V} (hc : C i j) (h : Q (g i j) H) : rI C g (.int i) (.int j) H Q := ⟨i, j, rfl, rfl, hc, h⟩
theorem rd_bl {R : Bool → Prop} (h : R c) : ∃ k, V.bl c = .bl k ∧ R k := ⟨c, rfl, h⟩
theorem rd_dT [Decidable p] (h : p) (a : A) : if decide p = true then A else B := by rw [if_pos (decide_eq_true h)]; exact a
theorem rd_dF [Decidable p] (h : ¬ p) (b : B) : if decide p = true then A else B := by rw [if_neg (by simp [h])]; exact b
theorem rd_nT [Decidable p] (h : ¬ p) (a : A) : if (!decide p) = true then A else B := by rw [if_pos (by simp [h])]; exact a
theorem rd_nF [Decidable p] (h : p) (b : B) : if (!decide p) = true then A else B := by rw [if_neg (by simp [h])]; exact b
theorem rd_cT (h : c = true) (a : A) : if c = true then A else B := by rw [if_pos h]; exact a
theorem rd_cF (h : c = false) (b : B) : if c = true then A else B := by rw [h, if_neg Bool.false_ne_true]; exact b
theorem rd_ite [Decidable p] (a : p → A) (b : ¬ p → B) : if decide p = true then A else B := by
  by_cases h : p
  · exact rd_dT h (a h)
  · exact rd_dF h (b h)
variable {te ta tb tc' : TE} {t : TA} {tt uu : TT} {sp : Sp} {E : XK} {r r' : R2} {n : Nat} {f m : Str} {C dx : Addr} {fs : List (Str × V)}
theorem rd_var (h : σ[n]? = some (some v)) (q : Q v H) : tVar n σ H Q := ⟨v, h, q⟩
theorem rd_C (q : Q v H) : tC v σ H Q := q
theorem rd_op (h : ta σ H fun x H1 => tb σ H1 fun y H2 => r x y H2 Q) : tOp r ta tb σ H Q := h
theorem rd_test {R : Bool → Hp → Prop} (h : te σ H fun x H' => ∃ k, x = .bl k ∧ R k H') : tTest te σ H R := h
theorem rd_tB {R : Bool → Hp → Prop} (h : te σ H fun x H' => ∃ k, x = .bl k ∧ R k H') : tB te σ H R := h
theorem rd_chain (h : ta σ H fun x H1 => tb σ H1 fun y H2 => r x y H2 fun z H3 => ∃ k, z = .bl k ∧ (if k = true then tc' σ H3 fun w' H4 => r' y w' H4 Q else Q (.bl false) H3)) : tChain r r' ta tb tc' σ H Q := h
theorem rd_and {R : Bool → Hp → Prop} (h : tt σ H fun c H1 => if c = true then uu σ H1 R else R false H1) : tAnd tt uu σ H R := h
theorem rd_or {R : Bool → Hp → Prop} (h : tt σ H fun c H1 => if c = true then R true H1 else uu σ H1 R) : tOr tt uu σ H R := h
theorem rd_not {R : Bool → Hp → Prop} (h : tt σ H fun c H1 => R (!c) H1) : tNot tt σ H R := h
theorem rd_andV (h : ta σ H fun x H1 => ∃ k, x = .bl k ∧ (if k = true then tb σ H1 Q else Q (.bl false) H1)) : tAndV ta tb σ H Q := h
theorem rd_orV (h : ta σ H fun x H1 => ∃ k, x = .bl k ∧ (if k = true then Q (.bl true) H1 else tb σ H1 Q)) : tOrV ta tb σ H Q := h
theorem rd_notV (h : ta σ H fun x H1 => ∃ k, x = .bl k ∧ Q (.bl (!k)) H1) : tNotV ta σ H Q := h
theorem rd_if (h : tt σ H fun c H1 => if c = true then ta σ H1 Q else tb σ H1 Q) : tIf tt ta tb σ H Q := h
theorem rd_g (h : t σ H fun vs H1 => sp vs H1 Q E) : tG sp E t σ H Q := h
theorem rd_m (h : ta σ H fun x H1 => ∃ a, x = .ref a ∧ InsM H1 a C m ∧ t σ H1 fun vs H2 => sp (x :: vs) H2 Q E) : tM C m sp E ta t σ H Q := h
theorem rd_m_at (i : InsM H a C m) (h : t σ H fun vs H2 => sp (.ref a :: vs) H2 Q E) : ∃ a', V.ref a = .ref a' ∧ InsM H a' C m ∧ t σ H fun vs H2 => sp (V.ref a :: vs) H2 Q E := ⟨a, rfl, i, h⟩
theorem rd_nil {R : List V → Hp → Prop} (h : R [] H) : tNil σ H R := h
theorem rd_cons {R : List V → Hp → Prop} (h : te σ H fun x H1 => t σ H1 fun xs H2 => R (x :: xs) H2) : tCons te t σ H R := h
theorem rd_star {R : List V → Hp → Prop} (h : te σ H fun x H1 => ∃ p xs, x = V.ref p ∧ (SqT K H1 p xs ∨ SqL K H1 p xs) ∧ t σ H1 fun ys H2 => R (xs ++ ys) H2) : tStar K te t σ H R := h
theorem rd_tup (h : t σ H fun xs H1 => xs.length ≤ sizeLine ∧ ∀ p, H1 p = none → Q (.ref p) (upd H1 p (.tup xs))) : tTup t σ H Q := h
theorem rd_lst (h : t σ H fun xs H1 => xs.length ≤ sizeLine ∧ ∀ p, H1 p = none → Q (.ref p) (upd H1 p (.lst xs))) : tLst t σ H Q := h
def rFld (K : PySem.W.Frag) (f : Str) (x : V) (H1 : Hp) (Q : VK) : Prop := ∃ a C dx fs v, x = .ref a ∧ H1 a = some (.ins C dx fs) ∧ Cls K C ∧ NoAttr K C f ∧ fs.lookup f = some v ∧ Q v H1
theorem rd_fld (h : te σ H fun x H1 => rFld K f x H1 Q) : tFld K te f σ H Q := h
theorem rd_fld_at (e : H a = some (.ins C dx fs)) (c : Cls K C) (nn : NoAttr K C f) (l : fs.lookup f = some v) (q : Q v H) : rFld K f (.ref a) H Q := ⟨a, C, dx, fs, v, rfl, e, c, nn, l, q⟩
theorem rd_cb {rr : List V → Hp → VK → Prop} (h : t σ H fun vs H1 => rr vs H1 Q) : tCB rr t σ H Q := h
theorem rd_un {ru : V → Hp → VK → Prop} (h : ta σ H fun x H1 => ru x H1 Q) : tUn ru ta σ H Q := h
def rMk (C : Addr) (sp : Sp) (E : XK) (vs : List V) (H1 : Hp) (Q : VK) : Prop := ∀ x dx, H1 x = Option.none → H1 dx = Option.none → dx ≠ x → sp (V.ref x :: vs) (upd (upd H1 dx (.own x)) x (.ins C dx [])) (fun v H2 => v = .non ∧ Q (.ref x) H2) E
theorem rd_makeR (h : t σ H fun vs H1 => rMk C sp E vs H1 Q) : tMakeR C sp E t σ H Q := h
def rMkS (K : PySem.W.Frag) (C : Addr) (sp : Sp) (E : XK) (y : V) (H1 : Hp) (Q : VK) : Prop := ∃ a xs, y = V.ref a ∧ (SqT K H1 a xs ∨ SqL K H1 a xs) ∧ rMk C sp E xs H1 Q
theorem rd_makeS (h : ta σ H fun c H0 => c = V.ref C ∧ te σ H0 fun y H1 => rMkS K C sp E y H1 Q) : tMakeS K C sp E ta te σ H Q := h
theorem rd_mkS (hq : SqT K H a xs ∨ SqL K H a xs) (h : rMk C sp E xs H Q) : rMkS K C sp E (.ref a) H Q := ⟨a, xs, rfl, hq, h⟩
theorem rd_bm {T : String} {rm : V → List V → Hp → VK → Prop} (h : te σ H fun x H1 => tyV K T x H1 ∧ t σ H1 fun xs H2 => rm x xs H2 Q) : tBM K T rm te t σ H Q := h
theorem rd_bm0 {T : String} {rm : V → List V → Hp → VK → Prop} (h : te σ H fun x H1 => tyV K T x H1 ∧ rm x [] H1 Q) : tBM0 K T rm te σ H Q := h
theorem rd_ixI (h : Q v H) (hx : SqL K H a xs) (e : atI xs i = some v) : rIx K (.ref a) (.int i) H Q := .inl ⟨a, xs, i, v, rfl, rfl, hx, e, h⟩
theorem rd_ixT (h : Q v H) (hx : SqT K H a xs) (e : atI xs i = some v) : rIx K (.ref a) (.int i) H Q := .inr (.inl ⟨a, xs, i, v, rfl, rfl, hx, e, h⟩)
variable {nx ct bk : St → Hp → Prop} {rt : VK} {st su : TS} {D : Ends} {vs : List V} {g : TG} {gs : TGs} {R : St → Hp → Prop}
theorem rd_seq (h : st ⟨su ⟨nx, rt, bk, ct⟩, rt, bk, ct⟩ σ H) : tSeq st su ⟨nx, rt, bk, ct⟩ σ H := h
theorem rd_next (h : nx σ H) : tNext ⟨nx, rt, bk, ct⟩ σ H := h
theorem rd_break (h : bk σ H) : tBreak ⟨nx, rt, bk, ct⟩ σ H := h
theorem rd_cont (h : ct σ H) : tCont ⟨nx, rt, bk, ct⟩ σ H := h
theorem rd_ret (h : te σ H rt) : tRet te ⟨nx, rt, bk, ct⟩ σ H := h
theorem rd_retN (h : rt .non H) : tRetN ⟨nx, rt, bk, ct⟩ σ H := h
theorem rd_drop (h : te σ H fun _ H1 => nx σ H1) : tDrop te ⟨nx, rt, bk, ct⟩ σ H := h
theorem rd_ifS (h : tt σ H fun b H1 => if b = true then st D σ H1 else su D σ H1) : tIfS tt st su D σ H := h
theorem rd_asg (h : te σ H fun x H1 => g x σ H1 nx) : tAsg te g ⟨nx, rt, bk, ct⟩ σ H := h
theorem rd_name (h : R (σ.set n (some v)) H) : gName n v σ H R := h
theorem rd_gtup (hq : SqT K H a xs) (hl : xs.length = n) (h : gs xs σ H R) : gTup K n gs (.ref a) σ H R := ⟨a, xs, rfl, hq, hl, h⟩
theorem rd_gnil (h : R σ H) : gNil [] σ H R := ⟨rfl, h⟩
theorem rd_gcons (h : g v σ H fun σ' H' => gs vs σ' H' R) : gCons g gs (v :: vs) σ H R := ⟨v, vs, rfl, h⟩
theorem rd_gsub {s : TSet} (h : ta σ H fun o H1 => tb σ H1 fun i H2 => s o i v H2 fun H3 => R σ H3) : gSub ta tb s v σ H R := h
theorem rd_setL {P : Hp → Prop} {j : Nat} (ha : H a = some (.lst xs)) (hj : ixN xs.length i = some j) (h : P (upd H a (.lst (xs.set j v)))) : rSetL (.ref a) (.int i) v H P := ⟨a, xs, i, j, rfl, rfl, ha, hj, h⟩
theorem rd_aug {ti : TIp} (h : σ[n]? = some (some v)) (q : te σ H fun y H1 => ti v y H1 fun z H2 => nx (σ.set n (some z)) H2) : tAug n te ti ⟨nx, rt, bk, ct⟩ σ H := ⟨v, h, q⟩
theorem rd_ipI {fn : Int → Int → Int} (h : Q (.int (fn i j)) H) : ipI fn (.int i) (.int j) H Q := ⟨i, j, rfl, rfl, h⟩
def rSFld (K : PySem.W.Frag) (f : Str) (y x : V) (H2 : Hp) (k : Hp → Prop) : Prop := ∃ a C dx fs, x = .ref a ∧ H2 a = some (.ins C dx fs) ∧ Cls K C ∧ NoAttr K C f ∧ fs.length < 1000 ∧ k (upd H2 a (.ins C dx (putF f y fs)))
theorem rd_sfld (h : tb σ H fun y H1 => ta σ H1 fun x H2 => rSFld K f y x H2 (nx σ)) : sFld K ta tb f ⟨nx, rt, bk, ct⟩ σ H := h
theorem rd_sfld_at {y : V} {k : Hp → Prop} (e : H a = some (.ins C dx fs)) (c : Cls K C) (nn : NoAttr K C f) (l : fs.length < 1000) (h : k (upd H a (.ins C dx (putF f y fs)))) : rSFld K f y (.ref a) H k := ⟨a, C, dx, fs, rfl, e, c, nn, l, h⟩
theorem rd_for {wi : TI} (h : wi σ H fun J H1 => ∃ W : Nat → Nat → St → Hp → Prop, (∃ m, W 0 m σ H1) ∧ ∀ i m σ H, W i m σ H →
  (J.stop i H ∧ D.nx σ H) ∨ (J.go i H ∧ ∃ N : St → Hp → Prop, (∀ σ' H', N σ' H' → ∃ m', m' < m ∧ W (i + 1) m' σ' H') ∧ ∀ x H', J.yld i H x H' → g x σ H' fun σ2 H2 => st { D with nx := N, ct := N, bk := D.nx } σ2 H2)) : tFor wi g st D σ H := h
theorem rd_iList {Rr : It → Hp → Prop} (h : te σ H fun x H1 => ∃ a, x = .ref a ∧ (∃ xs, SqL K H1 a xs) ∧ Rr (Itl K a) H1) : iList K te σ H Rr := h
theorem rd_iTup {Rr : It → Hp → Prop} (h : te σ H fun x H1 => ∃ a, x = .ref a ∧ (∃ xs, SqT K H1 a xs) ∧ Rr (Itt K a) H1) : iTup K te σ H Rr := h
theorem rd_iRng1 {Rr : It → Hp → Prop} (h : t σ H fun vs H1 => ∃ j : Int, vs = [.int j] ∧ -(2 ^ 62) ≤ j ∧ j < 2 ^ 62 ∧ Rr (Itr 0 j.toNat) H1) : iRng1 t σ H Rr := h
theorem rd_iRng2 {Rr : It → Hp → Prop} (h : t σ H fun vs H1 => ∃ i j : Int, vs = [.int i, .int j] ∧ (-(2 ^ 62) ≤ i ∧ i < 2 ^ 62 ∧ -(2 ^ 62) ≤ j ∧ j < 2 ^ 62) ∧ Rr (Itr i (j - i).toNat) H1) : iRng2 t σ H Rr := h
theorem rd_iEnumT {Rr : It → Hp → Prop} (h : t σ H fun vs H1 => ∃ a xs, vs = [.ref a] ∧ SqT K H1 a xs ∧ Rr (IteT K a) H1) : iEnumT K t σ H Rr := h
theorem rd_match {tc : TC} (h : te σ H fun x H1 => tc x D σ H1) : tMatch te tc D σ H := h
theorem rd_par {l k : Nat} (h : t σ H fun vs H1 => ∃ v w, vs = [v, w] ∧ nx ((σ.set l (some v)).set k (some w)) H1) : tPar l k t ⟨nx, rt, bk, ct⟩ σ H := h
theorem rd_two {v w : V} {RR : V → V → Prop} (h : RR v w) : ∃ v' w', [v, w] = [v', w'] ∧ RR v' w' := ⟨v, w, rfl, h⟩
theorem rd_lc {wi : TI} {ws : List Nat} (h : wi σ H fun J H1 => ∀ D, H1 D = none → ∃ W : Nat → Nat → Hp → Prop, (∃ m, W 0 m (upd H1 D (.lst []))) ∧ ∀ i m H, W i m H →
  (J.stop i H ∧ Q (.ref D) H) ∨ (J.go i H ∧ ∃ Nx : Hp → Prop, (∀ H', Nx H' → ∃ m', m' < m ∧ W (i + 1) m' H') ∧ ∀ x H', J.yld i H x H' → g x (wipe σ ws) H' fun σ2 H2 => wipe σ2 ws = wipe σ ws ∧ tt σ2 H2 fun b H3 =>
    if b = true then te σ2 H3 fun y H4 => ∃ acc, H4 D = some (.lst acc) ∧ acc.length < sizeLine ∧ Nx (upd H4 D (.lst (acc ++ [y]))) else Nx H3)) : tLc wi g tt te ws σ H Q := h
theorem rd_yes {Rb : Bool → Hp → Prop} (h : Rb true H) : tYes σ H Rb := h
theorem Same.new {H H' : Hp} {p : Addr} {o : HO} (s : Same H H') (h : H' p = none) : Same H (upd H' p o) := fun b u e => by rw [upd_ne (ne_of_none (s b u e) h)]; exact s b u e
theorem Same.mut {H H' : Hp} {p : Addr} {o : HO} (s : Same H H') (h : H p = none) : Same H (upd H' p o) := fun b u e => by rw [upd_ne (ne_of_none e h)]; exact s b u e
theorem lk_new {o u : HO} {p : Addr} (h : H p = none) (e : H a = some u) : upd H p o a = some u := by rw [upd_ne (ne_of_none e h)]; exact e
theorem lk_ne {o u : HO} {p : Addr} (h : a ≠ p) (e : H a = some u) : upd H p o a = some u := by rw [upd_ne h]; exact e
theorem Same.tup {H H' : Hp} {K : PySem.W.Frag} {a : Addr} {xs : List V} (e : Same H H') (h : SqT K H a xs) : SqT K H' a xs := by
  rcases h with (h | ⟨o, h⟩) | h
  · exact .inl (.inl (e _ _ h))
  · exact .inl (.inr ⟨o, e _ _ h⟩)
  · exact .inr h
end
end L2.Px
set_option Elab.async false
set_option linter.all false
set_option maxRecDepth 100000
set_option maxHeartbeats 1000000
namespace L2.Px
open PySem PySem.Spec PyProof.Rows StX ClX
/-- the property f of the class at C -/
def DefP (K : PySem.W.Frag) (C : Addr) (f qual : Str) (st : Stmt) : Prop := ∃ p g fd, Fun K f qual st g fd ∧ PropOf K C f p g ∧ Binds K fd ["self"] []
def POk (P : Program) (w : World) (K : PySem.W.Frag) (mg : Str → Option Value) (base : Heap) (CX : CXT) (k : Nat) (C : Addr) (f : Str) (sp : Sp) : Prop :=
  ∃ p g fd, FnOk P w K mg base CX k g fd ["self"] sp ∧ PropOf K C f p g ∧ Binds K fd ["self"] []
/-- the classmethod m of the class at C -/
def DefC (K : PySem.W.Frag) (C : Addr) (m qual : Str) (st : Stmt) (ps : List Str) : Prop := ∃ mc p g fd, Fun K m qual st g fd ∧ CRead K C mc ∧ CMet K C mc m p g ∧ Binds K fd ps []
def COk (P : Program) (w : World) (K : PySem.W.Frag) (mg : Str → Option Value) (base : Heap) (CX : CXT) (k : Nat) (C : Addr) (m : Str) (sp : Sp) : Prop :=
  ∃ mc p g, FnR P w K mg base CX k g sp ∧ CRead K C mc ∧ CMet K C mc m p g
/-- __init__ of the class at C, all its parameters plain -/
def DefK (K : PySem.W.Frag) (C : Addr) (qual : Str) (st : Stmt) (ps : List Str) : Prop := ∃ f fd, Fun K "__init__" qual st f fd ∧ Mk K C f ∧ Binds K fd ps []
/-- __init__(self, *v) of the class at C -/
def DefKS (K : PySem.W.Frag) (C : Addr) (qual : Str) (st : Stmt) (ps : List Str) (pv : Str) : Prop := ∃ f fd, Fun K "__init__" qual st f fd ∧ Mk K C f ∧
  ∀ us rest : List Value, us.length = ps.length → bindArgs fd ⟨us ++ rest, []⟩ = (newTuple rest >>= fun t => pure (ps.zip us ++ [(pv, t)]))
/-- a def f(.., *v) -/
def DefGS (K : PySem.W.Frag) (mg : Str → Option Value) (x : Str) (st : Stmt) (ps : List Str) (pv : Str) : Prop := ∃ f fd, Fun K x x st f fd ∧ mg x = some (.ref f) ∧
  ∀ us rest : List Value, us.length = ps.length → bindArgs fd ⟨us ++ rest, []⟩ = (newTuple rest >>= fun t => pure (ps.zip us ++ [(pv, t)]))
/-- a def whose last parameters have defaults -/
def DefGD (K : PySem.W.Frag) (mg : Str → Option Value) (x : Str) (st : Stmt) (ps : List Str) (dvs : List V) : Prop := ∃ f fd ds, Fun K x x st f fd ∧ mg x = some (.ref f) ∧ Binds K fd ps ds ∧ Vals dvs ds
section
variable {P : Program} {w : World} {K : PySem.W.Frag} {mg : Str → Option Value} {base : Heap} {CX : CXT} {k : Nat} {f C : Addr} {fd : FuncData} {ps : List Str} {sp : Sp} {x m qual : Str} {st : Stmt}
theorem DefP.ok {N : List Str} (D : DefP K C m qual st) (S : FnScope N ["self"] (defScope st)) (len : ∀ vs H Q E, sp vs H Q E → vs.length = 1)
    (hbody : ∀ (f : Addr) (cdv : Value) (A : Around) (outer : List Env) (s : Shared) (H : Hp) (vs : List V) (Q : VK) (E : XK), Room k (A.deeper (envOfC qual (defScope st) s.heap.objs.size f cdv)) → sp vs H Q E →
      ∃ t, PSs (cxOf CX0 P w K mg base N qual (defScope st) f cdv A outer s H E).nox (defBody st) t ∧ t { nx := fun _ H' => Q .non H', rt := Q } (start N vs) H) : POk P w K mg base CX0 (k + 1) C m sp := by
  obtain ⟨p, g, fd, F, hp, b⟩ := D
  exact ⟨p, g, fd, F.ok S len fun cdv A outer s H vs Q E hr h => hbody g cdv A outer s H vs Q E hr h, hp, b⟩
theorem DefC.ok {N : List Str} (D : DefC K C m qual st ps) (S : FnScope N ps (defScope st)) (len : ∀ vs H Q E, sp vs H Q E → vs.length = ps.length)
    (hbody : ∀ (f : Addr) (cdv : Value) (A : Around) (outer : List Env) (s : Shared) (H : Hp) (vs : List V) (Q : VK) (E : XK), Room k (A.deeper (envOfC qual (defScope st) s.heap.objs.size f cdv)) → sp vs H Q E →
      ∃ t, PSs (cxOf CX0 P w K mg base N qual (defScope st) f cdv A outer s H E).nox (defBody st) t ∧ t { nx := fun _ H' => Q .non H', rt := Q } (start N vs) H) : COk P w K mg base CX0 (k + 1) C m sp := by
  obtain ⟨mc, p, g, fd, F, r, c, b⟩ := D
  exact ⟨mc, p, g, FnOk.toR (F.ok S len fun cdv A outer s H vs Q E hr h => hbody g cdv A outer s H vs Q E hr h) b, r, c⟩
theorem DefK.ok {N : List Str} (D : DefK K C qual st ps) (S : FnScope N ps (defScope st)) (len : ∀ vs H Q E, sp vs H Q E → vs.length = ps.length)
    (hbody : ∀ (f : Addr) (cdv : Value) (A : Around) (outer : List Env) (s : Shared) (H : Hp) (vs : List V) (Q : VK) (E : XK), Room k (A.deeper (envOfC qual (defScope st) s.heap.objs.size f cdv)) → sp vs H Q E →
      ∃ t, PSs (cxOf CX0 P w K mg base N qual (defScope st) f cdv A outer s H E).nox (defBody st) t ∧ t { nx := fun _ H' => Q .non H', rt := Q } (start N vs) H) : KOk P w K mg base CX0 (k + 1) C sp := by
  obtain ⟨f, fd, F, M, b⟩ := D
  exact ⟨f, FnOk.toR (F.ok S len fun cdv A outer s H vs Q E hr h => hbody f cdv A outer s H vs Q E hr h) b, M⟩
/-- the star promise around the body's own -/
def spStar (n : Nat) (sp : Sp) : Sp := fun vs H Q E => ∃ ws rest, vs = ws ++ rest ∧ ws.length = n ∧ rest.length ≤ sizeLine ∧ ∀ p, H p = Option.none → sp (ws ++ [V.ref p]) (upd H p (.tup rest)) Q E
theorem DefKS.ok {N : List Str} {pv : Str} (D : DefKS K C qual st ps pv) (S : FnScope N (ps ++ [pv]) (defScope st))
    (hbody : ∀ (f : Addr) (cdv : Value) (A : Around) (outer : List Env) (s : Shared) (H : Hp) (vs : List V) (Q : VK) (E : XK), Room k (A.deeper (envOfC qual (defScope st) s.heap.objs.size f cdv)) → sp vs H Q E →
      ∃ t, PSs (cxOf CX0 P w K mg base N qual (defScope st) f cdv A outer s H E).nox (defBody st) t ∧ t { nx := fun _ H' => Q .non H', rt := Q } (start N vs) H) : KOk P w K mg base CX0 (k + 1) C (spStar ps.length sp) := by
  obtain ⟨f, fd, F, M, hb⟩ := D
  obtain ⟨oc, od, kV, doc, pm, an, cdv, ct, osl, rfl, lk, hcd⟩ := F.ex
  refine ⟨f, fn_star (sp := sp) lk hcd S cxUp_none hb fun A outer s H vs Q E hr h => ?_, M⟩
  obtain ⟨t, ht, q⟩ := hbody f cdv A outer s H vs Q E hr h
  exact ⟨t, ht.nox, q⟩
theorem DefGS.ok {N : List Str} {pv : Str} (D : DefGS K mg x st ps pv) (S : FnScope N (ps ++ [pv]) (defScope st))
    (hbody : ∀ (f : Addr) (cdv : Value) (A : Around) (outer : List Env) (s : Shared) (H : Hp) (vs : List V) (Q : VK) (E : XK), Room k (A.deeper (envOfC x (defScope st) s.heap.objs.size f cdv)) → sp vs H Q E →
      ∃ t, PSs (cxOf CX0 P w K mg base N x (defScope st) f cdv A outer s H E).nox (defBody st) t ∧ t { nx := fun _ H' => Q .non H', rt := Q } (start N vs) H) : GOk P w K mg base CX0 (k + 1) x (spStar ps.length sp) := by
  obtain ⟨f, fd, F, a, hb⟩ := D
  obtain ⟨oc, od, kV, doc, pm, an, cdv, ct, osl, rfl, lk, hcd⟩ := F.ex
  refine ⟨f, fn_star (sp := sp) lk hcd S cxUp_none hb fun A outer s H vs Q E hr h => ?_, a, F.kp⟩
  obtain ⟨t, ht, q⟩ := hbody f cdv A outer s H vs Q E hr h
  exact ⟨t, ht.nox, q⟩
theorem DefGD.ok {N : List Str} {dvs : List V} (D : DefGD K mg x st ps dvs) (S : FnScope N ps (defScope st)) (len : ∀ vs H Q E, sp vs H Q E → vs.length = ps.length)
    (hbody : ∀ (f : Addr) (cdv : Value) (A : Around) (outer : List Env) (s : Shared) (H : Hp) (vs : List V) (Q : VK) (E : XK), Room k (A.deeper (envOfC x (defScope st) s.heap.objs.size f cdv)) → sp vs H Q E →
      ∃ t, PSs (cxOf CX0 P w K mg base N x (defScope st) f cdv A outer s H E).nox (defBody st) t ∧ t { nx := fun _ H' => Q .non H', rt := Q } (start N vs) H) : GOk P w K mg base CX0 (k + 1) x (fun vs => sp (vs ++ dvs)) := by
  obtain ⟨f, fd, ds, F, a, b, hd⟩ := D
  exact ⟨f, FnOk.toR1 (F.ok S len fun cdv A outer s H vs Q E hr h => hbody f cdv A outer s H vs Q E hr h) b hd, a, F.kp⟩
end
section
variable {X : Cx} {CX : CXT} {k : Nat} {C : Addr} {sp : Sp} {E : XK} {f m : Str} {e o : Expr} {es : List Expr} {te ta : TE} {t : TA} {p pos apos : Pos}
theorem pe_p (he : PE X e ta) (c : Cls X.K C) (G : POk X.prog X.w X.K X.mg X.base CX k C f sp) (hr : Room (k + 1) X.A) (hx : Passes CX X.nox E) (hab : attributeBase e f X.env (eval e X.env) = eval e X.env := by rfl) : PE X (.Attribute e f pos) (tProp C sp [] E ta) :=
  let ⟨_, _, _, F, hp, b⟩ := G
  pe_prop he c hp F hr b .nil hx hab
theorem pe_c {pl : Sem Bool} (he : PE X o ta) (G : COk X.prog X.w X.K X.mg X.base CX k C m sp) (hr : Room k X.A) (hx : Passes CX X E) (ha : PA X (e :: es) t)
    (hst : starEach (e :: es) X.env = (false, eval e X.env) :: starEach es X.env := by rfl) (hpl : (backTo pos (starEach es X.env)).any (·.1) = false := by rfl)
    (ht : eval (.Call (.Attribute o m apos) (e :: es) [] pos) X.env = (do
      let ov ← eval o X.env
      standAt apos.atName
      let (f, first) ← holding [ov] (getMethod ov m pl)
      callWith pos f first (backTo pos (starEach (e :: es) X.env)) (backToKw pos (keywordEach [] X.env))) := by rfl) :
    PE X (.Call (.Attribute o m apos) (e :: es) [] pos) (tCMeth C sp E ta t) :=
  let ⟨_, _, _, F, r, c⟩ := G
  pe_cmeth (pl := pl) he r c F hr hx ha hst hpl ht
theorem rd_prop {σ : St} {H : Hp} {Q : VK} (h : ta σ H fun x H1 => ∃ a dx fs, x = .ref a ∧ H1 a = some (.ins C dx fs) ∧ sp [.ref a] H1 Q E) : tProp C sp [] E ta σ H Q := h
theorem rd_prop_at {a : Addr} {H : Hp} {Q : VK} (i : InsA H a C) (h : sp [.ref a] H Q E) : ∃ a' dx fs, V.ref a = .ref a' ∧ H a' = some (.ins C dx fs) ∧ sp [.ref a'] H Q E := let ⟨dx, fs, e⟩ := i; ⟨a, dx, fs, rfl, e, h⟩
theorem rd_cmeth {σ : St} {H : Hp} {Q : VK} (h : ta σ H fun x H1 => x = .ref C ∧ t σ H1 fun vs H2 => sp (.ref C :: vs) H2 Q E) : tCMeth C sp E ta t σ H Q := h
/-- calling an instance -/
def OOk (P : Program) (w : World) (K : PySem.W.Frag) (mg : Str → Option Value) (base : Heap) (CX : CXT) (k : Nat) (C : Addr) (sp : Sp) : Prop := ∃ g, FnR P w K mg base CX k g sp ∧ CallO K C g
def tO (C : Addr) (sp : Sp) (E : XK) (tf : TE) (t : TA) : TE := fun σ H Q => tf σ H fun y H1 => ∃ a, y = V.ref a ∧ t σ H1 fun vs H2 => InsA H2 a C ∧ sp (V.ref a :: vs) H2 Q E
theorem rd_o {σ : St} {H : Hp} {Q : VK} (h : ta σ H fun y H1 => ∃ a, y = V.ref a ∧ t σ H1 fun vs H2 => InsA H2 a C ∧ sp (V.ref a :: vs) H2 Q E) : tO C sp E ta t σ H Q := h
end
end L2.Px
namespace L2.Px
open PySem PySem.Spec PyProof.Rows StX ClX
def DefX (K : PySem.W.Frag) (R : Addr → Prop) (m qual : Str) (st : Stmt) (ps : List Str) : Prop := ∃ f fd, Fun K m qual st f fd ∧ R f ∧ Binds K fd ps []
def XOk (P : Program) (w : World) (K : PySem.W.Frag) (mg : Str → Option Value) (base : Heap) (CX : CXT) (k : Nat) (R : Addr → Prop) (sp : Sp) : Prop := ∃ f, FnR P w K mg base CX k f sp ∧ R f
section
variable {P : Program} {w : World} {K : PySem.W.Frag} {mg : Str → Option Value} {base : Heap} {CX : CXT} {k : Nat} {f C : Addr} {fd : FuncData} {ps : List Str} {sp : Sp} {x m qual : Str} {st : Stmt} {R : Addr → Prop}
theorem DefX.ok {N : List Str} (D : DefX K R m qual st ps) (S : FnScope N ps (defScope st)) (len : ∀ vs H Q E, sp vs H Q E → vs.length = ps.length)
    (hbody : ∀ (f : Addr) (cdv : Value) (A : Around) (outer : List Env) (s : Shared) (H : Hp) (vs : List V) (Q : VK) (E : XK), Room k (A.deeper (envOfC qual (defScope st) s.heap.objs.size f cdv)) → sp vs H Q E →
      ∃ t, PSs (cxOf CX0 P w K mg base N qual (defScope st) f cdv A outer s H E).nox (defBody st) t ∧ t { nx := fun _ H' => Q .non H', rt := Q } (start N vs) H) : XOk P w K mg base CX0 (k + 1) R sp := by
  obtain ⟨f, fd, F, r, b⟩ := D
  exact ⟨f, FnOk.toR (F.ok S len fun cdv A outer s H vs Q E hr h => hbody f cdv A outer s H vs Q E hr h) b, r⟩
end
section
variable {X : Cx} {CX : CXT} {k : Nat} {C : Addr} {sp : Sp} {E : XK} {a b : Expr} {ta tb : TE} {pos : Pos}
theorem oOwn {op : Operator} (G : XOk X.prog X.w X.K X.mg X.base CX k (BOwn X.K C (PySem.dunder op.info.2)) sp) (hr : Room k X.A) (hx : Passes CX X E) : OpR X (binaryOp op) (rOwn C sp E) :=
  let ⟨_, F, r⟩ := G
  op_own r F hr hx
theorem oOwnI {op : Operator} (G : XOk X.prog X.w X.K X.mg X.base CX k (BOwnI X.K C op) sp) (hr : Room k X.A) (hx : Passes CX X E) : OpR X (binaryOp op) (rOwnI C sp E) :=
  let ⟨_, F, r⟩ := G
  op_ownI r F hr hx
theorem rd_own {p q : Addr} {H : Hp} {Q : VK} (i : InsA H p C) (j : InsA H q C) (h : sp [.ref p, .ref q] H Q E) : rOwn C sp E (.ref p) (.ref q) H Q := ⟨p, q, rfl, rfl, i, j, h⟩
theorem rd_ownI {p : Addr} {z : Int} {H : Hp} {Q : VK} (i : InsA H p C) (h : sp [.ref p, .int z] H Q E) : rOwnI C sp E (.ref p) (.int z) H Q := ⟨p, z, rfl, rfl, i, h⟩
end
end L2.Px
set_option Elab.async false
set_option linter.all false
namespace L2.Px
open PySem L2 TL
inductive Stp where
  | wr (w : Str)
  | pa (f l t : Nat)
deriving DecidableEq
def len1 : Stp → Nat
  | .wr w => w.length
  | .pa f l t => (l - f + 1) * t
def sz : List Stp → Nat
  | [] => 0
  | s :: r => len1 s + sz r
def ty1 : Stp → List Nat
  | .wr w => tl w
  | .pa _ _ _ => []
def tyL : List Stp → List Nat
  | [] => []
  | s :: r => ty1 s ++ tyL r
def okStep (n : Nat) : Stp → Prop
  | .wr w => 1 ≤ w.length ∧ w.length ≤ 20 ∧ ∀ c ∈ tl w, 97 ≤ c ∧ c ≤ 122
  | .pa f l t => f ≤ l ∧ l < n ∧ 1 ≤ t ∧ t ≤ 1000000000
def okFrom : Nat → List Stp → Prop
  | _, [] => True
  | n, s :: r => okStep n s ∧ n + len1 s ≤ 1000000000000000000 ∧ okFrom (n + len1 s) r
def stepK (q : List Nat × Nat) : Stp → List Nat × Nat
  | .wr w => (q.1 ++ List.range' q.2 w.length, q.2 + w.length)
  | .pa f l t => (q.1 ++ (List.replicate t ((q.1.drop f).take (l - f + 1))).flatten, q.2)
def run (ss : List Stp) : List Nat × Nat := ss.foldl stepK ([], 0)
/-- the keys of all places -/
def ks (ss : List Stp) : List Nat := (run ss).1
theorem sz_append : ∀ (a b : List Stp), sz (a ++ b) = sz a + sz b
  | [], b => by simp [sz]
  | s :: a, b => by simp only [List.cons_append, sz]; rw [sz_append a b]; omega
theorem tyL_append : ∀ (a b : List Stp), tyL (a ++ b) = tyL a ++ tyL b
  | [], b => by simp [tyL]
  | s :: a, b => by simp only [List.cons_append, tyL]; rw [tyL_append a b, List.append_assoc]
theorem okFrom_append : ∀ (n : Nat) (a b : List Stp), okFrom n (a ++ b) ↔ okFrom n a ∧ okFrom (n + sz a) b
  | n, [], b => by simp [okFrom, sz]
  | n, s :: a, b => by
    simp only [List.cons_append, okFrom, sz]
    rw [okFrom_append (n + len1 s) a b, show n + (len1 s + sz a) = n + len1 s + sz a by omega]
    constructor
    · rintro ⟨h1, h2, h3, h4⟩; exact ⟨⟨h1, h2, h3⟩, h4⟩
    · rintro ⟨⟨h1, h2, h3⟩, h4⟩; exact ⟨h1, h2, h3, h4⟩
theorem run_append (a b : List Stp) : run (a ++ b) = b.foldl stepK (run a) := List.foldl_append
theorem take_snoc {α : Type} {l : List α} {j : Nat} {s : α} (h : l[j]? = some s) : l.take (j + 1) = l.take j ++ [s] := by
  rw [List.take_add_one, h]; rfl
theorem sz_take {ss : List Stp} {j : Nat} {s : Stp} (h : ss[j]? = some s) : sz (ss.take (j + 1)) = sz (ss.take j) + len1 s := by
  rw [take_snoc h, sz_append]; simp [sz]
theorem run_take {ss : List Stp} {j : Nat} {s : Stp} (h : ss[j]? = some s) : run (ss.take (j + 1)) = stepK (run (ss.take j)) s := by
  rw [take_snoc h, run_append]; rfl
theorem tyL_take {ss : List Stp} {j : Nat} {s : Stp} (h : ss[j]? = some s) : tyL (ss.take (j + 1)) = tyL (ss.take j) ++ ty1 s := by
  rw [take_snoc h, tyL_append]; simp [tyL]
theorem ok_at {ss : List Stp} {j : Nat} {s : Stp} (ok : okFrom 0 ss) (h : ss[j]? = some s) : okStep (sz (ss.take j)) s ∧ sz (ss.take j) + len1 s ≤ 1000000000000000000 := by
  have e : ss = ss.take j ++ (s :: ss.drop (j + 1)) := by
    have hj : j < ss.length := (List.getElem?_eq_some_iff.mp h).1
    have hs : ss[j] = s := (List.getElem?_eq_some_iff.mp h).2
    rw [← hs, ← List.drop_eq_getElem_cons hj, List.take_append_drop]
  rw [e, okFrom_append] at ok
  obtain ⟨_, h1, h2, _⟩ := ok
  simp only [Nat.zero_add] at h1 h2
  exact ⟨h1, h2⟩
theorem ok_take {ss : List Stp} (ok : okFrom 0 ss) (j : Nat) : okFrom 0 (ss.take j) := by
  rw [← List.take_append_drop j ss, okFrom_append] at ok
  exact ok.1
theorem sz_le {ss : List Stp} (ok : okFrom 0 ss) : sz ss ≤ 1000000000000000000 := by
  rcases Nat.eq_zero_or_pos ss.length with h | h
  · rw [List.length_eq_zero_iff.mp h]; simp [sz]
  · have hj : ss[ss.length - 1]? = some (ss[ss.length - 1]'(by omega)) := by rw [List.getElem?_eq_getElem]
    have := (ok_at ok hj).2
    rw [← sz_take hj, show ss.length - 1 + 1 = ss.length by omega, List.take_length] at this
    exact this
theorem run_snd_from : ∀ (ss : List Stp) (q : List Nat × Nat), (ss.foldl stepK q).2 = q.2 + (tyL ss).length
  | [], q => by simp [tyL]
  | .wr w :: r, q => by
    simp only [List.foldl_cons, tyL, List.length_append, ty1]
    rw [run_snd_from r]; simp only [stepK]; rw [len_tl w]; omega
  | .pa f l t :: r, q => by
    simp only [List.foldl_cons, tyL, List.length_append, ty1]
    rw [run_snd_from r]; simp [stepK]
theorem run_snd (ss : List Stp) : (run ss).2 = (tyL ss).length := by
  unfold run; rw [run_snd_from]; simp
theorem length_flat_rep {α : Type} (t : Nat) (l : List α) : (List.replicate t l).flatten.length = t * l.length := by
  induction t with
  | zero => simp
  | succ t ih => rw [List.replicate_succ, List.flatten_cons, List.length_append, ih, Nat.succ_mul]; omega
theorem stepK_len {q : List Nat × Nat} {s : Stp} (h : okStep q.1.length s) : (stepK q s).1.length = q.1.length + len1 s := by
  cases s with
  | wr w => simp [stepK, len1]
  | pa f l t =>
    obtain ⟨h1, h2, _, _⟩ := h
    simp only [stepK, len1, List.length_append, length_flat_rep, List.length_take, List.length_drop]
    rw [Nat.min_eq_left (by omega), Nat.mul_comm]
theorem ks_len_from : ∀ (ss : List Stp) (q : List Nat × Nat), okFrom q.1.length ss → (ss.foldl stepK q).1.length = q.1.length + sz ss
  | [], q, _ => by simp [sz]
  | s :: r, q, ok => by
    obtain ⟨h1, h2, h3⟩ := ok
    have e := stepK_len h1
    rw [List.foldl_cons, ks_len_from r _ (by rw [e]; exact h3), e]
    simp only [sz]; omega
theorem ks_len {ss : List Stp} (ok : okFrom 0 ss) : (ks ss).length = sz ss := by
  have := ks_len_from ss ([], 0) ok
  simpa [ks, run] using this
/-- the keys of the first steps' places stand ahead -/
theorem stepK_pre (q : List Nat × Nat) (s : Stp) : ∃ m, (stepK q s).1 = q.1 ++ m := by
  cases s <;> exact ⟨_, rfl⟩
theorem run_pre : ∀ (ss : List Stp) (q : List Nat × Nat), ∃ m, (ss.foldl stepK q).1 = q.1 ++ m
  | [], q => ⟨[], by simp⟩
  | s :: r, q => by
    obtain ⟨m, e⟩ := stepK_pre q s
    obtain ⟨m', e'⟩ := run_pre r (stepK q s)
    exact ⟨m ++ m', by rw [List.foldl_cons, e', e, List.append_assoc]⟩
theorem ks_pre (a b : List Stp) : ∃ m, ks (a ++ b) = ks a ++ m := by
  unfold ks
  rw [run_append]
  exact run_pre b (run a)
/-- all keys are keys -/
theorem stepK_lt {q : List Nat × Nat} {s : Stp} (h : ∀ k ∈ q.1, k < q.2) : ∀ k ∈ (stepK q s).1, k < (stepK q s).2 := by
  cases s with
  | wr w =>
    intro k hk
    simp only [stepK, List.mem_append, List.mem_range'_1] at hk ⊢
    rcases hk with hk | hk
    · have := h k hk; omega
    · omega
  | pa f l t =>
    intro k hk
    simp only [stepK, List.mem_append, List.mem_flatten, List.mem_replicate] at hk ⊢
    rcases hk with hk | ⟨l', ⟨_, rfl⟩, hk⟩
    · exact h k hk
    · exact h k (List.mem_of_mem_drop (List.mem_of_mem_take hk))
theorem run_lt : ∀ (ss : List Stp) (q : List Nat × Nat), (∀ k ∈ q.1, k < q.2) → ∀ k ∈ (ss.foldl stepK q).1, k < (ss.foldl stepK q).2
  | [], q, h => h
  | s :: r, q, h => run_lt r _ (stepK_lt h)
theorem ks_lt {ss : List Stp} {k : Nat} (h : k ∈ ks ss) : k < (tyL ss).length := by
  have := run_lt ss ([], 0) (by simp) k h
  rw [← run_snd]; exact this
end L2.Px
set_option Elab.async false
set_option linter.all false
set_option maxRecDepth 100000
set_option maxHeartbeats 1000000
namespace L2.Px
open PySem PySem.Spec PyProof.Rows StX TL
def isInt (lo hi : Int) : V → Bool
  | .int i => decide (lo ≤ i ∧ i ≤ hi)
  | _ => false
def isLet : V → Bool
  | .str x => match tl x with
    | [c] => decide (97 ≤ c ∧ c ≤ 122)
    | _ => false
  | _ => false
def isWd : V → Bool
  | .str x => decide (1 ≤ (tl x).length ∧ (tl x).length ≤ 20 ∧ ∀ c ∈ tl x, 97 ≤ c ∧ c ≤ 122)
  | _ => false
def intOf : V → Int
  | .int i => i
  | _ => 0
def isSt (n : Int) : List V → Bool
  | [.str z, v] => decide (z = "write") && isWd v
  | [.str z, f, l, t] => decide (z = "paste") && (isInt 0 (n - 1) l && isInt 0 (intOf l) f && isInt 1 1000000000 t)
  | _ => false
def sp_is_integer : Sp := fun vs H Q _ => ∃ v lo hi, vs = [v, .int lo, .int hi] ∧ NoSeq v ∧ Q (.bl (isInt lo hi v)) H
def sp_is_letter : Sp := fun vs H Q _ => ∃ v, vs = [v] ∧ NoSeq v ∧ (∀ x, v = .str x → x.length ≤ sizeLine) ∧ Q (.bl (isLet v)) H
def sp_is_word : Sp := fun vs H Q _ => ∃ v, vs = [v] ∧ NoSeq v ∧ (∀ x, v = .str x → x.length ≤ sizeLine) ∧ ∀ H', Same H H' → Q (.bl (isWd v)) H'
def mkS (l : List Nat) : Str := ⟨l.toArray⟩
theorem tl_mkS (l : List Nat) : tl (mkS l) = l := rfl
theorem mkS_tl (x : Str) : mkS (tl x) = x := mk_tl x
theorem mkS_len (l : List Nat) : (mkS l).length = l.length := by rw [len_tl, tl_mkS]
theorem mkS_app (a b : List Nat) : mkS a ++ mkS b = mkS (a ++ b) := ext_tl (by rw [tl_append, tl_mkS, tl_mkS, tl_mkS])
def partF (s n : Int) (t : Bool) (f l : Int) : List (Str × V) := putF "last" (.int l) (putF "first" (.int f) (putF "is_typed" (.bl t) (putF "length" (.int n) (putF "start" (.int s) []))))
def textF (m : Addr) (y : Str) (p : Addr) (n : Int) : List (Str × V) := putF "total" (.int n) (putF "parts" (.ref p) (putF "typed" (.str y) (putF "made" (.ref m) [])))
section
variable {s n f l : Int} {t : Bool} {m p : Addr} {y x : Str}
theorem partF_start : (partF s n t f l).lookup ("start" : Str) = some (.int s) := by
  unfold partF; rw [lookup_putF, if_neg (by decide +kernel), lookup_putF, if_neg (by decide +kernel), lookup_putF, if_neg (by decide +kernel), lookup_putF, if_neg (by decide +kernel), lookup_putF, if_pos rfl]
theorem partF_length : (partF s n t f l).lookup ("length" : Str) = some (.int n) := by
  unfold partF; rw [lookup_putF, if_neg (by decide +kernel), lookup_putF, if_neg (by decide +kernel), lookup_putF, if_neg (by decide +kernel), lookup_putF, if_pos rfl]
theorem partF_typed : (partF s n t f l).lookup ("is_typed" : Str) = some (.bl t) := by
  unfold partF; rw [lookup_putF, if_neg (by decide +kernel), lookup_putF, if_neg (by decide +kernel), lookup_putF, if_pos rfl]
theorem partF_first : (partF s n t f l).lookup ("first" : Str) = some (.int f) := by
  unfold partF; rw [lookup_putF, if_neg (by decide +kernel), lookup_putF, if_pos rfl]
theorem partF_last : (partF s n t f l).lookup ("last" : Str) = some (.int l) := by
  unfold partF; rw [lookup_putF, if_pos rfl]
theorem textF_made : (textF m y p n).lookup ("made" : Str) = some (.ref m) := by
  unfold textF; rw [lookup_putF, if_neg (by decide +kernel), lookup_putF, if_neg (by decide +kernel), lookup_putF, if_neg (by decide +kernel), lookup_putF, if_pos rfl]
theorem textF_typed : (textF m y p n).lookup ("typed" : Str) = some (.str y) := by
  unfold textF; rw [lookup_putF, if_neg (by decide +kernel), lookup_putF, if_neg (by decide +kernel), lookup_putF, if_pos rfl]
theorem textF_parts : (textF m y p n).lookup ("parts" : Str) = some (.ref p) := by
  unfold textF; rw [lookup_putF, if_neg (by decide +kernel), lookup_putF, if_pos rfl]
theorem textF_total : (textF m y p n).lookup ("total" : Str) = some (.int n) := by
  unfold textF; rw [lookup_putF, if_pos rfl]
theorem textF_no (h : x ≠ "total" ∧ x ≠ "parts" ∧ x ≠ "typed" ∧ x ≠ "made") : (textF m y p n).lookup x = none := by
  unfold textF; rw [lookup_putF, if_neg h.1, lookup_putF, if_neg h.2.1, lookup_putF, if_neg h.2.2.1, lookup_putF, if_neg h.2.2.2]; rfl
theorem putF_len {fs : List (Str × V)} {k : Nat} {f : Str} {v : V} (h : fs.length ≤ k) : (putF f v fs).length ≤ k + 1 := Nat.le_trans (length_putF f v fs) (Nat.succ_le_succ h)
end
/-- a written step as a tuple's items -/
def stV : Stp → List V
  | .wr w => [.str "write", .str w]
  | .pa f l t => [.str "paste", .int f, .int l, .int t]
def StepAt (K : PySem.W.Frag) (H : Hp) (v : V) (s : Stp) : Prop := ∃ a, v = .ref a ∧ SqT K H a (stV s)
def StepsAt (K : PySem.W.Frag) (H : Hp) (ms : List V) (ss : List Stp) : Prop := ms.length = ss.length ∧ ∀ (j : Nat) s, ss[j]? = some s → ∃ v, ms[j]? = some v ∧ StepAt K H v s
/-- the part of step j -/
def PartAt (CP : Addr) (H : Hp) (v : V) (n y : Nat) : Stp → Prop
  | .wr w => ∃ p dx, v = .ref p ∧ H p = some (.ins CP dx (partF n w.length true y 0))
  | .pa f l t => ∃ p dx, v = .ref p ∧ H p = some (.ins CP dx (partF n (((l - f + 1) * t : Nat)) false f l))
def PartsAt (CP : Addr) (H : Hp) (ps : List V) (ss : List Stp) : Prop := ps.length = ss.length ∧ ∀ (j : Nat) s, ss[j]? = some s → ∃ v, ps[j]? = some v ∧ PartAt CP H v (sz (ss.take j)) (tyL (ss.take j)).length s
structure TxI where
  ss : List Stp
  dx : Addr
  m : Addr
  pl : Addr
  ms : List V
  ps : List V
structure TextAt (K : PySem.W.Frag) (CT CP : Addr) (H : Hp) (a : Addr) (t : TxI) : Prop where
  ins : H a = some (.ins CT t.dx (textF t.m (mkS (tyL t.ss)) t.pl (sz t.ss)))
  made : SqT K H t.m t.ms
  stp : StepsAt K H t.ms t.ss
  pls : H t.pl = some (.lst t.ps)
  prt : PartsAt CP H t.ps t.ss
  ok : okFrom 0 t.ss
  few : t.ss.length ≤ 30
section
variable {K : PySem.W.Frag} {CT CP : Addr} {H H' : Hp} {a : Addr} {t : TxI} {v : V} {s : Stp} {ms ps : List V} {ss : List Stp} {n y : Nat}
theorem StepAt.mono (e : Same H H') (h : StepAt K H v s) : StepAt K H' v s := let ⟨a, ev, q⟩ := h; ⟨a, ev, Same.tup e q⟩
theorem StepsAt.mono (e : Same H H') (h : StepsAt K H ms ss) : StepsAt K H' ms ss := ⟨h.1, fun j s q => let ⟨v, a, b⟩ := h.2 j s q; ⟨v, a, b.mono e⟩⟩
theorem PartAt.mono (e : Same H H') (h : PartAt CP H v n y s) : PartAt CP H' v n y s := by
  cases s with
  | wr w => obtain ⟨p, dx, ev, q⟩ := h; exact ⟨p, dx, ev, e _ _ q⟩
  | pa f l t => obtain ⟨p, dx, ev, q⟩ := h; exact ⟨p, dx, ev, e _ _ q⟩
theorem PartsAt.mono (e : Same H H') (h : PartsAt CP H ps ss) : PartsAt CP H' ps ss := ⟨h.1, fun j s q => let ⟨v, a, b⟩ := h.2 j s q; ⟨v, a, b.mono e⟩⟩
theorem TextAt.mono (h : TextAt K CT CP H a t) (e : Same H H') : TextAt K CT CP H' a t := ⟨e _ _ h.ins, Same.tup e h.made, h.stp.mono e, e _ _ h.pls, h.prt.mono e, h.ok, h.few⟩
theorem TextAt.insA (h : TextAt K CT CP H a t) : InsA H a CT := ⟨_, _, h.ins⟩
theorem TextAt.insM {m : Str} (h : TextAt K CT CP H a t) (hm : m ≠ "total" ∧ m ≠ "parts" ∧ m ≠ "typed" ∧ m ≠ "made" := by decide +kernel) : InsM H a CT m := ⟨_, _, h.ins, textF_no hm⟩
theorem stV_noseq (s : Stp) : ∀ v ∈ stV s, NoSeq v := by
  cases s <;> (intro v hv; simp only [stV, List.mem_cons, List.not_mem_nil, or_false] at hv; rcases hv with rfl | hv) <;> first | trivial | (rcases hv with rfl | hv <;> first | trivial | (rcases hv with rfl | rfl <;> trivial)) | (subst hv; trivial)
end
section
variable (K : PySem.W.Frag) (CT CP : Addr)
def sp_Part_init : Sp := fun vs H Q _ => ∃ x dx s n t f l, vs = [.ref x, .int s, .int n, .bl t, .int f, .int l] ∧ H x = some (.ins CP dx []) ∧ Q .non (upd H x (.ins CP dx (partF s n t f l)))
/-- Text(*steps) of valid steps: all that stood stands, x is the text -/
def sp_Text_init : Sp := fun vs H Q _ => ∃ x dx m rs ss, vs = [.ref x, .ref m] ∧ H x = some (.ins CT dx []) ∧ SqT K H m rs ∧ StepsAt K H rs ss ∧ okFrom 0 ss ∧ ss.length ≤ 30 ∧
  ∀ H' t, (∀ b o, b ≠ x → H b = some o → H' b = some o) → TextAt K CT CP H' x t → t.ss = ss → t.dx = dx → Q .non H'
end
end L2.Px
namespace L2.Px
open PySem PySem.Spec PyProof.Rows StX TL
section
variable {K : PySem.W.Frag} {H : Hp} {Q : VK} {T : String}
theorem rd_isi {x c : V} {t u : Value} {b : Bool} (k : ClsV c u) (ty : TyX K H x t) (e : PySem.W.kitOne K t u = some b) (q : Q (.bl b) H) : rIsi K [x, c] H Q := ⟨x, c, t, u, b, rfl, k, ty, e, q⟩
def kb (a b : String) : Bool := (kitB a b).getD false
end
end L2.Px
namespace L2.Px
open PySem PySem.Spec PyProof.Rows StX TL
section
variable {K : PySem.W.Frag} {H : Hp} {Q : VK}
theorem rd_isi_int_int {i : Int} (q : Q (.bl true) H) : rIsi K [(.int i), .ty "int"] H Q := rd_isi (.ty _) (TyX.base (.int i)) (kit_ty (by decide +kernel)) q
theorem rd_isi_int_bool {i : Int} (q : Q (.bl false) H) : rIsi K [(.int i), .ty "bool"] H Q := rd_isi (.ty _) (TyX.base (.int i)) (kit_ty (by decide +kernel)) q
theorem rd_isi_int_str {i : Int} (q : Q (.bl false) H) : rIsi K [(.int i), .ty "str"] H Q := rd_isi (.ty _) (TyX.base (.int i)) (kit_ty (by decide +kernel)) q
theorem rd_isi_int_list {i : Int} (q : Q (.bl false) H) : rIsi K [(.int i), .ty "list"] H Q := rd_isi (.ty _) (TyX.base (.int i)) (kit_ty (by decide +kernel)) q
theorem rd_isi_int_tuple {i : Int} (q : Q (.bl false) H) : rIsi K [(.int i), .ty "tuple"] H Q := rd_isi (.ty _) (TyX.base (.int i)) (kit_ty (by decide +kernel)) q
theorem rd_isi_bl_int {c : Bool} (q : Q (.bl true) H) : rIsi K [(.bl c), .ty "int"] H Q := rd_isi (.ty _) (TyX.base (.bl c)) (kit_ty (by decide +kernel)) q
theorem rd_isi_bl_bool {c : Bool} (q : Q (.bl true) H) : rIsi K [(.bl c), .ty "bool"] H Q := rd_isi (.ty _) (TyX.base (.bl c)) (kit_ty (by decide +kernel)) q
theorem rd_isi_bl_str {c : Bool} (q : Q (.bl false) H) : rIsi K [(.bl c), .ty "str"] H Q := rd_isi (.ty _) (TyX.base (.bl c)) (kit_ty (by decide +kernel)) q
theorem rd_isi_bl_list {c : Bool} (q : Q (.bl false) H) : rIsi K [(.bl c), .ty "list"] H Q := rd_isi (.ty _) (TyX.base (.bl c)) (kit_ty (by decide +kernel)) q
theorem rd_isi_bl_tuple {c : Bool} (q : Q (.bl false) H) : rIsi K [(.bl c), .ty "tuple"] H Q := rd_isi (.ty _) (TyX.base (.bl c)) (kit_ty (by decide +kernel)) q
theorem rd_isi_str_int {x : Str} (q : Q (.bl false) H) : rIsi K [(.str x), .ty "int"] H Q := rd_isi (.ty _) (TyX.base (.str x)) (kit_ty (by decide +kernel)) q
theorem rd_isi_str_bool {x : Str} (q : Q (.bl false) H) : rIsi K [(.str x), .ty "bool"] H Q := rd_isi (.ty _) (TyX.base (.str x)) (kit_ty (by decide +kernel)) q
theorem rd_isi_str_str {x : Str} (q : Q (.bl true) H) : rIsi K [(.str x), .ty "str"] H Q := rd_isi (.ty _) (TyX.base (.str x)) (kit_ty (by decide +kernel)) q
theorem rd_isi_str_list {x : Str} (q : Q (.bl false) H) : rIsi K [(.str x), .ty "list"] H Q := rd_isi (.ty _) (TyX.base (.str x)) (kit_ty (by decide +kernel)) q
theorem rd_isi_str_tuple {x : Str} (q : Q (.bl false) H) : rIsi K [(.str x), .ty "tuple"] H Q := rd_isi (.ty _) (TyX.base (.str x)) (kit_ty (by decide +kernel)) q
theorem rd_isi_non_int  (q : Q (.bl false) H) : rIsi K [V.non, .ty "int"] H Q := rd_isi (.ty _) (TyX.base .non) (kit_ty (by decide +kernel)) q
theorem rd_isi_non_bool  (q : Q (.bl false) H) : rIsi K [V.non, .ty "bool"] H Q := rd_isi (.ty _) (TyX.base .non) (kit_ty (by decide +kernel)) q
theorem rd_isi_non_str  (q : Q (.bl false) H) : rIsi K [V.non, .ty "str"] H Q := rd_isi (.ty _) (TyX.base .non) (kit_ty (by decide +kernel)) q
theorem rd_isi_non_list  (q : Q (.bl false) H) : rIsi K [V.non, .ty "list"] H Q := rd_isi (.ty _) (TyX.base .non) (kit_ty (by decide +kernel)) q
theorem rd_isi_non_tuple  (q : Q (.bl false) H) : rIsi K [V.non, .ty "tuple"] H Q := rd_isi (.ty _) (TyX.base .non) (kit_ty (by decide +kernel)) q
theorem ty_lst {a : Addr} {xs : List V} (e : SqL K H a xs) : TyX K H (.ref a) (.type "list") := by
  rcases e with (q | ⟨o, q⟩) | ⟨o, _, _, q, c, _⟩
  · exact TyX.base (.lst q)
  · exact TyX.base (.frz q)
  · exact TyX.kList q c
theorem rd_isi_lst_list {a : Addr} {xs : List V} (e : SqL K H a xs) (q : Q (.bl true) H) : rIsi K [.ref a, .ty "list"] H Q := rd_isi (.ty _) (ty_lst e) (kit_ty (by decide +kernel)) q
theorem rd_isi_lst_tuple {a : Addr} {xs : List V} (e : SqL K H a xs) (q : Q (.bl false) H) : rIsi K [.ref a, .ty "tuple"] H Q := rd_isi (.ty _) (ty_lst e) (kit_ty (by decide +kernel)) q
theorem ty_tup {a : Addr} {xs : List V} (e : SqT K H a xs) : TyX K H (.ref a) (.type "tuple") := by
  rcases e with (q | ⟨o, q⟩) | ⟨o, _, _, q, c, _⟩
  · exact TyX.base (.tup q)
  · exact TyX.fTuple q
  · exact TyX.kTuple q c
theorem rd_isi_tup_list {a : Addr} {xs : List V} (e : SqT K H a xs) (q : Q (.bl false) H) : rIsi K [.ref a, .ty "list"] H Q := rd_isi (.ty _) (ty_tup e) (kit_ty (by decide +kernel)) q
theorem rd_isi_tup_tuple {a : Addr} {xs : List V} (e : SqT K H a xs) (q : Q (.bl true) H) : rIsi K [.ref a, .ty "tuple"] H Q := rd_isi (.ty _) (ty_tup e) (kit_ty (by decide +kernel)) q
end
end L2.Px
set_option Elab.async false
set_option linter.all false
set_option maxRecDepth 100000
set_option maxHeartbeats 1000000
namespace L2.Px
open PySem PySem.Spec PyProof.Rows StX TL
/-- all but what stands at x is as it was -/
def But (x : Addr) (H H' : Hp) : Prop := ∀ b o, b ≠ x → H b = some o → H' b = some o
section
variable {K : PySem.W.Frag} {CT CP : Addr} {H H' H1 : Hp} {a x : Addr} {t : TxI} {v : V} {s : Stp} {ms ps xs : List V} {ss : List Stp} {n y i : Nat} {o : HO}
theorem But.refl : But x H H := fun _ _ _ h => h
theorem But.trans (a : But x H H1) (b : But x H1 H') : But x H H' := fun c o hc h => b c o hc (a c o hc h)
theorem But.at (e : But x H H') : But x H (upd H' x o) := fun b u hb h => by rw [upd_ne hb]; exact e b u hb h
theorem But.new {p : Addr} (e : But x H H') (hp : H' p = none) : But x H (upd H' p o) := fun b u hb h => by rw [upd_ne (ne_of_none (e b u hb h) hp)]; exact e b u hb h
theorem But.same (e : Same H H') : But x H H' := fun b u _ h => e b u h
/-- an object that is no tuple and not locked -/
def Free1 (H : Hp) (x : Addr) : Prop := (∀ xs, H x ≠ some (.tup xs)) ∧ ∀ o u, H x ≠ some (.frz o u)
theorem free1_ins {C dx : Addr} {fs : List (Str × V)} (h : H x = some (.ins C dx fs)) : Free1 H x := ⟨fun xs e => (by rw [h] at e; cases e), fun o u e => (by rw [h] at e; cases e)⟩
theorem free1_lst (h : H x = some (.lst xs)) : Free1 H x := ⟨fun xs e => (by rw [h] at e; cases e), fun o u e => (by rw [h] at e; cases e)⟩
theorem But.tup (e : But x H H') (f : Free1 H x) (h : SqT K H a xs) : SqT K H' a xs := by
  rcases h with (h | ⟨o, h⟩) | h
  · exact .inl (.inl (e _ _ (fun z => f.1 xs (z ▸ h)) h))
  · exact .inl (.inr ⟨o, e _ _ (fun z => f.2 o _ (z ▸ h)) h⟩)
  · exact .inr h
theorem But.step (e : But x H H') (f : Free1 H x) (h : StepAt K H v s) : StepAt K H' v s := let ⟨a, ev, q⟩ := h; ⟨a, ev, e.tup f q⟩
theorem But.steps (e : But x H H') (f : Free1 H x) (h : StepsAt K H ms ss) : StepsAt K H' ms ss := ⟨h.1, fun j s q => let ⟨v, a, b⟩ := h.2 j s q; ⟨v, a, e.step f b⟩⟩
theorem But.part (e : But x H H') (f : ∀ dx fs, H x ≠ some (.ins CP dx fs)) (h : PartAt CP H v n y s) : PartAt CP H' v n y s := by
  cases s with
  | wr w => obtain ⟨p, dx, ev, q⟩ := h; exact ⟨p, dx, ev, e _ _ (fun z => f _ _ (z ▸ q)) q⟩
  | pa f' l t => obtain ⟨p, dx, ev, q⟩ := h; exact ⟨p, dx, ev, e _ _ (fun z => f _ _ (z ▸ q)) q⟩
theorem PartsAt.but (e : But x H H') (f : ∀ dx fs, H x ≠ some (.ins CP dx fs)) (h : PartsAt CP H ps ss) : PartsAt CP H' ps ss := ⟨h.1, fun j s q => let ⟨v, a, b⟩ := h.2 j s q; ⟨v, a, But.part e f b⟩⟩
theorem take_take_le {α : Type} {l : List α} {i j : Nat} (h : j ≤ i) : (l.take i).take j = l.take j := by rw [List.take_take, Nat.min_eq_left h]
theorem PartsAt.snoc (h : PartsAt CP H ps (ss.take i)) (hs : ss[i]? = some s) (e : But x H H') (f : ∀ dx fs, H x ≠ some (.ins CP dx fs)) (hp : PartAt CP H' v (sz (ss.take i)) (tyL (ss.take i)).length s) : PartsAt CP H' (ps ++ [v]) (ss.take (i + 1)) := by
  have hi : i < ss.length := (List.getElem?_eq_some_iff.mp hs).1
  have hl : ps.length = i := by rw [h.1, List.length_take]; omega
  refine ⟨by rw [List.length_append, hl, List.length_take]; simp; omega, fun j s' hj => ?_⟩
  have hj' : j < i + 1 := by
    have := (List.getElem?_eq_some_iff.mp hj).1
    rw [List.length_take] at this; omega
  rw [take_take_le (by omega)]
  rw [List.getElem?_take, if_pos hj'] at hj
  by_cases hji : j < i
  · obtain ⟨v', e1, e2⟩ := h.2 j s' (by rw [List.getElem?_take, if_pos hji]; exact hj)
    rw [take_take_le (by omega)] at e2
    exact ⟨v', by rw [List.getElem?_append_left (by omega)]; exact e1, But.part e f e2⟩
  · have ej : j = i := by omega
    subst ej
    rw [hs] at hj; cases hj
    exact ⟨v, by rw [List.getElem?_append_right (by omega), hl]; simp, hp⟩
theorem StepsAt.at (h : StepsAt K H ms ss) {j : Nat} (hv : ms[j]? = some v) : ∃ s, ss[j]? = some s ∧ StepAt K H v s := by
  have hj : j < ss.length := by rw [← h.1]; exact (List.getElem?_eq_some_iff.mp hv).1
  obtain ⟨v', e1, e2⟩ := h.2 j _ (List.getElem?_eq_getElem hj)
  rw [hv] at e1; cases e1
  exact ⟨_, List.getElem?_eq_getElem hj, e2⟩
theorem str_small {w : Str} (h : w.length ≤ 20) : w.length ≤ sizeLine := Nat.le_trans h (by rw [sizeLine_eq]; decide)
def mv (n : Nat) : Stp → Stp
  | .wr w => .wr w
  | .pa f l t => .pa (f + n) (l + n) t
def joinS (a b : List Stp) : List Stp := a ++ b.map (mv (sz a))
def rt (k c : Nat) : Nat → List Stp → List Stp
  | _, [] => []
  | n, .wr w :: r => (if n ≤ k ∧ k < n + w.length then .wr (mkS ((tl w).set (k - n) c)) else .wr w) :: rt k c (n + w.length) r
  | n, .pa f l t :: r => .pa f l t :: rt k c n r
end
section
variable (K : PySem.W.Frag) (CT CP : Addr)
def sp_is_step : Sp := fun vs H Q _ => ∃ v, ∃ (n : Nat), ∃ s, vs = [v, .int n] ∧ StepAt K H v s ∧ okStep n s ∧ ∀ H', Same H H' → Q (.bl true) H'
def sp_Text_of_steps : Sp := fun vs H Q _ => ∃ a ms ss, vs = [.ref CT, .ref a] ∧ (SqT K H a ms ∨ SqL K H a ms) ∧ StepsAt K H ms ss ∧ okFrom 0 ss ∧ ss.length ≤ 30 ∧ ∀ H' x t, Same H H' → TextAt K CT CP H' x t → t.ss = ss → Q (.ref x) H'
def sp_Text_steps : Sp := fun vs H Q _ => ∃ a t, vs = [.ref a] ∧ TextAt K CT CP H a t ∧ Q (.ref t.m) H
def sp_Text_typed_keys : Sp := fun vs H Q _ => ∃ a t, vs = [.ref a] ∧ TextAt K CT CP H a t ∧ Q (.str (mkS (tyL t.ss))) H
def sp_Text_size : Sp := fun vs H Q _ => ∃ a t, vs = [.ref a] ∧ TextAt K CT CP H a t ∧ Q (.int (sz t.ss)) H
def sp_Text_check_key : Sp := fun vs H Q _ => ∃ a t v, vs = [.ref a, v] ∧ TextAt K CT CP H a t ∧ NoSeq v ∧ isInt 0 (((tyL t.ss).length : Int) - 1) v = true ∧ Q .non H
def sp_Text_key_of : Sp := fun vs H Q _ => ∃ a t, ∃ (p k : Nat), vs = [.ref a, .int p] ∧ TextAt K CT CP H a t ∧ (ks t.ss)[p]? = some k ∧ Q (.int k) H
def sp_Text_call : Sp := sp_Text_key_of K CT CP
def sp_Text_getitem : Sp := fun vs H Q _ => ∃ a t, ∃ (p k c : Nat), vs = [.ref a, .int p] ∧ TextAt K CT CP H a t ∧ (ks t.ss)[p]? = some k ∧ (tyL t.ss)[k]? = some c ∧ Q (.str ⟨#[c]⟩) H
def sp_Text_add : Sp := fun vs H Q _ => ∃ a b t u, vs = [.ref a, .ref b] ∧ TextAt K CT CP H a t ∧ TextAt K CT CP H b u ∧ okFrom 0 (joinS t.ss u.ss) ∧ (joinS t.ss u.ss).length ≤ 30 ∧ ∀ H' x z, Same H H' → TextAt K CT CP H' x z → z.ss = joinS t.ss u.ss → Q (.ref x) H'
def mulS (ss : List Stp) (n : Nat) : List Stp := if n = 1 ∨ sz ss = 0 then ss else ss ++ [.pa 0 (sz ss - 1) (n - 1)]
def sp_Text_mul : Sp := fun vs H Q _ => ∃ a t, ∃ (n : Nat), vs = [.ref a, .int n] ∧ TextAt K CT CP H a t ∧ 1 ≤ n ∧ n ≤ 1000000000 ∧ okFrom 0 (mulS t.ss n) ∧ (mulS t.ss n).length ≤ 30 ∧ ∀ H' x z, Same H H' → TextAt K CT CP H' x z → z.ss = mulS t.ss n → Q (.ref x) H'
def sp_Text_retyped : Sp := fun vs H Q _ => ∃ a t, ∃ (k c : Nat), vs = [.ref a, .int k, .str ⟨#[c]⟩] ∧ TextAt K CT CP H a t ∧ k < (tyL t.ss).length ∧ 97 ≤ c ∧ c ≤ 122 ∧ ∀ H' x z, Same H H' → TextAt K CT CP H' x z → z.ss = rt k c 0 t.ss → Q (.ref x) H'
def sp_moved_step : Sp := fun vs H Q _ => ∃ v, ∃ (n : Nat), ∃ s, vs = [v, .int n] ∧ StepAt K H v s ∧ ∀ H' u, Same H H' → StepAt K H' u (mv n s) → Q u H'
def sp_joined : Sp := sp_Text_add K CT CP
def sp_repeated : Sp := sp_Text_mul K CT CP
end
end L2.Px
namespace L2.Px
open PySem PySem.Spec PyProof.Rows StX TL
section
variable {K : PySem.W.Frag} {H : Hp} {Q : VK} {x : Str} {a : Addr} {xs : List V}
def rLenA (K : PySem.W.Frag) : List V → Hp → VK → Prop := fun xs H Q => ∃ x n, xs = [x] ∧ LenV K x H n ∧ Q (.int n) H
theorem cLen {X : Cx} : CallR X (.builtin "len") (rLenA X.K) := call_len
theorem rd_len_str (hz : x.length ≤ sizeLine) (q : Q (.int (x.length : Nat)) H) : rLenA K [.str x] H Q := ⟨_, _, rfl, ⟨hz, rfl⟩, q⟩
theorem rd_len_lst (h : SqL K H a xs) (q : Q (.int (xs.length : Nat)) H) : rLenA K [.ref a] H Q := ⟨_, _, rfl, .inl ⟨_, h, rfl⟩, q⟩
theorem rd_len_tup (h : SqT K H a xs) (q : Q (.int (xs.length : Nat)) H) : rLenA K [.ref a] H Q := ⟨_, _, rfl, .inr ⟨_, h, rfl⟩, q⟩
def rIntA : List V → Hp → VK → Prop := fun xs H Q => (∃ i, xs = [.int i] ∧ Q (.int i) H) ∨ ∃ k, xs = [.bl k] ∧ Q (.int (if k then 1 else 0)) H
theorem cInt {X : Cx} : CallR X (.type "int") rIntA := call_int1
theorem rd_int_int {i : Int} (q : Q (.int i) H) : rIntA [.int i] H Q := .inl ⟨i, rfl, q⟩
theorem rd_int_bl {c : Bool} (q : Q (.int (if c then 1 else 0)) H) : rIntA [.bl c] H Q := .inr ⟨c, rfl, q⟩
def rListA (K : PySem.W.Frag) : List V → Hp → VK → Prop := fun xs H Q => ∃ p ys, xs = [.ref p] ∧ (SqL K H p ys ∨ SqT K H p ys) ∧ ∀ l, H l = none → Q (.ref l) (upd H l (.lst ys))
theorem cList {X : Cx} : CallR X (.type "list") (rListA X.K) := call_list_of
theorem rd_list_lst (h : SqL K H a xs) (q : ∀ l, H l = none → Q (.ref l) (upd H l (.lst xs))) : rListA K [.ref a] H Q := ⟨a, xs, rfl, .inl h, q⟩
theorem rd_list_tup (h : SqT K H a xs) (q : ∀ l, H l = none → Q (.ref l) (upd H l (.lst xs))) : rListA K [.ref a] H Q := ⟨a, xs, rfl, .inr h, q⟩
def rTupA (K : PySem.W.Frag) : List V → Hp → VK → Prop := fun xs H Q => ∃ p ys, xs = [.ref p] ∧ ((SqL K H p ys ∧ ∀ l, H l = none → Q (.ref l) (upd H l (.tup ys))) ∨ (SqT K H p ys ∧ Q (.ref p) H))
theorem cTup {X : Cx} : CallR X (.type "tuple") (rTupA X.K) := call_tuple_of
theorem rd_tuple_lst (h : SqL K H a xs) (q : ∀ l, H l = none → Q (.ref l) (upd H l (.tup xs))) : rTupA K [.ref a] H Q := ⟨a, xs, rfl, .inl ⟨h, q⟩⟩
def rMin2 : List V → Hp → VK → Prop := fun xs H Q => ∃ i j, xs = [.int i, .int j] ∧ Q (.int (if j < i then j else i)) H
theorem cMin2 {X : Cx} (hc : X.calm = true) : CallR X (.builtin "min") rMin2 := call_min2 hc
theorem rd_min2 {i j : Int} (q : Q (.int (if j < i then j else i)) H) : rMin2 [.int i, .int j] H Q := ⟨i, j, rfl, q⟩
def rMax2 : List V → Hp → VK → Prop := fun xs H Q => ∃ i j, xs = [.int i, .int j] ∧ Q (.int (if j > i then j else i)) H
theorem rd_max2 {i j : Int} (q : Q (.int (if j > i then j else i)) H) : rMax2 [.int i, .int j] H Q := ⟨i, j, rfl, q⟩
def rInSign : R2 := fun x y H Q => ∃ (c : Nat) (z : Str), x = .str ⟨#[c]⟩ ∧ y = .str z ∧ Q (.bl (decide (c ∈ z.cps.toList))) H
theorem oInSign {X : Cx} : OpR X (compareOp .In) rInSign := op_in_sign
theorem rd_in_sign {c : Nat} {z : Str} (q : Q (.bl (decide (c ∈ z.cps.toList))) H) : rInSign (.str ⟨#[c]⟩) (.str z) H Q := ⟨c, z, rfl, rfl, q⟩
def rIsN : R2 := fun x y H Q => y = .non ∧ Q (.bl (decide (x = .non))) H
def rNotN : R2 := fun x y H Q => y = .non ∧ Q (.bl (!decide (x = .non))) H
theorem rd_isN {v : V} (q : Q (.bl (decide (v = .non))) H) : rIsN v .non H Q := ⟨rfl, q⟩
theorem rd_notN {v : V} (q : Q (.bl (!decide (v = .non))) H) : rNotN v .non H Q := ⟨rfl, q⟩
theorem one_sign (h : x.length = 1) : ∃ c, x = ⟨#[c]⟩ := by
  have e : (tl x).length = 1 := by rw [← len_tl]; exact h
  obtain ⟨c, hc⟩ := List.length_eq_one_iff.mp e
  exact ⟨c, ext_tl (by rw [hc, tl_mk])⟩
theorem isLet_len (h : ¬ x.length = 1) : isLet (.str x) = false := by
  unfold isLet
  simp only
  split
  · rename_i c e
    exact absurd (by rw [len_tl, e]; rfl) h
  · rfl
theorem low_list : (("abcdefghijklmnopqrstuvwxyz" : Str)).cps.toList = [97, 98, 99, 100, 101, 102, 103, 104, 105, 106, 107, 108, 109, 110, 111, 112, 113, 114, 115, 116, 117, 118, 119, 120, 121, 122] := by decide +kernel
theorem low_mem (c : Nat) : decide (c ∈ (("abcdefghijklmnopqrstuvwxyz" : Str)).cps.toList) = decide (97 ≤ c ∧ c ≤ 122) := by
  rw [low_list]
  apply decide_eq_decide.mpr
  simp only [List.mem_cons, List.not_mem_nil, or_false]
  omega
theorem isLet_one (c : Nat) : isLet (.str ⟨#[c]⟩) = decide (c ∈ (("abcdefghijklmnopqrstuvwxyz" : Str)).cps.toList) := by rw [low_mem]; rfl
theorem isWd_len (h : ¬ (1 ≤ (tl x).length ∧ (tl x).length ≤ 20)) : isWd (.str x) = false := by
  unfold isWd
  exact decide_eq_false fun z => h ⟨z.1, z.2.1⟩
end
section
variable {a b c d e : Str} {va vb vc vd ve : V}
theorem fl1 : (putF a va []).length < 1000 := Nat.lt_of_le_of_lt (putF_len (k := 0) (Nat.le_refl 0)) (by decide)
theorem fl2 : (putF b vb (putF a va [])).length < 1000 := Nat.lt_of_le_of_lt (putF_len (k := 1) (putF_len (k := 0) (Nat.le_refl 0))) (by decide)
theorem fl3 : (putF c vc (putF b vb (putF a va []))).length < 1000 := Nat.lt_of_le_of_lt (putF_len (k := 2) (putF_len (k := 1) (putF_len (k := 0) (Nat.le_refl 0)))) (by decide)
theorem fl4 : (putF d vd (putF c vc (putF b vb (putF a va [])))).length < 1000 := Nat.lt_of_le_of_lt (putF_len (k := 3) (putF_len (k := 2) (putF_len (k := 1) (putF_len (k := 0) (Nat.le_refl 0))))) (by decide)
end
end L2.Px
set_option Elab.async false
set_option linter.all false
set_option maxRecDepth 100000
set_option maxHeartbeats 1000000
namespace L2.Px
open PySem PySem.Spec PyProof.Rows StX TL
/-- what tLc asks behind the walked thing J -/
def LcW (J : It) (g : TG) (tt : TT) (te : TE) (vs : List Nat) (σ : St) (H1 : Hp) (D : Addr) (Qd : Hp → Prop) : Prop := ∃ W : Nat → Nat → Hp → Prop, (∃ m, W 0 m (upd H1 D (.lst []))) ∧ ∀ i m H, W i m H →
  (J.stop i H ∧ Qd H) ∨ (J.go i H ∧ ∃ Nx : Hp → Prop, (∀ H', Nx H' → ∃ m', m' < m ∧ W (i + 1) m' H') ∧ ∀ x H', J.yld i H x H' → g x (wipe σ vs) H' fun σ2 H2 => wipe σ2 vs = wipe σ vs ∧ tt σ2 H2 fun b H3 =>
    if b = true then te σ2 H3 fun y H4 => ∃ acc, H4 D = some (.lst acc) ∧ acc.length < sizeLine ∧ Nx (upd H4 D (.lst (acc ++ [y]))) else Nx H3)
/-- a walk of n turns whose i-th item is it i, the heap as it is -/
structure Plain (J : It) (n : Nat) (it : Nat → V) (H1 : Hp) : Prop where
  stop : ∀ H, Same H1 H → J.stop n H
  go : ∀ i H, Same H1 H → i < n → J.go i H
  yld : ∀ i H x H', Same H1 H → i < n → J.yld i H x H' → H' = H ∧ x = it i
section
variable {K : PySem.W.Frag} {a : Addr} {xs : List V} {H1 : Hp} {n : Nat} {lo : Int} {x : Str}
theorem plain_list (h : SqL K H1 a xs) : Plain (Itl K a) xs.length (fun i => (xs[i]?).getD .non) H1 where
  stop := fun H s => ⟨xs, s.seq h, Nat.le_refl _⟩
  go := fun i H s hi => ⟨xs, xs[i], s.seq h, by simp [hi]⟩
  yld := fun i H x H' s hi y => ⟨y.1, by rw [y.2 xs (s.seq h)]; rfl⟩
theorem plain_tup (h : SqT K H1 a xs) : Plain (Itt K a) xs.length (fun i => (xs[i]?).getD .non) H1 where
  stop := fun H s => ⟨xs, Same.tup s h, Nat.le_refl _⟩
  go := fun i H s hi => ⟨xs, xs[i], Same.tup s h, by simp [hi]⟩
  yld := fun i H x H' s hi y => ⟨y.1, by rw [y.2 xs (Same.tup s h)]; rfl⟩
theorem plain_str : Plain (Its x) (tl x).length (fun i => .str ⟨#[(tl x)[i]?.getD 0]⟩) H1 where
  stop := fun H s => by show x.cps.size ≤ _; rw [← len_tl]; exact Nat.le_refl _
  go := fun i H s hi => by show i < x.cps.size; rw [← len_tl] at hi; exact hi
  yld := fun i H y H' s hi h => by
    obtain ⟨e, c, hc, ev⟩ := h
    have e2 : (tl x)[i]? = some c := by show x.cps.toList[i]? = some c; rw [Array.getElem?_toList]; exact hc
    exact ⟨e, by rw [ev, e2]; rfl⟩
theorem plain_rng : Plain (Itr lo n) n (fun i => .int (lo + i)) H1 where
  stop := fun H s => Nat.le_refl _
  go := fun i H s hi => hi
  yld := fun i H x H' s hi y => ⟨y.1, y.2⟩
end
section
variable {J : It} {n : Nat} {it : Nat → V} {H1 : Hp} {tt : TT} {te : TE} {vs : List Nat} {σ : St} {D : Addr} {Qd : Hp → Prop} {j : Nat}
/-- [f x for x in .. if p x], related answers -/
theorem lc_rel (P : Plain J n it H1) (hD : H1 D = none) (hn : n ≤ sizeLine) (hj : ∀ v, wipe ((wipe σ vs).set j (some v)) vs = wipe σ vs) (Rl : Nat → V → Hp → Prop) (mono : ∀ i y H H' l, i < n → H D = some (.lst l) → But D H H' → Rl i y H → Rl i y H')
    (hs : ∀ i H (Q : VK), i < n → Same H1 H → (∀ y H', Same H H' → Rl i y H' → Q y H') → te ((wipe σ vs).set j (some (it i))) H Q)
    (hd : ∀ H ys, Same H1 H → H D = some (.lst ys) → ys.length = n → (∀ i, i < n → ∃ y, ys[i]? = some y ∧ Rl i y H) → Qd H) : LcW J (gName j) tYes te vs σ H1 D Qd := by
  refine ⟨fun i m H => m = n - i ∧ i ≤ n ∧ Same H1 H ∧ ∃ ys, H D = some (.lst ys) ∧ ys.length = i ∧ ∀ k, k < i → ∃ y, ys[k]? = some y ∧ Rl k y H, ⟨_, rfl, Nat.zero_le _, Same.new (Same.refl _) hD, [], upd_same, rfl, fun k hk => absurd hk (Nat.not_lt_zero _)⟩, ?_⟩
  rintro i m H ⟨rfl, hi, S, ys, eD, hl, hr⟩
  by_cases hlt : i < n
  · refine .inr ⟨P.go i H S hlt, fun H' => i + 1 ≤ n ∧ Same H1 H' ∧ ∃ ys, H' D = some (.lst ys) ∧ ys.length = i + 1 ∧ ∀ k, k < i + 1 → ∃ y, ys[k]? = some y ∧ Rl k y H', fun H' z => ⟨n - (i + 1), by omega, rfl, z⟩, fun x H' y => ?_⟩
    obtain ⟨e1, e2⟩ := P.yld i H x H' S hlt y
    subst e1 e2
    refine ⟨hj _, ?_⟩
    refine rd_yes (iteT ?_)
    refine hs i H' _ hlt S fun y2 H2 S2 r => ⟨ys, S2 _ _ eD, by omega, hlt, Same.mut (S.trans S2) hD, ys ++ [y2], upd_same, by simp [hl], fun k hk => ?_⟩
    by_cases hki : k < i
    · obtain ⟨y', h1, h2⟩ := hr k hki
      exact ⟨y', by rw [List.getElem?_append_left (by omega)]; exact h1, mono _ _ _ _ _ (by omega) eD (But.at (But.same S2)) h2⟩
    · have ek : k = i := by omega
      subst ek
      exact ⟨y2, by rw [List.getElem?_append_right (by omega), hl]; simp, mono _ _ _ _ _ (by omega) (S2 _ _ eD) (But.at But.refl) r⟩
  · have e : i = n := by omega
    subst e
    exact .inl ⟨P.stop H S, hd H ys S eD hl hr⟩
/-- the same with plain answers -/
theorem lc_fun (P : Plain J n it H1) (hD : H1 D = none) (hn : n ≤ sizeLine) (hj : ∀ v, wipe ((wipe σ vs).set j (some v)) vs = wipe σ vs) (f : Nat → V)
    (hs : ∀ i H (Q : VK), i < n → Same H1 H → (∀ H', Same H H' → Q (f i) H') → te ((wipe σ vs).set j (some (it i))) H Q)
    (hd : ∀ H, Same H1 H → H D = some (.lst ((List.range n).map f)) → Qd H) : LcW J (gName j) tYes te vs σ H1 D Qd := by
  refine ⟨fun i m H => m = n - i ∧ i ≤ n ∧ Same H1 H ∧ H D = some (.lst ((List.range i).map f)), ⟨_, rfl, Nat.zero_le _, Same.new (Same.refl _) hD, upd_same⟩, ?_⟩
  rintro i m H ⟨rfl, hi, S, eD⟩
  by_cases hlt : i < n
  · refine .inr ⟨P.go i H S hlt, fun H' => i + 1 ≤ n ∧ Same H1 H' ∧ H' D = some (.lst ((List.range (i + 1)).map f)), fun H' z => ⟨n - (i + 1), by omega, rfl, z⟩, fun x H' y => ?_⟩
    obtain ⟨e1, e2⟩ := P.yld i H x H' S hlt y
    subst e1 e2
    refine ⟨hj _, ?_⟩
    refine rd_yes (iteT ?_)
    refine hs i H' _ hlt S fun H2 S2 => ⟨_, S2 _ _ eD, by rw [List.length_map, List.length_range]; omega, hlt, Same.mut (S.trans S2) hD, ?_⟩
    rw [upd_same, List.range_succ, List.map_append]
    rfl
  · have e : i = n := by omega
    subst e
    exact .inl ⟨P.stop H S, hd H S eD⟩
/-- with a test -/
theorem lc_filt (P : Plain J n it H1) (hD : H1 D = none) (hn : n ≤ sizeLine) (hj : ∀ v, wipe ((wipe σ vs).set j (some v)) vs = wipe σ vs) (f : Nat → V) (p : Nat → Bool)
    (ht : ∀ i H (R : Bool → Hp → Prop), i < n → Same H1 H → (∀ H', Same H H' → R (p i) H') → tt ((wipe σ vs).set j (some (it i))) H R)
    (hs : ∀ i H (Q : VK), i < n → p i = true → Same H1 H → (∀ H', Same H H' → Q (f i) H') → te ((wipe σ vs).set j (some (it i))) H Q)
    (hd : ∀ H, Same H1 H → H D = some (.lst (((List.range n).filter p).map f)) → Qd H) : LcW J (gName j) tt te vs σ H1 D Qd := by
  refine ⟨fun i m H => m = n - i ∧ i ≤ n ∧ Same H1 H ∧ H D = some (.lst (((List.range i).filter p).map f)), ⟨_, rfl, Nat.zero_le _, Same.new (Same.refl _) hD, upd_same⟩, ?_⟩
  rintro i m H ⟨rfl, hi, S, eD⟩
  by_cases hlt : i < n
  · refine .inr ⟨P.go i H S hlt, fun H' => i + 1 ≤ n ∧ Same H1 H' ∧ H' D = some (.lst (((List.range (i + 1)).filter p).map f)), fun H' z => ⟨n - (i + 1), by omega, rfl, z⟩, fun x H' y => ?_⟩
    obtain ⟨e1, e2⟩ := P.yld i H x H' S hlt y
    subst e1 e2
    refine ⟨hj _, ht i H' _ hlt S fun H2 S2 => ?_⟩
    cases hp : p i with
    | true =>
      rw [if_pos rfl]
      refine hs i H2 _ hlt hp (S.trans S2) fun H3 S3 => ⟨_, S3 _ _ (S2 _ _ eD), ?_, hlt, Same.mut ((S.trans S2).trans S3) hD, ?_⟩
      · rw [List.length_map]
        have := List.length_filter_le p (List.range i)
        rw [List.length_range] at this
        omega
      · rw [upd_same, List.range_succ, List.filter_append, List.map_append]
        simp [hp]
    | false =>
      rw [if_neg Bool.false_ne_true]
      refine ⟨hlt, S.trans S2, ?_⟩
      rw [S2 _ _ eD, List.range_succ, List.filter_append, List.map_append]
      simp [hp]
  · have e : i = n := by omega
    subst e
    exact .inl ⟨P.stop H S, hd H S eD⟩
end
def ForW (J : It) (g : TG) (tb : TS) (D : Ends) (σ : St) (H1 : Hp) : Prop := ∃ W : Nat → Nat → St → Hp → Prop, (∃ m, W 0 m σ H1) ∧ ∀ i m σ H, W i m σ H →
  (J.stop i H ∧ D.nx σ H) ∨ (J.go i H ∧ ∃ N : St → Hp → Prop, (∀ σ' H', N σ' H' → ∃ m', m' < m ∧ W (i + 1) m' σ' H') ∧ ∀ x H', J.yld i H x H' → g x σ H' fun σ2 H2 => tb { D with nx := N, ct := N, bk := D.nx } σ2 H2)
section
variable {K : PySem.W.Frag} {H : Hp} {Q : VK} {x : Str} {a : Addr} {xs : List V}
theorem rd_all {bs : List Bool} (h : SqL K H a (bs.map V.bl)) (q : Q (.bl (bs.all id)) H) : rAll K [.ref a] H Q := ⟨a, bs, rfl, h, q⟩
theorem isWd_all (h1 : 1 ≤ (tl x).length) (h2 : (tl x).length ≤ 20) : ((List.range (tl x).length).map fun i => isLet (.str ⟨#[(tl x)[i]?.getD 0]⟩)).all id = isWd (.str x) := by
  unfold isWd
  rw [List.all_map]
  have key : (List.range (tl x).length).all (id ∘ fun i => isLet (.str ⟨#[(tl x)[i]?.getD 0]⟩)) = decide (∀ c ∈ tl x, 97 ≤ c ∧ c ≤ 122) := by
    rw [Bool.eq_iff_iff, List.all_eq_true, decide_eq_true_iff]
    constructor
    · intro h c hc
      obtain ⟨i, hi, rfl⟩ := List.getElem_of_mem hc
      have := h i (List.mem_range.mpr hi)
      simp only [Function.comp, id, isLet, tl] at this
      rw [List.getElem?_eq_getElem hi] at this
      simpa [tl] using this
    · intro h i hi
      have hi := List.mem_range.mp hi
      have := h _ (List.getElem_mem hi)
      simp only [Function.comp, id, isLet]
      rw [List.getElem?_eq_getElem hi]
      simpa [tl] using this
  rw [key]
  apply decide_eq_decide.mpr
  constructor
  · intro h; exact ⟨h1, h2, h⟩
  · intro h; exact h.2.2
theorem sign_small (c : Nat) : (⟨#[c]⟩ : Str).length ≤ sizeLine := Nat.le_trans (show 1 ≤ 20 by decide) (by rw [sizeLine_eq]; decide)
theorem rd_iStr {te : TE} {σ : St} {Rr : It → Hp → Prop} (h : te σ H fun v H1 => ∃ x, v = .str x ∧ Rr (Its x) H1) : iStr te σ H Rr := h
end
end L2.Px
namespace L2.Px
open PySem PySem.Spec PyProof.Rows StX TL
section
variable {K : PySem.W.Frag} {H : Hp} {Q : VK} {x y : Str} {a l : Addr} {xs : List V} {v : V} {i : Int} {CP CT : Addr} {ss : List Stp} {s : Stp} {n j : Nat}
theorem two_line : 2 ≤ sizeLine := by rw [sizeLine_eq]; decide
theorem emp_mk : ("" : Str) = mkS [] := by decide +kernel
theorem rd_append (h : H l = some (.lst xs)) (hz : xs.length < sizeLine) (q : Q .non (upd H l (.lst (xs ++ [v])))) : rAppend (.ref l) [v] H Q := ⟨l, xs, v, rfl, rfl, h, hz, q⟩
theorem rd_U {g : Int → V} (q : Q (g i) H) : rU g (.int i) H Q := ⟨i, rfl, q⟩
theorem rd_tyL (h : SqL K H a xs) (q : Prop) (hq : q) : tyV K "list" (.ref a) H ∧ q := ⟨.inl ⟨rfl, _, h⟩, hq⟩
theorem line30 : (30 : Nat) < sizeLine := by rw [sizeLine_eq]; decide
theorem tyL_small {ss : List Stp} (ok : okFrom n ss) : (tyL ss).length ≤ 20 * ss.length := by
  induction ss generalizing n with
  | nil => simp [tyL]
  | cons s r ih =>
    obtain ⟨h1, _, h3⟩ := ok
    have := ih h3
    simp only [tyL, List.length_append, List.length_cons]
    cases s with
    | wr w => have := h1.2.1; rw [len_tl] at this; simp only [ty1]; omega
    | pa f l t => simp only [ty1, List.length_nil]; omega
theorem tyL_line (ok : okFrom n ss) (few : ss.length ≤ 30) : (tyL ss).length ≤ sizeLine := Nat.le_trans (tyL_small ok) (Nat.le_trans (show 20 * ss.length ≤ 600 by omega) (by rw [sizeLine_eq]; decide))
theorem tyL_take_le (j : Nat) : (tyL (ss.take j)).length ≤ (tyL ss).length := by
  conv => rhs; rw [← List.take_append_drop j ss, tyL_append, List.length_append]
  omega
end
end L2.Px
namespace L2.Px
open PySem PySem.Spec PyProof.Rows StX TL
section
variable {K : PySem.W.Frag} {H : Hp} {Q : VK} {E : XK} {CP CT : Addr} {a b : Addr} {xs : List V} {s n f l : Int} {t : Bool} {rs : List V} {ss : List Stp}
/-- a part is made -/
theorem rd_mkPart (q : ∀ x dx Hc, H x = none → Same H Hc → Hc x = some (.ins CP dx (partF s n t f l)) → Q (.ref x) Hc) :
    rMk CP (sp_Part_init CP) E [.int s, .int n, .bl t, .int f, .int l] H Q := by
  intro x dx nx nd ne
  exact ⟨x, dx, s, n, t, f, l, rfl, upd_same, rfl, q x dx _ nx (Same.mut (Same.mut (Same.mut (Same.refl _) nd) nx) nx) upd_same⟩
/-- a text is made -/
theorem rd_mkText (hst : StepsAt K H rs ss) (ok : okFrom 0 ss) (few : ss.length ≤ 30)
    (q : ∀ x Hc t, H x = none → Same H Hc → TextAt K CT CP Hc x t → t.ss = ss → Q (.ref x) Hc) :
    rMk CT (spStar 1 (sp_Text_init K CT CP)) E rs H Q := by
  intro x dx nx nd ne
  have S1 : Same H (upd (upd H dx (.own x)) x (.ins CT dx [])) := Same.mut (Same.mut (Same.refl _) nd) nx
  refine ⟨[.ref x], rs, rfl, rfl, by rw [hst.1]; exact Nat.le_trans few (Nat.le_of_lt line30), fun p np => ?_⟩
  have S2 := Same.new (o := .tup rs) S1 np
  exact ⟨x, dx, p, rs, ss, rfl, lk_new np upd_same, SqT.of upd_same, hst.mono S2, ok, few, fun H' t k T e1 e2 => ⟨rfl, q x H' t nx (fun b o e => k b o (ne_of_none e nx) (S2 _ _ e)) T e1⟩⟩
end
end L2.Px
set_option Elab.async false
set_option linter.all false
set_option maxRecDepth 100000
set_option maxHeartbeats 1000000
namespace L2.Px
open PySem PySem.Spec PyProof.Rows StX TL
section
variable {K : PySem.W.Frag} {σ : St} {H : Hp} {Q : VK} {i j : Int} {x y : Str} {a b : Addr} {xs ys : List V} {te ta tb : TE} {tt : TT} {st : TS} {D : Ends} {t1 t2 : TO} {c : Nat} {v : V}
theorem rd_while (W : Nat → St → Hp → Prop) (h0 : ∃ m, W m σ H) (hs : ∀ m σ H, W m σ H → tt σ H fun b H1 => if b = true then ∃ N : St → Hp → Prop, (∀ σ' H', N σ' H' → ∃ m', m' < m ∧ W m' σ' H') ∧ st { D with nx := N, ct := N, bk := D.nx } σ H1 else D.nx σ H1) : tWhile tt st D σ H := ⟨W, h0, hs⟩
theorem rd_ixS (hz : x.length ≤ sizeLine) (e : atI x.cps.toList i = some c) (h : Q (.str ⟨#[c]⟩) H) : rIx K (.str x) (.int i) H Q := .inr (.inr ⟨x, i, c, rfl, rfl, hz, e, h⟩)
theorem rd_ixSn {j : Nat} (hz : x.length ≤ sizeLine) (e : (tl x)[j]? = some c) (h : Q (.str ⟨#[c]⟩) H) : rIx K (.str x) (.int j) H Q := rd_ixS hz (by rw [atI_nat]; exact e) h
theorem rd_ixLn {j : Nat} (hx : SqL K H a xs) (e : xs[j]? = some v) (h : Q v H) : rIx K (.ref a) (.int j) H Q := rd_ixI h hx (by rw [atI_nat]; exact e)
theorem rd_ixTn {j : Nat} (hx : SqT K H a xs) (e : xs[j]? = some v) (h : Q v H) : rIx K (.ref a) (.int j) H Q := rd_ixT h hx (by rw [atI_nat]; exact e)
theorem rd_sl {r : V → Option Int → Option Int → Hp → VK → Prop} (h : te σ H fun x H1 => t1 σ H1 fun l H2 => t2 σ H2 fun u H3 => r x l u H3 Q) : tSl r te t1 t2 σ H Q := h
theorem rd_noPart {R : Option Int → Hp → Prop} (h : R none H) : tNoPart σ H R := h
theorem rd_part {R : Option Int → Hp → Prop} (h : te σ H fun x H1 => ∃ i, x = .int i ∧ R (some i) H1) : tPart te σ H R := h
theorem str_len_app (x y : Str) : (x ++ y).length = x.length + y.length := by rw [len_tl, tl_append, List.length_append, ← len_tl, ← len_tl]
theorem rd_pint {R : Int → Prop} (h : R i) : ∃ i', V.int i = .int i' ∧ R i' := ⟨i, rfl, h⟩
theorem rd_slL {lo hi : Option Int} (hx : SqL K H a xs) (h : ∀ p, H p = none → Q (.ref p) (upd H p (.lst (cutV xs lo hi)))) : rSlL K (.ref a) lo hi H Q := ⟨a, xs, rfl, hx, h⟩
theorem StepAt.mono' {D : Addr} {H' : Hp} {s : Stp} (h : StepAt K H v s) (b : But D H H') (f : Free1 H D) : StepAt K H' v s := b.step f h
end
end L2.Px
set_option Elab.async false
set_option linter.all false
set_option maxRecDepth 100000
set_option maxHeartbeats 1000000
namespace L2.Px
open PySem PySem.Spec PyProof.Rows StX TL
theorem twenty_line : 64 ≤ sizeLine := by rw [sizeLine_eq]; decide
theorem four_line : 4 ≤ sizeLine := by rw [sizeLine_eq]; decide
theorem StepsAt.append {K : PySem.W.Frag} {H : Hp} {ms ns : List V} {ss tt : List Stp} (h : StepsAt K H ms ss) (g : StepsAt K H ns tt) : StepsAt K H (ms ++ ns) (ss ++ tt) := by
  refine ⟨by rw [List.length_append, List.length_append, h.1, g.1], fun j s hj => ?_⟩
  by_cases hl : j < ss.length
  · rw [List.getElem?_append_left hl] at hj
    obtain ⟨v, e1, e2⟩ := h.2 j s hj
    exact ⟨v, by rw [List.getElem?_append_left (by rw [h.1]; exact hl)]; exact e1, e2⟩
  · rw [List.getElem?_append_right (by omega)] at hj
    obtain ⟨v, e1, e2⟩ := g.2 _ s hj
    exact ⟨v, by rw [List.getElem?_append_right (by rw [h.1]; omega), h.1]; exact e1, e2⟩
theorem StepsAt.one {K : PySem.W.Frag} {H : Hp} {v : V} {s : Stp} (h : StepAt K H v s) : StepsAt K H [v] [s] := by
  refine ⟨rfl, fun j s' hj => ?_⟩
  cases j with
  | zero => cases hj; exact ⟨v, rfl, h⟩
  | succ j => simp at hj
theorem StepAt.one' {K : PySem.W.Frag} {H : Hp} {v : V} {s : Stp} (h : StepAt K H v s) : StepsAt K H [v] [s] := .one h
def rt1 (k c n : Nat) : Stp → Stp
  | .wr w => if n ≤ k ∧ k < n + w.length then .wr (mkS ((tl w).set (k - n) c)) else .wr w
  | .pa f l t => .pa f l t
theorem rt_cons (k c n : Nat) (s : Stp) (r : List Stp) : rt k c n (s :: r) = rt1 k c n s :: rt k c (n + (ty1 s).length) r := by
  cases s with
  | wr w => simp only [rt, rt1, ty1, ← len_tl]
  | pa f l t => simp only [rt, rt1, ty1, List.length_nil, Nat.add_zero]
theorem rt_append (k c : Nat) : ∀ (n : Nat) (a b : List Stp), rt k c n (a ++ b) = rt k c n a ++ rt k c (n + (tyL a).length) b
  | n, [], b => by simp [rt, tyL]
  | n, s :: a, b => by
    rw [List.cons_append, rt_cons, rt_cons, rt_append k c _ a b, List.cons_append]
    simp only [tyL, List.length_append]
    rw [Nat.add_assoc]
theorem rt_take {k c : Nat} {ss : List Stp} {i : Nat} {s : Stp} (h : ss[i]? = some s) : rt k c 0 (ss.take (i + 1)) = rt k c 0 (ss.take i) ++ [rt1 k c (tyL (ss.take i)).length s] := by
  rw [take_snoc h, rt_append, Nat.zero_add, rt_cons]; rfl
theorem rt_length (k c : Nat) : ∀ (n : Nat) (ss : List Stp), (rt k c n ss).length = ss.length
  | n, [] => rfl
  | n, s :: r => by rw [rt_cons, List.length_cons, rt_length k c _ r, List.length_cons]
theorem len1_mv (n : Nat) (s : Stp) : len1 (mv n s) = len1 s := by
  cases s with
  | wr w => rfl
  | pa f l t => simp only [mv, len1]; rw [show l + n - (f + n) = l - f by omega]
theorem ty1_mv (n : Nat) (s : Stp) : ty1 (mv n s) = ty1 s := by cases s <;> rfl
theorem ok_mv {n m : Nat} {s : Stp} (h : okStep m s) : okStep (m + n) (mv n s) := by
  cases s with
  | wr w => exact h
  | pa f l t => obtain ⟨a, b, c, d⟩ := h; exact ⟨by omega, by omega, c, d⟩
theorem sz_mv (n : Nat) : ∀ ss : List Stp, sz (ss.map (mv n)) = sz ss
  | [] => rfl
  | s :: r => by rw [List.map_cons]; simp only [sz]; rw [len1_mv, sz_mv n r]
theorem tyL_mv (n : Nat) : ∀ ss : List Stp, tyL (ss.map (mv n)) = tyL ss
  | [] => rfl
  | s :: r => by rw [List.map_cons]; simp only [tyL]; rw [ty1_mv, tyL_mv n r]
theorem ok_mvs (n : Nat) : ∀ (m : Nat) (ss : List Stp), okFrom m ss → m + n + sz ss ≤ 1000000000000000000 → okFrom (m + n) (ss.map (mv n))
  | m, [], _, _ => trivial
  | m, s :: r, ⟨h1, h2, h3⟩, hz => by
    simp only [sz] at hz
    refine ⟨ok_mv h1, by rw [len1_mv]; omega, ?_⟩
    rw [len1_mv, show m + n + len1 s = m + len1 s + n by omega]
    exact ok_mvs n _ r h3 (by omega)
theorem sz_join (a b : List Stp) : sz (joinS a b) = sz a + sz b := by unfold joinS; rw [sz_append, sz_mv]
theorem tyL_join (a b : List Stp) : tyL (joinS a b) = tyL a ++ tyL b := by unfold joinS; rw [tyL_append, tyL_mv]
theorem ok_join {a b : List Stp} (ha : okFrom 0 a) (hb : okFrom 0 b) (hz : sz a + sz b ≤ 1000000000000000000) : okFrom 0 (joinS a b) := by
  unfold joinS
  rw [okFrom_append]
  refine ⟨ha, ?_⟩
  exact ok_mvs (sz a) 0 b hb (by omega)
theorem join_length (a b : List Stp) : (joinS a b).length = a.length + b.length := by unfold joinS; rw [List.length_append, List.length_map]
theorem sz_mul {ss : List Stp} {n : Nat} (hn : 1 ≤ n) : sz (mulS ss n) = sz ss * n := by
  unfold mulS
  split
  · rename_i h
    rcases h with h | h
    · rw [h, Nat.mul_one]
    · rw [h, Nat.zero_mul]
  · rename_i h
    have h1 : sz ss ≠ 0 := fun z => h (.inr z)
    rw [sz_append]
    simp only [sz, len1, Nat.add_zero]
    rw [show sz ss - 1 - 0 + 1 = sz ss by omega]
    obtain ⟨m, rfl⟩ : ∃ m, n = m + 1 := ⟨n - 1, by omega⟩
    rw [Nat.add_sub_cancel, Nat.mul_succ]; omega
theorem tyL_mul (ss : List Stp) (n : Nat) : tyL (mulS ss n) = tyL ss := by
  unfold mulS
  split
  · rfl
  · rw [tyL_append]; simp [tyL, ty1]
theorem mul_length (ss : List Stp) (n : Nat) : (mulS ss n).length ≤ ss.length + 1 := by
  unfold mulS
  split
  · omega
  · rw [List.length_append]; simp
theorem ok_mul {ss : List Stp} {n : Nat} (ok : okFrom 0 ss) (hn : 1 ≤ n) (hn2 : n ≤ 1000000000) (hz : sz ss * n ≤ 1000000000000000000) : okFrom 0 (mulS ss n) := by
  have e := sz_mul (ss := ss) hn
  unfold mulS at e ⊢
  split
  · exact ok
  · rename_i h
    rw [if_neg h, sz_append] at e
    have h1 : sz ss ≠ 0 := fun z => h (.inr z)
    have h2 : n ≠ 1 := fun z => h (.inl z)
    rw [okFrom_append]
    refine ⟨ok, ⟨by omega, by omega, by omega, by omega⟩, ?_, trivial⟩
    simp only [sz, Nat.add_zero] at e
    omega
end L2.Px
set_option Elab.async false
set_option linter.all false
set_option maxRecDepth 100000
set_option maxHeartbeats 1000000
namespace L2.Px
open PySem PySem.Spec PyProof.Rows StX TL
section
variable {X : Cx} {K : PySem.W.Frag} {e o tg : Expr} {es : List Expr} {ta te to : TE} {t : TA} {f name : Str} {pos apos cpos p : Pos} {T id : String} {r : V → List V → Hp → VK → Prop}
theorem pe_fldK (hk : X.K = K) (he : PE X e ta) (hb : attributeBase e f X.env (eval e X.env) = eval e X.env) : PE X (.Attribute e f pos) (tFld K ta f) := hk ▸ pe_fld he hb
theorem ixK (hk : X.K = K) : IxR X (rIx K) := hk ▸ ix_seq
theorem slK (hk : X.K = K) : SlR X (rSlL K) := hk ▸ sl_list
theorem addK (hk : X.K = K) : OpR X (binaryOp .Add) (rAddA K) := hk ▸ oAdd
theorem eqK (hk : X.K = K) (hu : X.A.units + 64 < cLine) : OpR X (compareOp .Eq) (rEqA K) := hk ▸ oEq hu
theorem neK (hk : X.K = K) (hu : X.A.units + 64 < cLine) : OpR X (compareOp .NotEq) (rNeA K) := hk ▸ oNe hu
theorem notInK (hk : X.K = K) : OpR X (compareOp .NotIn) (rIn K true) := hk ▸ op_notIn_seq
theorem lenK (hk : X.K = K) : CallR X (.builtin "len") (rLenA K) := hk ▸ cLen
theorem listK (hk : X.K = K) : CallR X (.type "list") (rListA K) := hk ▸ cList
theorem tupK (hk : X.K = K) : CallR X (.type "tuple") (rTupA K) := hk ▸ cTup
theorem isiK (hk : X.K = K) : CallR X (.builtin "isinstance") (rIsi K) := hk ▸ call_isi
theorem allK (hk : X.K = K) (hc : X.calm = true) : CallR X (.builtin "all") (rAll K) := hk ▸ cr_all hc
theorem pi_listK {tl : TE} (hk : X.K = K) (hl : PE X o tl) : PI X tg o (iList K tl) := hk ▸ pi_list hl
theorem pi_tupK {tl : TE} (hk : X.K = K) (hl : PE X o tl) : PI X tg o (iTup K tl) := hk ▸ pi_tup hl
theorem pa_starK (hk : X.K = K) (he : PE X e te) (hr : PA X es t) (hs : starEach (.Starred e p :: es) X.env = (true, eval e X.env) :: starEach es X.env := by rfl) : PA X (.Starred e p :: es) (tStar K te t) := hk ▸ pa_star he hr hs
theorem pg_tupK {k : Nat} {t : TGs} {n : Nat} (hk : X.K = K) (hc : X.calm = true) (h : PGs X es t)
    (hn : (assignEach es X.env).length = n := by rfl) (hst : (assignEach es X.env).findIdx? (·.1) = none := by rfl) : PG X (.Tuple es k pos) (gTup K n t) := hk ▸ pg_tup hc h hn hst
theorem pe_bmK (hk : X.K = K) (pa : PlainAttrs T) (slot : Slot T name id) (hty : typeOf (.builtin id) = pure (.type "method_descriptor")) (hm : MtR X id r) (ho : PE X o to) (ha : PA X (e :: es) t)
    (hbase : attributeBase o name X.env (eval o X.env) = eval o X.env := by rfl)
    (hfew : ((backTo cpos (starEach (e :: es) X.env)).all (fun x => !x.1) && (backToKw cpos (keywordEach [] X.env)).all (fun x => x.1.isSome)
      && decide ((e :: es).length + ([] : List Keyword).length + (if ([] : List Keyword).isEmpty then 0 else 1) < 30)) = true := by rfl)
    (hline : (apos.endLine == cpos.line) = true := by rfl) (hs : starEach (e :: es) X.env = (false, eval e X.env) :: starEach es X.env := by rfl) (hplain : (backTo cpos (starEach es X.env)).any (·.1) = false := by rfl) :
    PE X (.Call (.Attribute o name apos) (e :: es) [] cpos) (tBM K T r to t) := hk ▸ pe_bm pa slot hty hm ho ha hbase hfew hline hs hplain
end
/-- the loop of Text.retyped -/
def RtPv (K : PySem.W.Frag) (H : Hp) (a l : Addr) (k c : Nat) (ss : List Stp) (i : Nat) (σ : St) (H' : Hp) : Prop := ∃ ys v5 v6 v7, σ = [some (.ref a), some (.int k), some (.str ⟨#[c]⟩), some (.ref l), some (.int (tyL (ss.take i)).length), v5, v6, v7] ∧ Same H H' ∧ H l = none ∧ H' l = some (.lst ys) ∧ StepsAt K H' ys (rt k c 0 (ss.take i))
theorem RtPv.next {K : PySem.W.Frag} {H Hx : Hp} {a l p : Addr} {k c i : Nat} {ss : List Stp} {s : Stp} {ys : List V} {v6 v7 : Option V} (hs : ss[i]? = some s) (S : Same H Hx) (hl : H l = none) (e : Hx l = some (.lst ys)) (h : StepsAt K Hx ys (rt k c 0 (ss.take i))) (hp : SqT K Hx p (stV (rt1 k c (tyL (ss.take i)).length s))) (few : ss.length ≤ 30)
    {n : Nat} (hn : n = (tyL (ss.take i)).length + (ty1 s).length) {R : Hp → Prop} (q : ∀ H2, RtPv K H a l k c ss (i + 1) [some (.ref a), some (.int k), some (.str ⟨#[c]⟩), some (.ref l), some (.int n), some (.ref p), v6, v7] H2 → R H2) : rAppend (.ref l) [.ref p] Hx fun _ H2 => R H2 := by
  have hi : i < ss.length := (List.getElem?_eq_some_iff.mp hs).1
  refine rd_append e ?_ (q _ ?_)
  · rw [h.1, rt_length, List.length_take]; have := line30; omega
  · have B : But l Hx (upd Hx l (.lst (ys ++ [.ref p]))) := But.at But.refl
    have f := free1_lst e
    refine ⟨ys ++ [.ref p], some (.ref p), v6, v7, ?_, Same.mut S hl, hl, upd_same, ?_⟩
    · rw [tyL_take hs, List.length_append, hn]
    · rw [rt_take hs]
      exact (B.steps f h).append (StepAt.one' ⟨p, rfl, B.tup f hp⟩)
end L2.Px
set_option Elab.async false
set_option linter.all false
set_option maxRecDepth 100000
set_option maxHeartbeats 1000000
namespace L2.Px
open PySem PySem.Spec PyProof.Rows StX TL
/-- the shape of the row -/
def isRow : HO → Prop
  | .lst [.ref _, .int _, .int _, .int _] => True
  | _ => False
/-- all but rows is as it was, and rows keep what they draw from -/
structure Kp (H H' : Hp) : Prop where
  keep : ∀ b o, ¬ isRow o → H b = some o → H' b = some o
  rows : ∀ (b sa : Addr) (i s e : Int), H b = some (.lst [.ref sa, .int i, .int s, .int e]) → ∃ i' s' e' : Int, H' b = some (.lst [.ref sa, .int i', .int s', .int e'])
instance {H H' : Hp} : CoeFun (Kp H H') (fun _ => ∀ b o, ¬ isRow o → H b = some o → H' b = some o) := ⟨Kp.keep⟩
structure RowAt (K : PySem.W.Frag) (H : Hp) (r : Addr) : Prop where
  ex : ∃ (sa : Addr) (sc : List Int) (i : Nat) (s e : Int), H r = some (.lst [.ref sa, .int i, .int s, .int e]) ∧ SqL K H sa (sc.map V.int)
section
variable {K : PySem.W.Frag} {H H' H1 : Hp} {a r p : Addr} {xs ys : List V} {o : HO} {v : V} {s : Stp} {ms ps : List V} {ss : List Stp} {CT CP : Addr} {t : TxI}
theorem Kp.refl : Kp H H := ⟨fun _ _ _ h => h, fun _ _ _ _ _ h => ⟨_, _, _, h⟩⟩
theorem Kp.trans (a : Kp H H1) (b : Kp H1 H') : Kp H H' := ⟨fun c o hc h => b.keep c o hc (a.keep c o hc h), fun c sa i s e h => let ⟨i', s', e', h'⟩ := a.rows c sa i s e h; b.rows c sa i' s' e' h'⟩
theorem Kp.same (e : Same H H') : Kp H H' := ⟨fun b o _ h => e b o h, fun b _ _ _ _ h => ⟨_, _, _, e b _ h⟩⟩
theorem Kp.new (e : Kp H H') (hp : H' p = none) : Kp H (upd H' p o) := e.trans (Kp.same (Same.new (Same.refl _) hp))
/-- the row is written -/
theorem Kp.row (e : Kp H H') {sa : Addr} {i s n i' s' n' : Int} (h : H' r = some (.lst [.ref sa, .int i, .int s, .int n])) : Kp H (upd H' r (.lst [.ref sa, .int i', .int s', .int n'])) := by
  refine e.trans ⟨fun b w hw q => ?_, fun b sb i1 s1 n1 q => ?_⟩
  · rw [upd_ne fun z => by subst z; rw [h] at q; cases q; exact hw trivial]; exact q
  · by_cases hb : b = r
    · subst hb; rw [h] at q; cases q; exact ⟨_, _, _, upd_same⟩
    · exact ⟨_, _, _, by rw [upd_ne hb]; exact q⟩
theorem Kp.mut (e : Kp H H') (h : H p = none) : Kp H (upd H' p o) :=
  ⟨fun b w hw q => by rw [upd_ne (ne_of_none q h)]; exact e.keep b w hw q, fun b sa i s n q => let ⟨i', s', e', h'⟩ := e.rows b sa i s n q; ⟨i', s', e', by rw [upd_ne (ne_of_none q h)]; exact h'⟩⟩
theorem nr_tup : ¬ isRow (.tup xs) := id
theorem nr_ins {C dx : Addr} {fs : List (Str × V)} : ¬ isRow (.ins C dx fs) := id
theorem nr_frz {u : HO} {o' : Obj} : ¬ isRow (.frz o' u) := id
def isRef : V → Bool
  | .ref _ => true
  | _ => false
theorem nr_refs (h : ∀ v ∈ xs, isRef v = true) : ¬ isRow (.lst xs) := by
  intro z
  unfold isRow at z
  split at z
  · rename_i e
    simp only [HO.lst.injEq] at e
    subst e
    have := h _ (List.mem_cons_of_mem _ List.mem_cons_self)
    cases this
  · exact z
theorem nr_vals (h : ∀ v ∈ xs, isRef v = false) : ¬ isRow (.lst xs) := by
  intro z
  unfold isRow at z
  split at z
  · rename_i e
    simp only [HO.lst.injEq] at e
    subst e
    have := h _ List.mem_cons_self
    cases this
  · exact z
theorem nr_ints {l : List Int} : ¬ isRow (.lst (l.map V.int)) := nr_vals fun v hv => by obtain ⟨i, _, rfl⟩ := List.mem_map.mp hv; rfl
theorem Kp.tup (e : Kp H H') (h : SqT K H a xs) : SqT K H' a xs := by
  rcases h with (h | ⟨o, h⟩) | h
  · exact .inl (.inl (e _ _ nr_tup h))
  · exact .inl (.inr ⟨o, e _ _ nr_frz h⟩)
  · exact .inr h
theorem Kp.lst (e : Kp H H') (n : ¬ isRow (.lst xs)) (h : SqL K H a xs) : SqL K H' a xs := by
  rcases h with (h | ⟨o, h⟩) | h
  · exact .inl (.inl (e _ _ n h))
  · exact .inl (.inr ⟨o, e _ _ nr_frz h⟩)
  · exact .inr h
theorem RowAt.mono (h : RowAt K H r) (e : Same H H') : RowAt K H' r := let ⟨sa, sc, i, s, n, a, b⟩ := h.ex; ⟨sa, sc, i, s, n, e _ _ a, e.seq b⟩
theorem StepAt.kp (h : StepAt K H v s) (e : Kp H H') : StepAt K H' v s := let ⟨a, ev, q⟩ := h; ⟨a, ev, e.tup q⟩
theorem StepsAt.kp (h : StepsAt K H ms ss) (e : Kp H H') : StepsAt K H' ms ss := ⟨h.1, fun j s q => let ⟨v, a, b⟩ := h.2 j s q; ⟨v, a, b.kp e⟩⟩
theorem StepsAt.refs (h : StepsAt K H ms ss) : ∀ v ∈ ms, isRef v = true := by
  intro v hv
  obtain ⟨j, hj, rfl⟩ := List.getElem_of_mem hv
  obtain ⟨s, _, a, e, _⟩ := h.at (List.getElem?_eq_getElem hj)
  rw [e]; rfl
theorem PartAt.kp {n y : Nat} (h : PartAt CP H v n y s) (e : Kp H H') : PartAt CP H' v n y s := by
  cases s with
  | wr w => obtain ⟨p, dx, ev, q⟩ := h; exact ⟨p, dx, ev, e _ _ nr_ins q⟩
  | pa f l t => obtain ⟨p, dx, ev, q⟩ := h; exact ⟨p, dx, ev, e _ _ nr_ins q⟩
theorem PartsAt.refs (h : PartsAt CP H ps ss) : ∀ v ∈ ps, isRef v = true := by
  intro v hv
  obtain ⟨j, hj, rfl⟩ := List.getElem_of_mem hv
  have hj' : j < ss.length := by rw [← h.1]; exact hj
  obtain ⟨v, e1, e2⟩ := h.2 j _ (List.getElem?_eq_getElem hj')
  rw [List.getElem?_eq_getElem hj] at e1
  cases e1
  cases hs : ss[j] with
  | wr w => rw [hs] at e2; obtain ⟨p, dx, ev, q⟩ := e2; rw [ev]; rfl
  | pa f l t => rw [hs] at e2; obtain ⟨p, dx, ev, q⟩ := e2; rw [ev]; rfl
theorem PartsAt.kp (h : PartsAt CP H ps ss) (e : Kp H H') : PartsAt CP H' ps ss := ⟨h.1, fun j s q => let ⟨v, a, b⟩ := h.2 j s q; ⟨v, a, b.kp e⟩⟩
theorem TextAt.kp (h : TextAt K CT CP H a t) (e : Kp H H') : TextAt K CT CP H' a t := ⟨e _ _ nr_ins h.ins, e.tup h.made, h.stp.kp e, e _ _ (nr_refs h.prt.refs) h.pls, h.prt.kp e, h.ok, h.few⟩
end
theorem take_fin {many : Nat} (h : 1 ≤ many) (x : Int) {Q : VK} {H : Hp} (k : ∀ n : Nat, n < many → Q (.int n) H) : Q (.int (x % (many : Nat))) H := by
  have h1 : 0 ≤ x % (many : Int) := Int.emod_nonneg x (by omega)
  have h2 : x % (many : Int) < (many : Int) := Int.emod_lt_of_pos x (by omega)
  have := k (x % (many : Int)).toNat (by omega)
  rw [Int.toNat_of_nonneg h1] at this
  exact this
theorem row_put {K : PySem.W.Frag} {H H' : Hp} {r sa : Addr} {sc : List Int} {i j : Nat} {s e s' e' : Int} (S : Kp H H') (h : H' r = some (.lst [.ref sa, .int i, .int s, .int e])) (hs : SqL K H' sa (sc.map V.int)) :
    Kp H (upd H' r (.lst [.ref sa, .int j, .int s', .int e'])) ∧ upd H' r (.lst [.ref sa, .int j, .int s', .int e']) r = some (.lst [.ref sa, .int j, .int s', .int e']) ∧ SqL K (upd H' r (.lst [.ref sa, .int j, .int s', .int e'])) sa (sc.map V.int) :=
  ⟨S.row h, upd_same, (Kp.refl.row h).lst nr_ints hs⟩
section
variable (K : PySem.W.Frag)
def sp_x_law_taken : Sp := fun vs H Q _ => ∃ (r : Addr) (many : Nat), vs = [.ref r, .int many] ∧ RowAt K H r ∧ 1 ≤ many ∧ many < 1073741824 ∧ ∀ (n : Nat) H', n < many → Kp H H' → RowAt K H' r → Q (.int n) H'
def okWord (w : Str) (m : Nat) : Prop := 1 ≤ w.length ∧ w.length ≤ m ∧ ∀ c ∈ tl w, c = 97 ∨ c = 98 ∨ c = 99 ∨ c = 122
def sp_x_law_word : Sp := fun vs H Q _ => ∃ (r : Addr) (most : Nat), vs = [.ref r, .int most] ∧ RowAt K H r ∧ 1 ≤ most ∧ most ≤ 20 ∧ ∀ (w : Str) H', okWord w most → Kp H H' → RowAt K H' r → Q (.str w) H'
/-- typed as a, b, c, z -/
def okLs (ss : List Stp) : Prop := ∀ c ∈ tyL ss, c = 97 ∨ c = 98 ∨ c = 99 ∨ c = 122
def sp_x_law_steps : Sp := fun vs H Q _ => ∃ (r : Addr) (count most : Nat), vs = [.ref r, .int count, .int most] ∧ RowAt K H r ∧ count ≤ 30 ∧ 1 ≤ most ∧ most ≤ 1000 ∧
  ∀ a ms ss H', Kp H H' → RowAt K H' r → SqT K H' a ms → StepsAt K H' ms ss → okFrom 0 ss → ss.length ≤ count → sz ss ≤ most → (1 ≤ count → 20 ≤ most → 1 ≤ sz ss) → okLs ss → Q (.ref a) H'
end
end L2.Px
namespace L2.Px
open PySem PySem.Spec PyProof.Rows StX TL
theorem pickL {l : List Nat} {n : Nat} (hn : n < l.length) : ∃ m : Nat, (l.map fun m => V.int (m : Nat))[n]? = some (.int m) ∧ m ∈ l :=
  ⟨l[n], by rw [List.getElem?_map, List.getElem?_eq_getElem hn]; rfl, List.getElem_mem hn⟩
theorem three_line : 3 ≤ sizeLine := by rw [sizeLine_eq]; decide
theorem one_line : 1 ≤ sizeLine := by rw [sizeLine_eq]; decide
theorem nr_nats {l : List Nat} : ¬ isRow (.lst (l.map fun m => V.int (m : Nat))) := nr_vals fun v hv => by obtain ⟨i, _, rfl⟩ := List.mem_map.mp hv; rfl
theorem StepsAt.snoc {K : PySem.W.Frag} {H : Hp} {ms : List V} {ss : List Stp} {v : V} {s : Stp} (h : StepsAt K H ms ss) (g : StepAt K H v s) : StepsAt K H (ms ++ [v]) (ss ++ [s]) := h.append (.one g)
theorem StepsAt.nil {K : PySem.W.Frag} {H : Hp} : StepsAt K H [] [] := ⟨rfl, fun j s h => by simp at h⟩
theorem ok_snoc {ss : List Stp} {s : Stp} (ok : okFrom 0 ss) (h : okStep (sz ss) s) (hz : sz ss + len1 s ≤ 1000000000000000000) : okFrom 0 (ss ++ [s]) := by
  rw [okFrom_append, Nat.zero_add]
  exact ⟨ok, h, hz, trivial⟩
theorem sz_snoc (ss : List Stp) (s : Stp) : sz (ss ++ [s]) = sz ss + len1 s := by rw [sz_append]; simp [sz]
theorem okWord.step {w : Str} {m n : Nat} (h : okWord w m) (hm : m ≤ 20) : okStep n (.wr w) := ⟨h.1, Nat.le_trans h.2.1 hm, fun c hc => by rcases h.2.2 c hc with e | e | e | e <;> omega⟩
theorem rd_ifOr {t u : TT} {st su : TS} {D : Ends} {σ : St} {H : Hp} (P : Hp → Prop) (ha : ∀ Hc, P Hc → st D σ Hc) (h : (∀ Hc, P Hc → (if true = true then st D σ Hc else su D σ Hc)) → tOr t u σ H fun b H1 => if b = true then st D σ H1 else su D σ H1) : tIfS (tOr t u) st su D σ H := h (fun Hc p => by rw [if_pos rfl]; exact ha Hc p)
theorem okLs.wr {ss : List Stp} {x : Str} {m : Nat} (h : okLs ss) (hx : okWord x m) : okLs (ss ++ [.wr x]) := fun c hc => by
  rw [tyL_append] at hc
  rcases List.mem_append.mp hc with hc | hc
  · exact h c hc
  · exact hx.2.2 c (by simpa [tyL, ty1] using hc)
theorem okLs.pa {ss : List Stp} {f l t : Nat} (h : okLs ss) : okLs (ss ++ [.pa f l t]) := fun c hc => by
  rw [tyL_append] at hc
  rcases List.mem_append.mp hc with hc | hc
  · exact h c hc
  · simp [tyL, ty1] at hc
/-- _law_steps's loop -/
def LsPv (K : PySem.W.Frag) (H : Hp) (r : Addr) (count most i : Nat) (σ : St) (H' : Hp) : Prop := ∃ l ms ss v5 v6 v7 v8 v9, σ = [some (.ref r), some (.int (count : Nat)), some (.int (most : Nat)), some (.ref l), some (.int (sz ss : Nat)), v5, v6, v7, v8, v9] ∧ Kp H H' ∧ RowAt K H' r ∧ H' l = some (.lst ms) ∧ StepsAt K H' ms ss ∧ okFrom 0 ss ∧ ss.length ≤ i ∧ sz ss ≤ most ∧ (1 ≤ i → 20 ≤ most → 1 ≤ sz ss) ∧ okLs ss
end L2.Px
set_option Elab.async false
set_option linter.all false
set_option maxRecDepth 100000
set_option maxHeartbeats 1000000
namespace L2.Px
open PySem PySem.Spec PyProof.Rows StX
/-- what a class must have for == and != by its own __eq__ -/
structure EOwn (K : PySem.W.Frag) (C f : Addr) : Prop where
  at_ : PySem.W.findIn K (.ref C) "__eq__" = some (some (.ref f))
  fn : PySem.W.isFn K (.ref f) = true
  n1 : PySem.W.notFirst K C (.ref C) = true
  n2 : PySem.W.notFirst K C (.type "tuple") = true
  ne : PySem.W.findIn K (.ref C) "__ne__" = some (some (.builtin "object.__ne__"))
  obj : PySem.W.mroIn K C (.type "object") = some true
section
variable {X : Cx} {CX : CXT} {k : Nat} {C f : Addr} {sp : Sp} {E : XK}
def rEqO (K : PySem.W.Frag) (C : Addr) (sp : Sp) (E : XK) : R2 := fun x y H Q => ∃ a b, x = .ref a ∧ y = .ref b ∧ InsA H a C ∧ (InsA H b C ∨ ∃ xs, SqT K H b xs) ∧ sp [.ref a, .ref b] H Q E
def rNeO (C : Addr) (sp : Sp) (E : XK) : R2 := fun x y H Q => ∃ a b, x = .ref a ∧ y = .ref b ∧ InsA H a C ∧ InsA H b C ∧ sp [.ref a, .ref b] H (fun v H' => ∃ k, v = .bl k ∧ Q (.bl (!k)) H') E
theorem op_eqO (b : EOwn X.K C f) (F : FnR X.prog X.w X.K X.mg X.base CX k f sp) (hr : Room k X.A) (hx : Passes CX X E) : OpR X (compareOp .Eq) (rEqO X.K C sp E) := by
  intro pins s σ H x y v u Q I rx ry h
  obtain ⟨a, c, rfl, rfl, ia, ic, q⟩ := h
  obtain rfl : v = Value.ref a := rx
  obtain rfl : u = Value.ref c := ry
  obtain ⟨ox, od, J⟩ := ia.at I
  obtain ⟨m, Fr0⟩ := I.fr
  have hu : X.A.units < cLine := by have := hr.units; omega
  have main : wpAny (model X.prog X.w) X.A (call (.ref f) [.ref a, .ref c]) (PySem.W.CmpBack (EP X pins σ Q)) X.xe s :=
    wpAny_call (codeAny_mono (run_fnR (us := [.ref a, .ref c]) (vs := [.ref a, .ref c]) F hr hx I (.cons rfl (.cons rfl .nil)) q) fun r s' hq => by
      cases r with
      | error e => exact hq
      | ok fl =>
        cases fl with
        | ret w =>
          obtain ⟨v', H', I', rv, q'⟩ := hq
          exact ncb rv ⟨v', H', I', rv, q'⟩
        | next => exact hq
        | brk => exact hq
        | cont => exact hq)
  show wpAny (model X.prog X.w) X.A (richCompare .Eq (.ref a) (.ref c)) (EP X pins σ Q) X.xe s
  rcases ic with ic | ⟨xs, hq⟩
  · obtain ⟨oy, od', J'⟩ := ic.at I
    exact PySem.W.cmp_K (op := .Eq) hu Fr0 I.ok.mod.kin J J'.type b.n1 b.at_ b.fn main
  · obtain ⟨its, rv, p, hz⟩ := I.tuple hq
    obtain ⟨o, ho, hc⟩ : ∃ o, s.heap.get? c = some o ∧ o.cls = .type "tuple" := by
      obtain ⟨o, ho, hc, _⟩ := p
      exact ⟨o, ho, hc⟩
    have ty : PySem.W.Looks (model X.prog X.w) s.heap (typeOf (.ref c)) o.cls := (PySem.W.Looks.ld ho).andThen .now
    rw [hc] at ty
    exact PySem.W.cmp_K (op := .Eq) hu Fr0 I.ok.mod.kin J ty b.n2 b.at_ b.fn main
theorem oEqO (G : XOk X.prog X.w X.K X.mg X.base CX k (EOwn X.K C) sp) (hr : Room k X.A) (hx : Passes CX X E) : OpR X (compareOp .Eq) (rEqO X.K C sp E) := let ⟨_, F, r⟩ := G; op_eqO r F hr hx
theorem rd_eqO {K : PySem.W.Frag} {a b : Addr} {H : Hp} {Q : VK} (i : InsA H a C) (j : InsA H b C) (h : sp [.ref a, .ref b] H Q E) : rEqO K C sp E (.ref a) (.ref b) H Q := ⟨a, b, rfl, rfl, i, .inl j, h⟩
theorem rd_eqOT {K : PySem.W.Frag} {a b : Addr} {H : Hp} {Q : VK} {xs : List V} (i : InsA H a C) (j : SqT K H b xs) (h : sp [.ref a, .ref b] H Q E) : rEqO K C sp E (.ref a) (.ref b) H Q := ⟨a, b, rfl, rfl, i, .inr ⟨xs, j⟩, h⟩
theorem rd_neO {a b : Addr} {H : Hp} {Q : VK} (i : InsA H a C) (j : InsA H b C) (h : sp [.ref a, .ref b] H (fun v H' => ∃ k, v = .bl k ∧ Q (.bl (!k)) H') E) : rNeO C sp E (.ref a) (.ref b) H Q := ⟨a, b, rfl, rfl, i, j, h⟩
end
end L2.Px
namespace L2.Px
open PySem PySem.Spec PyProof.Rows StX TL
/-- data whose depth is at most n -/
def DOk (n : Nat) (d : PyData) : Prop := d.canLay0 = true ∧ d.depth ≤ n
def DOkAll (n : Nat) (ds : List PyData) : Prop := PyData.canLayAll0 ds = true ∧ PyData.depthAll ds ≤ n
theorem DOk.shaped {n : Nat} {d : PyData} (h : DOk n d) (hn : n ≤ 64 := by decide) : SeqAt.shaped d = true := by
  unfold SeqAt.shaped
  rw [h.1, Bool.true_and]
  exact decide_eq_true (Nat.le_trans h.2 hn)
theorem DOkAll.of {n : Nat} {ds : List PyData} (h : ∀ d ∈ ds, DOk n d) : DOkAll n ds := by
  induction ds with
  | nil => exact ⟨by simp [PyData.canLayAll0], by simp [PyData.depthAll]⟩
  | cons d ds ih =>
    have h1 := h d List.mem_cons_self
    have h2 := ih fun e he => h e (List.mem_cons_of_mem _ he)
    refine ⟨by simp only [PyData.canLayAll0, Bool.and_eq_true]; exact ⟨h1.1, h2.1⟩, ?_⟩
    have a := h1.2; have b := h2.2
    simp only [PyData.depthAll]
    omega
theorem DOk.lst {n : Nat} {ds : List PyData} (h : ∀ d ∈ ds, DOk n d) : DOk (n + 1) (.list ds) := by
  have := DOkAll.of h
  exact ⟨by simp only [PyData.canLay0]; exact this.1, by simp only [PyData.depth]; have := this.2; omega⟩
theorem DOk.tup {n : Nat} {ds : List PyData} (h : ∀ d ∈ ds, DOk n d) : DOk (n + 1) (.tuple ds) := by
  have := DOkAll.of h
  exact ⟨by simp only [PyData.canLay0]; exact this.1, by simp only [PyData.depth]; have := this.2; omega⟩
theorem DOk.int {i : Int} : DOk 0 (.int i) := ⟨by simp [PyData.canLay0], by simp [PyData.depth]⟩
theorem DOk.bool {i : Bool} : DOk 0 (.bool i) := ⟨by simp [PyData.canLay0], by simp [PyData.depth]⟩
theorem DOk.non : DOk 0 .none := ⟨by simp [PyData.canLay0], by simp [PyData.depth]⟩
theorem DOk.str {x : Str} (h : PySem.PyData.strOk x = true) : DOk 0 (.str x) := ⟨by simp [PyData.canLay0, h], by simp [PyData.depth]⟩
theorem DOk.mono {n m : Nat} {d : PyData} (h : DOk n d) (hn : n ≤ m) : DOk m d := ⟨h.1, Nat.le_trans h.2 hn⟩
end L2.Px
namespace L2.Px
open PySem PySem.Spec PyProof.Rows StX TL
theorem strOk_of {x : Str} (h : ∀ c ∈ tl x, c ≤ 122) : PySem.PyData.strOk x = true := by
  unfold PySem.PyData.strOk
  rw [Array.all_eq_true']
  intro c hc
  have := h c (show c ∈ x.cps.toList from Array.mem_toList_iff.mpr hc)
  exact decide_eq_true (by omega)
def stD : Stp → PyData
  | .wr w => .tuple [.str "write", .str w]
  | .pa f l t => .tuple [.str "paste", .int f, .int l, .int t]
theorem stD_eq (s t : Stp) : PyData.eqv (stD s) (stD t) = decide (s = t) := by
  cases s <;> cases t <;> simp [stD, PyData.eqv, PyData.eqvAll, Bool.beq_eq_decide_eq, Int.natCast_inj]
theorem stDs_eq : ∀ a b : List Stp, PyData.eqvAll (a.map stD) (b.map stD) = decide (a = b)
  | [], [] => by simp [PyData.eqvAll]
  | [], _ :: _ => by simp [PyData.eqvAll]
  | _ :: _, [] => by simp [PyData.eqvAll]
  | s :: a, t :: b => by
    simp only [List.map_cons, PyData.eqvAll, stD_eq, stDs_eq a b]
    by_cases h : s = t <;> by_cases h2 : a = b <;> simp [h, h2]
section
variable {K : PySem.W.Frag} {H : Hp} {v w : V} {s : Stp} {ms xs : List V} {ss : List Stp} {ds : List PyData} {Q : VK} {n : Nat} {d : PyData}
theorem StepAt.dp (h : StepAt K H v s) : Dp K H v (stD s) := by
  obtain ⟨a, rfl, q⟩ := h
  cases s with
  | wr w => exact .tup q (.cons (.str _) (.cons (.str _) .nil))
  | pa f l t => exact .tup q (.cons (.str _) (.cons (.int _) (.cons (.int _) (.cons (.int _) .nil))))
theorem dpAll_of (hl : xs.length = ds.length) (h : ∀ (i : Nat) (v : V) (d : PyData), xs[i]? = some v → ds[i]? = some d → Dp K H v d) : DpAll K H xs ds := by
  induction xs generalizing ds with
  | nil => cases ds with
    | nil => exact .nil
    | cons d ds => simp at hl
  | cons x xs ih =>
    cases ds with
    | nil => simp at hl
    | cons d ds => exact .cons (h 0 x d rfl rfl) (ih (by simpa using hl) fun i v d a b => h (i + 1) v d (by simpa using a) (by simpa using b))
theorem StepsAt.dp (h : StepsAt K H ms ss) : DpAll K H ms (ss.map stD) := by
  refine dpAll_of (by rw [List.length_map, h.1]) fun i v d a b => ?_
  rw [List.getElem?_map] at b
  obtain ⟨s, hs, rfl⟩ := Option.map_eq_some_iff.mp b
  obtain ⟨v', e1, e2⟩ := h.2 i s hs
  rw [a] at e1; cases e1
  exact e2.dp
theorem okStep.dok {m : Nat} (h : okStep m s) : DOk 1 (stD s) := by
  cases s with
  | wr w =>
    refine .tup (n := 0) fun d hd => ?_
    simp only [List.mem_cons, List.not_mem_nil, or_false] at hd
    rcases hd with rfl | rfl
    · exact .str (by decide +kernel)
    · exact .str (strOk_of fun c hc => (h.2.2 c hc).2)
  | pa f l t =>
    refine .tup (n := 0) fun d hd => ?_
    simp only [List.mem_cons, List.not_mem_nil, or_false] at hd
    rcases hd with rfl | rfl | rfl | rfl
    · exact .str (by decide +kernel)
    · exact .int
    · exact .int
    · exact .int
theorem steps_dok (ok : okFrom 0 ss) : DOk 2 (.tuple (ss.map stD)) := by
  refine .tup fun d hd => ?_
  obtain ⟨s, hs, rfl⟩ := List.mem_map.mp hd
  obtain ⟨i, hi, rfl⟩ := List.getElem_of_mem hs
  exact (ok_at ok (List.getElem?_eq_getElem hi)).1.dok
theorem dp_nats {l : List Nat} : DpAll K H (l.map fun m => V.int (m : Nat)) (l.map fun m => PyData.int (m : Nat)) := by
  induction l with
  | nil => exact .nil
  | cons x l ih => exact .cons (.int _) ih
theorem nats_dok {l : List Nat} : DOk 1 (.list (l.map fun m => PyData.int (m : Nat))) := .lst fun d hd => by obtain ⟨i, _, rfl⟩ := List.mem_map.mp hd; exact .int
structure ClsG (K : PySem.W.Frag) (C : Addr) : Prop where
  ha : PySem.W.findIn K (.ref C) "__class__" = some (some (.builtin "object.__class__"))
  hn : PySem.W.specialIn K (.builtin "object.__class__") "__get__" = some (some (.builtin "getset_descriptor.__get__"))
  ht : PySem.W.takesIn K (.builtin "object.__class__") = some true
  hm : PySem.W.mroIn K C (.type "object") = some true
theorem rd_isi_own {a C : Addr} {dx : Addr} {fs : List (Str × V)} {b : Bool} {D : Addr} (h : H a = some (.ins C dx fs)) (c : Cls K C) (g : ClsG K C) (e : PySem.W.kitOne K (.ref C) (.ref D) = some b) (q : Q (.bl b) H) : rIsi K [.ref a, .ref D] H Q := rd_isi (.own D) (TyX.base (.ins h c g.ha g.hn g.ht g.hm)) e q
theorem rd_isi_tupO {a : Addr} {b : Bool} {D : Addr} (h : SqT K H a xs) (e : PySem.W.kitOne K (.type "tuple") (.ref D) = some b) (q : Q (.bl b) H) : rIsi K [.ref a, .ref D] H Q := rd_isi (.own D) (ty_tup h) e q
variable (K) (CT CP : Addr)
def sp_Text_eq : Sp := fun vs H Q _ => ∃ a b t, vs = [.ref a, .ref b] ∧ TextAt K CT CP H a t ∧ ((∃ u, TextAt K CT CP H b u ∧ Q (.bl (decide (t.ss = u.ss))) H) ∨ ∃ xs, SqT K H b xs ∧ Q (.bl false) H)
end
end L2.Px
set_option Elab.async false
set_option linter.all false
set_option maxRecDepth 100000
set_option maxHeartbeats 1000000
namespace L2.Px
open PySem PySem.Spec PyProof.Rows StX TL
/-- alike, to a depth: equal ints or texts, or tuples (lists) of alike items -/
def Al (K : PySem.W.Frag) (H : Hp) : Nat → V → V → Prop
  | 0, _, _ => False
  | n + 1, v, w => (∃ i, v = .int i ∧ w = .int i) ∨ (∃ x, v = .str x ∧ w = .str x ∧ x.length ≤ sizeLine) ∨ ∃ a b xs ys, v = .ref a ∧ w = .ref b ∧ (SqT K H a xs ∧ SqT K H b ys ∨ SqL K H a xs ∧ SqL K H b ys) ∧ xs.length = ys.length ∧ xs.length ≤ sizeLine ∧ ∀ (i : Nat) x y, xs[i]? = some x → ys[i]? = some y → Al K H n x y
section
variable {K : PySem.W.Frag} {H H' : Hp} {Q : VK} {v w : V} {n : Nat} {xs : List V} {a : Addr}
theorem Al.mono (e : Same H H') : ∀ {n : Nat} {v w : V}, Al K H n v w → Al K H' n v w
  | 0, _, _, h => h.elim
  | n + 1, _, _, h => by
    rcases h with h | h | ⟨a, b, xs, ys, h1, h2, h3, h4, h5, h6⟩
    · exact .inl h
    · exact .inr (.inl h)
    · refine .inr (.inr ⟨a, b, xs, ys, h1, h2, ?_, h4, h5, fun i x y p q => Al.mono e (h6 i x y p q)⟩)
      rcases h3 with ⟨p, q⟩ | ⟨p, q⟩
      · exact .inl ⟨Same.tup e p, Same.tup e q⟩
      · exact .inr ⟨e.seq p, e.seq q⟩
end
end L2.Px
namespace L2.Px
open PySem PySem.Spec PyProof.Rows StX TL
section
variable {K : PySem.W.Frag} {H H' : Hp} {Q : VK} {v w : V} {n : Nat} {xs : List V} {a : Addr} {σ : St} {te ta tb : TE} {i j : Int} {tr : St → Hp → (Int → Int → Hp → Prop) → Prop}
theorem rd_listRg (h : tr σ H fun a b H1 => RgOk a b ∧ ∀ q, H1 q = none → Q (.ref q) (upd H1 q (.lst (rgV a b)))) : tLstRg tr σ H Q := h
theorem rd_rg1 {R : Int → Int → Hp → Prop} (h : ta σ H fun x H1 => ∃ n, x = .int n ∧ R 0 n H1) : tRg1 ta σ H R := h
theorem rd_rg2 {R : Int → Int → Hp → Prop} (h : ta σ H fun x H1 => tb σ H1 fun y H2 => ∃ i j, x = .int i ∧ y = .int j ∧ R i j H2) : tRg2 ta tb σ H R := h
theorem rd_mul_lst {k : Nat} (h : H a = some (.lst xs)) (hk : k < 2 ^ 62) (hz : xs.length * k ≤ sizeLine) (q : ∀ p, H p = none → Q (.ref p) (upd H p (.lst (List.replicate k xs).flatten))) : rMulA (.ref a) (.int k) H Q :=
  .inr ⟨a, k, xs, rfl, rfl, h, by omega, by omega, by rw [Int.toNat_natCast]; exact hz, by rw [Int.toNat_natCast]; exact q⟩
theorem cutV_nat (xs : List V) (i j : Nat) (hj : j ≤ xs.length) : cutV xs (some (i : Nat)) (some (j : Nat)) = (xs.drop i).take (j - i) := by
  unfold cutV
  rw [HT.sIx_nat, HT.sIx_nat, Nat.min_eq_left hj]
  rcases Nat.le_total i xs.length with h | h
  · rw [Nat.min_eq_left h]
  · rw [Nat.min_eq_right h, List.drop_of_length_le (Nat.le_refl _), List.drop_of_length_le h]; simp
end
theorem ks_take_wr {ss : List Stp} {j : Nat} {w : Str} (h : ss[j]? = some (.wr w)) : ks (ss.take (j + 1)) = ks (ss.take j) ++ List.range' (tyL (ss.take j)).length w.length := by
  unfold ks; rw [run_take h]; simp only [stepK]; rw [run_snd]
theorem ks_take_pa {ss : List Stp} {j f l t : Nat} (h : ss[j]? = some (.pa f l t)) : ks (ss.take (j + 1)) = ks (ss.take j) ++ (List.replicate t (((ks (ss.take j)).drop f).take (l - f + 1))).flatten := by
  unfold ks; rw [run_take h]; simp only [stepK]
theorem sz_take_le {ss : List Stp} (j : Nat) : sz (ss.take j) ≤ sz ss := by
  conv => rhs; rw [← List.take_append_drop j ss, sz_append]
  omega
end L2.Px
namespace L2.Px
open PySem PySem.Spec PyProof.Rows StX TL
section
variable {K : PySem.W.Frag} {H H' : Hp} {Q : VK} {v w : V} {n : Nat} {xs : List V} {a C : Addr} {σ : St} {ta tb : TE} {sp : Sp} {E : XK} {t : TA} {ss : List Stp} {ms : List V}
theorem rd_ixO (h : ta σ H fun x H1 => tb σ H1 fun y H2 => ∃ a, x = .ref a ∧ InsA H2 a C ∧ sp [x, y] H2 Q E) : tIxOwn C sp E ta tb σ H Q := h
theorem rd_ref1 {A : Addr → Prop} (h : A a) : ∃ a', V.ref a = .ref a' ∧ A a' := ⟨a, rfl, h⟩
theorem letters_ok : ∀ {ss : List Stp} {n : Nat}, okFrom n ss → ∀ c ∈ tyL ss, 97 ≤ c ∧ c ≤ 122
  | [], _, _, c, hc => by simp [tyL] at hc
  | .wr w :: r, n, ⟨h1, _, h3⟩, c, hc => by
    simp only [tyL, ty1, List.mem_append] at hc
    rcases hc with hc | hc
    · exact h1.2.2 c hc
    · exact letters_ok h3 c hc
  | .pa f l t :: r, n, ⟨h1, _, h3⟩, c, hc => by
    simp only [tyL, ty1, List.nil_append] at hc
    exact letters_ok h3 c hc
theorem Al.int {i : Int} : Al K H (n + 1) (.int i) (.int i) := .inl ⟨i, rfl, rfl⟩
theorem Al.str {x : Str} (h : x.length ≤ sizeLine) : Al K H (n + 1) (.str x) (.str x) := .inr (.inl ⟨x, rfl, rfl, h⟩)
theorem Al.step {s : Stp} {m : Nat} (ok : okStep m s) (h : StepAt K H v s) (g : StepAt K H w s) : Al K H (n + 2) v w := by
  obtain ⟨a, rfl, qa⟩ := h
  obtain ⟨b, rfl, qb⟩ := g
  refine .inr (.inr ⟨a, b, _, _, rfl, rfl, .inl ⟨qa, qb⟩, rfl, ?_, fun i x y hx hy => ?_⟩)
  · have := four_line
    cases s <;> simp [stV] <;> omega
  · rw [hx] at hy; cases hy
    have hm := List.mem_of_getElem? hx
    cases s with
    | wr w =>
      simp only [stV, List.mem_cons, List.not_mem_nil, or_false] at hm
      rcases hm with rfl | rfl
      · exact Al.str (str_small (by decide +kernel))
      · exact Al.str (str_small ok.2.1)
    | pa f l t =>
      simp only [stV, List.mem_cons, List.not_mem_nil, or_false] at hm
      rcases hm with rfl | rfl | rfl | rfl
      · exact Al.str (str_small (by decide +kernel))
      · exact Al.int
      · exact Al.int
      · exact Al.int
theorem Al.steps {a b : Addr} {xs ys : List V} (ok : okFrom 0 ss) (ha : SqT K H a xs) (hb : SqT K H b ys) (h : StepsAt K H xs ss) (g : StepsAt K H ys ss) (few : ss.length ≤ 31) : Al K H (n + 3) (.ref a) (.ref b) := by
  refine .inr (.inr ⟨a, b, _, _, rfl, rfl, .inl ⟨ha, hb⟩, by rw [h.1, g.1], by rw [h.1]; have := twenty_line; omega, fun i x y hx hy => ?_⟩)
  obtain ⟨s, hs, h1⟩ := h.at hx
  obtain ⟨s2, hs2, h2⟩ := g.at hy
  rw [hs] at hs2; cases hs2
  exact Al.step (ok_at ok hs).1 h1 h2
variable (K) (CT CP : Addr)
end
end L2.Px
namespace L2.Px
open PySem PySem.Spec PyProof.Rows StX TL
end L2.Px
namespace L2.Px
open PySem PySem.Spec PyProof.Rows StX TL
/-- the law itself: script's list is given -/
def sp_law (K : PySem.W.Frag) : Sp := fun vs H Q _ => ∃ (a : Addr) (sc : List Int), vs = [.ref a] ∧ SqL K H a (sc.map V.int) ∧ ∀ H', Q (.bl true) H'
end L2.Px
namespace L2.Px
open PySem PySem.Spec PyProof.Rows StX TL
def rJoin (K : PySem.W.Frag) : V → List V → Hp → VK → Prop := fun x xs H Q => ∃ a p, ∃ ys : List Str, x = .str a ∧ xs = [.ref p] ∧ (SqL K H p (ys.map V.str) ∨ SqT K H p (ys.map V.str)) ∧ (ys.map (·.length)).sum + ys.length * a.length ≤ 16777216 ∧ Q (.str (Txt.join a ys)) H
theorem pe_joinK {X : Cx} {K : PySem.W.Frag} {o e : Expr} {to te : TE} {apos pos : Pos} (hk : X.K = K) (ho : PE X o to) (he : PE X e te) (hs : starEach [e] X.env = [(false, eval e X.env)] := by rfl) (hbase : attributeBase o "join" X.env (eval o X.env) = eval o X.env := by rfl) (hline : (apos.endLine == pos.line) = true := by rfl) :
    PE X (.Call (.Attribute o "join" apos) [e] [] pos) (tM1 (rJoin K) to te) := hk ▸ pe_join ho he hs hbase hline
theorem rd_m1 {r : V → List V → Hp → VK → Prop} {to te : TE} {σ : St} {H : Hp} {Q : VK} (h : to σ H fun x H1 => (∃ a, x = .str a) ∧ te σ H1 fun y H2 => r x [y] H2 Q) : tM1 r to te σ H Q := h
end L2.Px
set_option Elab.async false
set_option linter.all false
set_option maxRecDepth 100000
set_option maxHeartbeats 1000000
namespace L2.Px
open PySem PySem.Spec PyProof.Rows StX TL
/-- the text of steps ss stands at a -/
def TX (K : PySem.W.Frag) (CT CP : Addr) (H : Hp) (a : Addr) (ss : List Stp) : Prop := ∃ t, TextAt K CT CP H a t ∧ t.ss = ss
/-- a list or a tuple of the steps ss -/
def SX (K : PySem.W.Frag) (H : Hp) (a : Addr) (ss : List Stp) : Prop := ∃ ms, (SqT K H a ms ∨ H a = some (.lst ms)) ∧ StepsAt K H ms ss
/-- a tuple of the steps ss -/
def TS' (K : PySem.W.Frag) (H : Hp) (a : Addr) (ss : List Stp) : Prop := ∃ ms, SqT K H a ms ∧ StepsAt K H ms ss
def natV (L : List Nat) : List V := L.map fun m => V.int (m : Nat)
def kat (ss : List Stp) (p : Nat) : Nat := (ks ss)[p]?.getD 0
def lat (ss : List Stp) (k : Nat) : Nat := (tyL ss)[k]?.getD 0
section
variable {K : PySem.W.Frag} {CT CP : Addr} {H H' : Hp} {Q : VK} {E : XK} {a b r : Addr} {ss tt : List Stp} {i j : Int} {v : V} {o : HO} {xs : List V} {L : List Nat}
theorem TX.kp (h : TX K CT CP H a ss) (e : Kp H H') : TX K CT CP H' a ss := let ⟨t, T, q⟩ := h; ⟨t, T.kp e, q⟩
theorem TX.ok (h : TX K CT CP H a ss) : okFrom 0 ss := let ⟨t, T, q⟩ := h; q ▸ T.ok
theorem TX.few (h : TX K CT CP H a ss) : ss.length ≤ 30 := let ⟨t, T, q⟩ := h; q ▸ T.few
theorem TX.insA (h : TX K CT CP H a ss) : InsA H a CT := let ⟨t, T, q⟩ := h; T.insA
theorem TX.insM {m : Str} (h : TX K CT CP H a ss) (hm : m ≠ "total" ∧ m ≠ "parts" ∧ m ≠ "typed" ∧ m ≠ "made" := by decide +kernel) : InsM H a CT m := let ⟨t, T, q⟩ := h; T.insM hm
theorem SX.kp (h : SX K H a ss) (e : Kp H H') : SX K H' a ss := let ⟨ms, q, s⟩ := h; ⟨ms, q.elim (fun q => .inl (e.tup q)) (fun q => .inr (e _ _ (nr_refs s.refs) q)), s.kp e⟩
theorem TS'.kp (h : TS' K H a ss) (e : Kp H H') : TS' K H' a ss := let ⟨ms, q, s⟩ := h; ⟨ms, e.tup q, s.kp e⟩
theorem TS'.sx (h : TS' K H a ss) : SX K H a ss := let ⟨ms, q, s⟩ := h; ⟨ms, .inl q, s⟩
theorem nr_natV {L : List Nat} : ¬ isRow (.lst (natV L)) := nr_nats
theorem natV_len (L : List Nat) : (natV L).length = L.length := List.length_map _
theorem tyL_600 (h : TX K CT CP H a ss) : (tyL ss).length ≤ 600 := by have := tyL_small h.ok; have := h.few; omega
theorem sl : sizeLine = 16777216 := sizeLine_eq
theorem kat_some (ok : okFrom 0 ss) {p : Nat} (h : p < sz ss) : (ks ss)[p]? = some (kat ss p) := by
  unfold kat; rw [List.getElem?_eq_getElem (by rw [ks_len ok]; exact h)]; rfl
theorem kat_lt (ok : okFrom 0 ss) {p : Nat} (h : p < sz ss) : kat ss p < (tyL ss).length := ks_lt (List.mem_of_getElem? (kat_some ok h))
theorem lat_some {k : Nat} (h : k < (tyL ss).length) : (tyL ss)[k]? = some (lat ss k) := by
  unfold lat; rw [List.getElem?_eq_getElem h]; rfl
theorem lat_let (ok : okFrom 0 ss) {k : Nat} (h : k < (tyL ss).length) : 97 ≤ lat ss k ∧ lat ss k ≤ 122 := letters_ok ok _ (List.mem_of_getElem? (lat_some h))
theorem new_of {P : Addr → Hp → Prop} (q : ∀ p H', Same H H' → H' p = some o → P p H') : ∀ p, H p = none → P p (upd H p o) := fun p hp => q p _ (Same.new (Same.refl _) hp) upd_same
theorem Same.lk (h : H a = some o) (s : Same H H') : H' a = some o := s _ _ h
theorem rd_taken (row : RowAt K H r) (h1 : 1 ≤ i) (h2 : i < 1073741824) (q : ∀ (n : Nat) H', (n : Int) < i → Kp H H' → RowAt K H' r → Q (.int n) H') : sp_x_law_taken K [.ref r, .int i] H Q E :=
  ⟨r, i.toNat, by rw [Int.toNat_of_nonneg (by omega)], row, by omega, by omega, fun n H' hn k w => q n H' (by omega) k w⟩
theorem rd_word (row : RowAt K H r) (h1 : 1 ≤ i) (h2 : i ≤ 20) (q : ∀ (w : Str) H', okWord w i.toNat → Kp H H' → RowAt K H' r → Q (.str w) H') : sp_x_law_word K [.ref r, .int i] H Q E :=
  ⟨r, i.toNat, by rw [Int.toNat_of_nonneg (by omega)], row, by omega, by omega, q⟩
theorem rd_stepsL (row : RowAt K H r) (h1 : 0 ≤ i) (h2 : i ≤ 30) (h3 : 20 ≤ j) (h4 : j ≤ 1000)
    (q : ∀ p ss H', Kp H H' → RowAt K H' r → TS' K H' p ss → okFrom 0 ss → (ss.length : Int) ≤ i → (sz ss : Int) ≤ j → (1 ≤ i → 1 ≤ sz ss) → Q (.ref p) H') : sp_x_law_steps K [.ref r, .int i, .int j] H Q E :=
  ⟨r, i.toNat, j.toNat, by rw [Int.toNat_of_nonneg (by omega), Int.toNat_of_nonneg (by omega)], row, by omega, by omega, by omega,
    fun p ms ss H' k w a b c d e f _ => q p ss H' k w ⟨ms, a, b⟩ c (by omega) (by omega) (fun z => f (by omega) (by omega))⟩
theorem rd_stepsQ (row : RowAt K H r) (h1 : 0 ≤ i) (h2 : i ≤ 30) (h3 : 20 ≤ j) (h4 : j ≤ 1000)
    (q : ∀ p ss H', Kp H H' → RowAt K H' r → TS' K H' p ss → okFrom 0 ss → (ss.length : Int) ≤ i → (sz ss : Int) ≤ j → (1 ≤ i → 1 ≤ sz ss) → okLs ss → Q (.ref p) H') : sp_x_law_steps K [.ref r, .int i, .int j] H Q E :=
  ⟨r, i.toNat, j.toNat, by rw [Int.toNat_of_nonneg (by omega), Int.toNat_of_nonneg (by omega)], row, by omega, by omega, by omega,
    fun p ms ss H' k w a b c d e f g => q p ss H' k w ⟨ms, a, b⟩ c (by omega) (by omega) (fun z => f (by omega) (by omega)) g⟩
theorem rd_listS (h : TS' K H a ss) (q : ∀ p H', Same H H' → SX K H' p ss → Q (.ref p) H') : rListA K [.ref a] H Q := by
  obtain ⟨ms, q1, st⟩ := h
  exact rd_list_tup q1 fun l hl => q l _ (Same.new (Same.refl _) hl) ⟨ms, .inr upd_same, st.mono (Same.new (Same.refl _) hl)⟩
theorem rd_ofSteps (h : SX K H a ss) (ok : okFrom 0 ss) (few : ss.length ≤ 30) (q : ∀ p H', Same H H' → TX K CT CP H' p ss → Q (.ref p) H') : sp_Text_of_steps K CT CP [.ref CT, .ref a] H Q E := by
  obtain ⟨ms, q1, st⟩ := h
  exact ⟨a, ms, ss, rfl, q1.elim .inl (fun z => .inr (SqL.of z)), st, ok, few, fun H' x t S T e => q x H' S ⟨t, T, e⟩⟩
theorem rd_pSize (h : TX K CT CP H a ss) (q : Q (.int (sz ss : Nat)) H) : ∃ a' dx fs, V.ref a = .ref a' ∧ H a' = some (.ins CT dx fs) ∧ sp_Text_size K CT CP [.ref a'] H Q E := by
  obtain ⟨t, T, rfl⟩ := h
  exact rd_prop_at T.insA ⟨a, t, rfl, T, q⟩
theorem rd_pTyped (h : TX K CT CP H a ss) (q : Q (.str (mkS (tyL ss))) H) : ∃ a' dx fs, V.ref a = .ref a' ∧ H a' = some (.ins CT dx fs) ∧ sp_Text_typed_keys K CT CP [.ref a'] H Q E := by
  obtain ⟨t, T, rfl⟩ := h
  exact rd_prop_at T.insA ⟨a, t, rfl, T, q⟩
theorem rd_pSteps (h : TX K CT CP H a ss) (q : ∀ p, TS' K H p ss → Q (.ref p) H) : ∃ a' dx fs, V.ref a = .ref a' ∧ H a' = some (.ins CT dx fs) ∧ sp_Text_steps K CT CP [.ref a'] H Q E := by
  obtain ⟨t, T, rfl⟩ := h
  exact rd_prop_at T.insA ⟨a, t, rfl, T, q _ ⟨t.ms, T.made, T.stp⟩⟩
theorem rd_keyOf (h : TX K CT CP H a ss) (h0 : 0 ≤ i) (h1 : i < sz ss) (q : Q (.int (kat ss i.toNat : Nat)) H) : sp_Text_key_of K CT CP [.ref a, .int i] H Q E := by
  have ok := h.ok
  obtain ⟨t, T, rfl⟩ := h
  exact ⟨a, t, i.toNat, _, by rw [Int.toNat_of_nonneg h0], T, kat_some ok (by omega), q⟩
theorem rd_oCall (h : TX K CT CP H a ss) (h0 : 0 ≤ i) (h1 : i < sz ss) (q : Q (.int (kat ss i.toNat : Nat)) H) : InsA H a CT ∧ sp_Text_call K CT CP [.ref a, .int i] H Q E := ⟨h.insA, rd_keyOf h h0 h1 q⟩
theorem rd_oItem (h : TX K CT CP H a ss) (h0 : 0 ≤ i) (h1 : i < sz ss) (q : Q (.str ⟨#[lat ss (kat ss i.toNat)]⟩) H) : ∃ a', V.ref a = .ref a' ∧ InsA H a' CT ∧ sp_Text_getitem K CT CP [.ref a, .int i] H Q E := by
  have ok := h.ok
  have hi : i.toNat < sz ss := by omega
  have hk := kat_lt ok hi
  obtain ⟨t, T, rfl⟩ := h
  exact ⟨a, rfl, T.insA, a, t, i.toNat, _, _, by rw [Int.toNat_of_nonneg h0], T, kat_some ok hi, lat_some hk, q⟩
theorem join_ok (h : TX K CT CP H a ss) (g : TX K CT CP H' b tt) (hz : sz ss + sz tt ≤ 1000000000000000000) : okFrom 0 (joinS ss tt) := ok_join h.ok g.ok hz
theorem rd_opAdd (h : TX K CT CP H a ss) (g : TX K CT CP H b tt) (hz : sz ss + sz tt ≤ 1000000000000000000) (hl : ss.length + tt.length ≤ 30)
    (q : ∀ p H', Same H H' → TX K CT CP H' p (joinS ss tt) → Q (.ref p) H') : rOwn CT (sp_Text_add K CT CP) E (.ref a) (.ref b) H Q := by
  have j := join_ok h g hz
  have ia := h.insA
  have ib := g.insA
  obtain ⟨t, T, rfl⟩ := h
  obtain ⟨u, U, rfl⟩ := g
  exact rd_own ia ib ⟨a, b, t, u, rfl, T, U, j, by rw [join_length]; exact hl, fun H' x z S Z e => q x H' S ⟨z, Z, e⟩⟩
theorem rd_opMul (h : TX K CT CP H a ss) (h1 : 1 ≤ i) (h2 : i ≤ 1000000000) (hz : (sz ss : Int) * i ≤ 1000000000000000000) (hl : ss.length + 1 ≤ 30)
    (q : ∀ p H', Same H H' → TX K CT CP H' p (mulS ss i.toNat) → Q (.ref p) H') : rOwnI CT (sp_Text_mul K CT CP) E (.ref a) (.int i) H Q := by
  have ok := h.ok
  have ia := h.insA
  obtain ⟨n, rfl⟩ : ∃ n : Nat, i = n := ⟨i.toNat, by omega⟩
  rw [Int.toNat_natCast] at q
  obtain ⟨t, T, rfl⟩ := h
  refine rd_ownI ia ⟨a, t, n, rfl, T, by omega, by omega, ok_mul ok (by omega) (by omega) (by rw [← Int.natCast_mul] at hz; omega), Nat.le_trans (mul_length _ _) hl, fun H' x z S Z e => q x H' S ⟨z, Z, e⟩⟩
theorem rd_mRetyped {k c : Nat} (h : TX K CT CP H a ss) (hk : k < (tyL ss).length) (hc : 97 ≤ c ∧ c ≤ 122) (q : ∀ p H', Same H H' → TX K CT CP H' p (rt k c 0 ss) → Q (.ref p) H') : sp_Text_retyped K CT CP [.ref a, .int (k : Nat), .str ⟨#[c]⟩] H Q E := by
  obtain ⟨t, T, rfl⟩ := h
  exact ⟨a, t, k, c, rfl, T, hk, hc.1, hc.2, fun H' x z S Z e => q x H' S ⟨z, Z, e⟩⟩
theorem rd_opEq (h : TX K CT CP H a ss) (g : TX K CT CP H b tt) (q : Q (.bl (decide (ss = tt))) H) : rEqO K CT (sp_Text_eq K CT CP) E (.ref a) (.ref b) H Q := by
  have ia := h.insA
  have ib := g.insA
  obtain ⟨t, T, rfl⟩ := h
  obtain ⟨u, U, rfl⟩ := g
  exact rd_eqO ia ib ⟨a, b, t, rfl, T, .inl ⟨u, U, q⟩⟩
theorem rd_opEqT (h : TX K CT CP H a ss) (g : TS' K H b tt) (q : Q (.bl false) H) : rEqO K CT (sp_Text_eq K CT CP) E (.ref a) (.ref b) H Q := by
  have ia := h.insA
  obtain ⟨t, T, rfl⟩ := h
  obtain ⟨ms, g, _⟩ := g
  exact rd_eqOT ia g ⟨a, b, t, rfl, T, .inr ⟨ms, g, q⟩⟩
theorem rd_opNe (h : TX K CT CP H a ss) (g : TX K CT CP H b tt) (q : Q (.bl (!decide (ss = tt))) H) : rNeO CT (sp_Text_eq K CT CP) E (.ref a) (.ref b) H Q := by
  have ia := h.insA
  have ib := g.insA
  obtain ⟨t, T, rfl⟩ := h
  obtain ⟨u, U, rfl⟩ := g
  exact rd_neO ia ib ⟨a, b, t, rfl, T, .inl ⟨u, U, _, rfl, q⟩⟩
theorem rd_andrfl {α : Type} {x : α} {A : Prop} (h : A) : x = x ∧ A := ⟨rfl, h⟩
theorem rd_mTx {m : Str} {ta : TA} {sp : Sp} {σ : St} (h : TX K CT CP H a ss) (hm : m ≠ "total" ∧ m ≠ "parts" ∧ m ≠ "typed" ∧ m ≠ "made") (q : ta σ H fun vs H2 => sp (.ref a :: vs) H2 Q E) : ∃ a', V.ref a = .ref a' ∧ InsM H a' CT m ∧ ta σ H fun vs H2 => sp (V.ref a :: vs) H2 Q E := rd_m_at (h.insM hm) q
theorem rd_lenN {l : Addr} (h : H l = some (.lst (natV L))) (q : Q (.int (L.length : Nat)) H) : rLenA K [.ref l] H Q := rd_len_lst (SqL.of h) (by rw [natV_len]; exact q)
theorem rd_lenL {l : Addr} (h : H l = some (.lst xs)) (q : Q (.int (xs.length : Nat)) H) : rLenA K [.ref l] H Q := rd_len_lst (SqL.of h) q
theorem rd_lenS {y : List Nat} (hz : y.length ≤ 16777216) (q : Q (.int (y.length : Nat)) H) : rLenA K [.str (mkS y)] H Q := rd_len_str (by rw [mkS_len, sizeLine_eq]; exact hz) (by rw [mkS_len]; exact q)
theorem rd_ixN {l : Addr} (h : H l = some (.lst (natV L))) (h0 : 0 ≤ i) (h1 : i < L.length) (q : Q (.int (L[i.toNat]?.getD 0 : Nat)) H) : rIx K (.ref l) (.int i) H Q := by
  obtain ⟨n, rfl⟩ : ∃ n : Nat, i = n := ⟨i.toNat, by omega⟩
  rw [Int.toNat_natCast] at q
  refine rd_ixLn (SqL.of h) ?_ q
  unfold natV
  rw [List.getElem?_map, List.getElem?_eq_getElem (by omega)]
  rfl
theorem rd_ixC {y : List Nat} (hz : y.length ≤ 16777216) (h0 : 0 ≤ i) (h1 : i < y.length) (q : Q (.str ⟨#[y[i.toNat]?.getD 0]⟩) H) : rIx K (.str (mkS y)) (.int i) H Q := by
  obtain ⟨n, rfl⟩ : ∃ n : Nat, i = n := ⟨i.toNat, by omega⟩
  rw [Int.toNat_natCast] at q
  refine rd_ixSn (by rw [mkS_len, sizeLine_eq]; exact hz) ?_ q
  rw [tl_mkS, List.getElem?_eq_getElem (by omega)]
  rfl
theorem rd_eqTT (h : TS' K H a ss) (g : TS' K H b tt) (o1 : okFrom 0 ss) (o2 : okFrom 0 tt) (q : Q (.bl (decide (ss = tt))) H) : rEqA K (.ref a) (.ref b) H Q := by
  obtain ⟨ms, h1, st1⟩ := h
  obtain ⟨ns, h2, st2⟩ := g
  refine rd_eq_dat (.tup h1 st1.dp) (.tup h2 st2.dp) (steps_dok o1).shaped (steps_dok o2).shaped ?_
  simp only [PyData.eqv]
  rw [stDs_eq]
  exact q
theorem rd_neTT (h : TS' K H a ss) (g : TS' K H b tt) (o1 : okFrom 0 ss) (o2 : okFrom 0 tt) (q : Q (.bl (!decide (ss = tt))) H) : rNeA K (.ref a) (.ref b) H Q := by
  obtain ⟨ms, h1, st1⟩ := h
  obtain ⟨ns, h2, st2⟩ := g
  refine rd_ne_dat (.tup h1 st1.dp) (.tup h2 st2.dp) (steps_dok o1).shaped (steps_dok o2).shaped ?_
  simp only [PyData.eqv]
  rw [stDs_eq]
  exact q
theorem ts_nil {p : Addr} (e : H p = some (.tup [])) : TS' K H p [] := ⟨[], SqT.of e, StepsAt.nil⟩
def sgn (c : Nat) : Str := ⟨#[c]⟩
theorem joinL_one : ∀ l : List Nat, joinL [] (l.map fun c => [c]) = l
  | [] => rfl
  | [_] => rfl
  | x :: y :: r => by
    show [x] ++ ([] ++ joinL [] ((y :: r).map fun c => [c])) = x :: y :: r
    rw [joinL_one (y :: r)]; rfl
theorem join_signs (l : List Nat) : Txt.join "" (l.map sgn) = mkS l := by
  apply ext_tl
  rw [join_eq, tl_join, List.map_map, show tl ("" : Str) = [] from rfl, tl_mkS]
  exact joinL_one l
theorem sum_ones (l : List Nat) : ((l.map sgn).map (·.length)).sum = l.length := by
  induction l with
  | nil => rfl
  | cons x l ih =>
    simp only [List.map_cons, List.sum_cons, List.length_cons] at ih ⊢
    rw [ih, show (sgn x).length = 1 from rfl]; omega
def sgV (l : List Nat) : List V := l.map fun c => V.str ⟨#[c]⟩
theorem rd_joinS {l : Addr} (h : H l = some (.lst (sgV L))) (hz : L.length ≤ 16777216) (q : Q (.str (mkS L)) H) : rJoin K (.str "") [.ref l] H Q := by
  refine ⟨"", l, L.map sgn, rfl, rfl, .inl (SqL.of (by rw [h]; unfold sgV; rw [List.map_map]; rfl)), ?_, by rw [join_signs]; exact q⟩
  rw [sum_ones, show ("" : Str).length = 0 from rfl]; omega
theorem kp_natV {l : Addr} (h : H l = some (.lst (natV L))) (k : Kp H H') : H' l = some (.lst (natV L)) := k _ _ nr_natV h
theorem nr_sgV : ¬ isRow (.lst (sgV L)) := nr_vals fun v hv => by obtain ⟨i, _, rfl⟩ := List.mem_map.mp hv; rfl
theorem kp_sgV {l : Addr} (h : H l = some (.lst (sgV L))) (k : Kp H H') : H' l = some (.lst (sgV L)) := k _ _ nr_sgV h
theorem dp_natV {l : Addr} (h : H l = some (.lst (natV L))) : Dp K H (.ref l) (.list (L.map fun m => PyData.int (m : Nat))) := .lst (SqL.of h) dp_nats
theorem nat_eqv : ∀ a b : List Nat, PyData.eqvAll (a.map fun m => PyData.int (m : Nat)) (b.map fun m => PyData.int (m : Nat)) = decide (a = b)
  | [], [] => by simp [PyData.eqvAll]
  | [], _ :: _ => by simp [PyData.eqvAll]
  | _ :: _, [] => by simp [PyData.eqvAll]
  | x :: a, y :: b => by
    simp only [List.map_cons, PyData.eqvAll, nat_eqv a b, PyData.eqv]
    by_cases h : x = y <;> by_cases h2 : a = b <;> simp [h, h2]
    omega
theorem rd_neNN {l m : Addr} {M : List Nat} (h : H l = some (.lst (natV L))) (g : H m = some (.lst (natV M))) (q : Q (.bl (!decide (L = M))) H) : rNeA K (.ref l) (.ref m) H Q :=
  rd_ne_dat (dp_natV h) (dp_natV g) (nats_dok.shaped (by decide)) (nats_dok.shaped (by decide)) (by simp only [PyData.eqv]; rw [nat_eqv]; exact q)
theorem rd_eqNN {l m : Addr} {M : List Nat} (h : H l = some (.lst (natV L))) (g : H m = some (.lst (natV M))) (q : Q (.bl (decide (L = M))) H) : rEqA K (.ref l) (.ref m) H Q :=
  rd_eq_dat (dp_natV h) (dp_natV g) (nats_dok.shaped (by decide)) (nats_dok.shaped (by decide)) (by simp only [PyData.eqv]; rw [nat_eqv]; exact q)
theorem plain_nat {l : Addr} (h : H l = some (.lst (natV L))) : Plain (Itl K l) L.length (fun i => .int (L[i]?.getD 0 : Nat)) H where
  stop := fun H1 s => ⟨natV L, SqL.of (s _ _ h), by rw [natV_len]; exact Nat.le_refl _⟩
  go := fun i H1 s hi => ⟨natV L, .int (L[i]?.getD 0 : Nat), SqL.of (s _ _ h), by unfold natV; rw [List.getElem?_map, List.getElem?_eq_getElem hi]; rfl⟩
  yld := fun i H1 x H2 s hi y => ⟨y.1, by
    have e := y.2 _ (SqL.of (s _ _ h))
    unfold natV at e
    rw [List.getElem?_map, List.getElem?_eq_getElem hi] at e
    rw [List.getElem?_eq_getElem hi]
    exact (Option.some.inj e).symm⟩
/-- the letters of all places -/
def ls (ss : List Stp) : List Nat := (ks ss).map (lat ss)
/-- a new object o of n items -/
def rNew (n : Nat) (o : HO) (H1 : Hp) (Q : VK) : Prop := n ≤ sizeLine ∧ ∀ p, H1 p = none → Q (.ref p) (upd H1 p o)
theorem rd_tupN {t : TA} {σ : St} (h : t σ H fun xs H1 => rNew xs.length (.tup xs) H1 Q) : tTup t σ H Q := h
theorem rd_lstN {t : TA} {σ : St} (h : t σ H fun xs H1 => rNew xs.length (.lst xs) H1 Q) : tLst t σ H Q := h
theorem rd_new {n : Nat} (hz : n ≤ sizeLine) (q : ∀ p H', Same H H' → H' p = some o → H p = none → Q (.ref p) H') : rNew n o H Q := ⟨hz, fun p hp => q p _ (Same.new (Same.refl _) hp) upd_same hp⟩
theorem oEqOK {X : Cx} {CX : CXT} {k : Nat} {C : Addr} {sp : Sp} {E : XK} (hk : X.K = K) (G : XOk X.prog X.w X.K X.mg X.base CX k (EOwn X.K C) sp) (hr : Room k X.A) (hx : Passes CX X E) : OpR X (compareOp .Eq) (rEqO K C sp E) := by
  subst hk
  exact oEqO G hr hx
theorem rd_nameE {n : Nat} {σ σ' : St} {R : St → Hp → Prop} (e : σ.set n (some v) = σ') (h : R σ' H) : gName n v σ H R := by subst e; exact h
theorem rd_exStr {x : Str} {A : Prop} (h : A) : (∃ a, V.str x = .str a) ∧ A := ⟨⟨x, rfl⟩, h⟩
theorem rd_iNat {l : Addr} {A : Prop} (h : H l = some (.lst (natV L))) (q : A) : (∃ xs, SqL K H l xs) ∧ A := ⟨⟨_, SqL.of h⟩, q⟩
theorem rd_startE {N : List Str} {vs : List V} {σ' : St} {D : Ends} {t : TS} (e : start N vs = σ') (h : t D σ' H) : t D (start N vs) H := by subst e; exact h
theorem ty_pos {n : Nat} (ok : okFrom 0 ss) (h : 1 ≤ sz ss) : 1 ≤ (tyL ss).length := by
  cases ss with
  | nil => simp [sz] at h
  | cons s r =>
    cases s with
    | wr w => have := ok.1.1; simp only [tyL, ty1, List.length_append, ← len_tl]; omega
    | pa f l t => have := ok.1.2.1; omega
end
end L2.Px
set_option Elab.async false
set_option linter.all false
set_option maxRecDepth 100000
set_option maxHeartbeats 1000000
namespace L2.Px
open PySem PySem.Spec PyProof.Rows StX ClX
theorem walk_ofX {l : PySem.W.OpenLaw} {n k : Nat} {q : Program} {loose : List Str} {XP : (Str → Option Value) → Heap → Prop} {YP : World → Heap → Prop} {d : DefRec} {K : Params → PySem.W.Frag} {x : Str}
    (hn : l.most = some n) (hn2 : n ≤ sizeLine) (hdf : d.params.defaults = []) (hr : Room k callerA) (hY : ∀ (w : World) (h : Heap), YP w h → (K w.params).In h)
    (F : ∀ (w : World) (mg : Str → Option Value) (fa : Addr) (h : Heap), (K w.params).In h → h.Ns mainGlobals mg → XP mg h → mg d.name = some (.ref fa) →
      ∃ fd : FuncData, (∀ (s : Shared) (u : Value), BindsTo s fd ⟨[u], []⟩ [(x, u)]) ∧
        ∀ base : Heap, (K w.params).In base → base.Ns mainGlobals mg → FnOk l.prog w (K w.params) mg base CX0 k fa fd [x] (sp_law (K w.params))) :
    PySem.W.WalkO q loose XP YP l.row.toRowW d [] (fun f vs => PySem.call f vs) := by
  refine Att.attach_call hn hdf fun w s0 s1 mg mb fa o pm cd doc a vs ns G Y ho hd hcd hmg hobj hints hlen hg => ?_
  have KX := hY w _ Y
  obtain ⟨fd, hb, hF⟩ := F w mg fa _ KX G.T.g G.X hmg
  exact law_call KX G.T.g G.T.b G.T.builtins G.T.nolimit hg hobj hints (Nat.le_trans hlen hn2) hr hF hb (fun H hO hS => ⟨a, ns, rfl, hS, fun _ => rfl⟩) fun H e s' z => z
section
variable {K : PySem.W.Frag} {h : Heap} {mg : Str → Option Value} {x m qual : Str} {st : Stmt} {ps : List Str} {C D f p g : Addr} {oc kV dc pm cd ct mc : Value} {od an : Option Addr} {sl : Array (Option Value)} {pv : Str} {rest : List Value}
/-- how a def binds n plain arguments -/
def BF (x qual : Str) (st : Stmt) (ps : List Str) : Prop := ∀ (kV doc pm : Value) (an : Option Addr) (cdv ct : Value) (us : List Value), us.length = ps.length → bindArgs (PySem.W.fnOf x qual (defArgs st) (defBody st) (defScope st) .none kV doc pm an cdv ct) ⟨us, []⟩ = pure (ps.zip us)
def BFS (x qual : Str) (st : Stmt) (ps : List Str) (pv : Str) : Prop := ∀ (kV doc pm : Value) (an : Option Addr) (cdv ct : Value) (us rest : List Value), us.length = ps.length → bindArgs (PySem.W.fnOf x qual (defArgs st) (defBody st) (defScope st) .none kV doc pm an cdv ct) ⟨us ++ rest, []⟩ = (newTuple rest >>= fun t => pure (ps.zip us ++ [(pv, t)]))
/-- the def object at f, as K has it -/
def AtF (K : PySem.W.Frag) (x qual : Str) (st : Stmt) (f : Addr) : Prop := ∃ oc od kV dc pm an cd ct sl, K.lookup f = some ⟨oc, od, .func (PySem.W.fnOf x qual (defArgs st) (defBody st) (defScope st) .none kV dc pm an cd ct), sl⟩ ∧ PySem.W.codeIn K cd qual = true
theorem atF (l : K.lookup f = some ⟨oc, od, .func (PySem.W.fnOf x qual (defArgs st) (defBody st) (defScope st) .none kV dc pm an cd ct), sl⟩) (c : PySem.W.codeIn K cd qual = true) : AtF K x qual st f := ⟨_, _, _, _, _, _, _, _, _, l, c⟩
theorem AtF.fun (a : AtF K x qual st f) (k : PySem.W.keepIn K (.ref f) = true) : ∃ fd, Fun K x qual st f fd := let ⟨_, _, _, _, _, _, _, _, _, l, c⟩ := a; ⟨_, fun_mk (st := st) l c k⟩
theorem defG_mk (X : K.In h) (G : h.Ns mainGlobals mg) (a : PySem.W.nsIn K mainGlobals x = some (some (.ref f))) (l : AtF K x x st f) (k : PySem.W.keepIn K (.ref f) = true) (b : BF x x st ps) : DefG K mg x st ps := by
  obtain ⟨fd, F⟩ := l.fun k
  exact ⟨f, fd, F, PySem.W.mg_of X G a, F.binds b⟩
theorem defM_mk (at_ : PySem.W.findIn K (.ref C) m = some (some (.ref f))) (fn : PySem.W.isFn K (.ref f) = true) (l : AtF K m qual st f) (k : PySem.W.keepIn K (.ref f) = true) (b : BF m qual st ps) : DefM K C m qual st ps := by
  obtain ⟨fd, F⟩ := l.fun k
  exact ⟨f, fd, F, ⟨at_, fn, k⟩, F.binds b⟩
theorem defX_mk {R : Addr → Prop} (r : R f) (l : AtF K m qual st f) (k : PySem.W.keepIn K (.ref f) = true) (b : BF m qual st ps) : DefX K R m qual st ps := by
  obtain ⟨fd, F⟩ := l.fun k
  exact ⟨f, fd, F, r, F.binds b⟩
theorem defP_mk (at_ : PySem.W.findIn K (.ref C) m = some (some (.ref p))) (get : PySem.W.specialIn K (.ref p) "__get__" = some (some (.builtin "property.__get__"))) (tak : PySem.W.takesIn K (.ref p) = some true) (rc : PySem.W.recIn K p "property" = some (.ref g :: rest))
    (l : AtF K m qual st g) (k : PySem.W.keepIn K (.ref g) = true) (b : BF m qual st ["self"]) : DefP K C m qual st := by
  obtain ⟨fd, F⟩ := l.fun k
  exact ⟨p, g, fd, F, ⟨at_, get, tak, rest, rc⟩, F.binds b⟩
theorem defC_mk (rd : PySem.W.readsIn K C mc = true) (ga : PySem.W.specialIn K (.ref C) "__getattribute__" = some (some (.builtin "type.__getattribute__"))) (at_ : PySem.W.findCls K (.ref C) mc m = some (.get (.builtin "classmethod.__get__") (.ref p) .none (.ref C)))
    (rc : PySem.W.recIn K p "classmethod" = some (.ref g :: rest)) (fi : PySem.W.fnIn K g = true) (l : AtF K m qual st g) (k : PySem.W.keepIn K (.ref g) = true) (b : BF m qual st ps) : DefC K C m qual st ps := by
  obtain ⟨fd, F⟩ := l.fun k
  exact ⟨mc, p, g, fd, F, ⟨rd, ga⟩, ⟨at_, ⟨rest, rc⟩, fi⟩, F.binds b⟩
theorem defK_mk (mk : PySem.W.makesIn K C = true) (at_ : PySem.W.findIn K (.ref C) "__init__" = some (some (.ref f))) (fn : PySem.W.isFn K (.ref f) = true) (kc : PySem.W.keepIn K (.ref C) = true) (l : AtF K "__init__" qual st f) (k : PySem.W.keepIn K (.ref f) = true) (b : BF "__init__" qual st ps) : DefK K C qual st ps := by
  obtain ⟨fd, F⟩ := l.fun k
  exact ⟨f, fd, F, ⟨mk, at_, fn, kc⟩, F.binds b⟩
theorem defKS_mk (mk : PySem.W.makesIn K C = true) (at_ : PySem.W.findIn K (.ref C) "__init__" = some (some (.ref f))) (fn : PySem.W.isFn K (.ref f) = true) (kc : PySem.W.keepIn K (.ref C) = true) (l : AtF K "__init__" qual st f) (k : PySem.W.keepIn K (.ref f) = true) (b : BFS "__init__" qual st ps pv) : DefKS K C qual st ps pv := by
  obtain ⟨oc, od, kV, dc, pm, an, cd, ct, sl, l, c⟩ := l
  exact ⟨f, _, fun_mk (st := st) l c k, ⟨mk, at_, fn, kc⟩, fun us rest hl => b kV dc pm an cd ct us rest hl⟩
theorem loose_int {p : Program} {lv : List (Str × PySem.W.WData)} {i : Int} (XL : PySem.W.XL p lv mg h) (hm : (x, PySem.W.WData.int i) ∈ lv) : ∃ t, mg x = some (.int i t) := by
  obtain ⟨v, e, r⟩ := XL.2.val _ hm
  cases r
  exact ⟨_, e⟩
theorem const_int {i : Int} {t : Tok} (X : K.In h) (G : h.Ns mainGlobals mg) (a : PySem.W.nsIn K mainGlobals x = some (some (.int i t))) : ∃ t, mg x = some (.int i t) := ⟨t, PySem.W.mg_of X G a⟩
theorem const_str {z : Str} {t : Tok} (X : K.In h) (G : h.Ns mainGlobals mg) (a : PySem.W.nsIn K mainGlobals x = some (some (.str z t))) : ∃ t, mg x = some (.str z t) := ⟨t, PySem.W.mg_of X G a⟩
theorem kit_self : PySem.W.kitOne K (.ref C) (.ref C) = some true := if_pos (by simp)
theorem kit_type {T : String} {b : Bool} (h1 : PySem.W.isClsIn K C = true) (h2 : PySem.W.typeIn K (.ref C) = some (.type "type")) (h3 : PySem.W.subIn K (.type T) (.ref C) = some b) : PySem.W.kitOne K (.type T) (.ref C) = some b := by
  unfold PySem.W.kitOne
  rw [if_neg (by simp)]
  rw [show PySem.W.kitCls K (.type T) (.ref C) = (if ((PySem.W.clsIn K C).isSome && PySem.W.typeIn K (.ref C) == some (.type "type")) = true then PySem.W.subIn K (.type T) (.ref C) else none) from rfl, if_pos (by rw [Bool.and_eq_true]; exact ⟨h1, by rw [h2]; simp⟩)]
  exact h3
end
end L2.Px
set_option Elab.async false
set_option linter.all false
set_option maxRecDepth 100000
set_option maxHeartbeats 2000000
namespace L2.Px
open PySem PySem.Spec PyProof.Rows TL
open Builtin Float
/-- figures in groups of three -/
def grp (l : List Nat) : List Nat := if h : 3 < l.length then grp (l.take (l.length - 3)) ++ 44 :: l.drop (l.length - 3) else l
termination_by l.length
decreasing_by rw [List.length_take]; omega
theorem grp_long {l : List Nat} (h : 3 < l.length) : grp l = grp (l.take (l.length - 3)) ++ 44 :: l.drop (l.length - 3) := by
  rw [grp, dif_pos h]
theorem grp_short {l : List Nat} (h : ¬ 3 < l.length) : grp l = l := by
  rw [grp, dif_neg h]
theorem groups_eq : ∀ (fuel : Nat) (d : List Nat) (room : Int) (out : List Nat), 1 ≤ d.length → d.length ≤ fuel → room ≤ 0 → groupsFromRight' 3 44 fuel d room out = grp d.reverse ++ out
  | 0, d, room, out, h1, h2, _ => by omega
  | fuel + 1, d, room, out, h1, h2, h3 => by
    unfold groupsFromRight'
    have en : min 3 (max (max (d.length : Int) room) 1).toNat = min 3 d.length := by omega
    simp only [en]
    by_cases hl : 3 < d.length
    · have e3 : min 3 d.length = 3 := by omega
      rw [e3, show 3 - d.length = 0 by omega]
      have ne : (d.drop 3).isEmpty = false := by
        cases q : d.drop 3 with
        | nil => have := congrArg List.length q; rw [List.length_drop] at this; simp at this; omega
        | cons _ _ => rfl
      rw [ne]
      simp only [Bool.false_and, Bool.false_eq_true, if_false, List.replicate_zero, List.nil_append]
      rw [groups_eq fuel (d.drop 3) _ _ (by rw [List.length_drop]; omega) (by rw [List.length_drop]; omega) (by omega)]
      rw [grp_long (l := d.reverse) (by rw [List.length_reverse]; exact hl), List.length_reverse, List.append_assoc]
      congr 2
      · rw [List.take_reverse]
        congr 1
        rw [show d.length - (d.length - 3) = 3 by omega]
      · rw [List.drop_reverse, show d.length - (d.length - 3) = 3 by omega]
        rfl
    · have e3 : min 3 d.length = d.length := by omega
      rw [e3, Nat.sub_self]
      have ne : (d.drop d.length).isEmpty = true := by rw [List.drop_length]; rfl
      rw [ne, if_pos (by simp; omega), List.take_length, List.replicate_zero, List.nil_append, grp_short (by rw [List.length_reverse]; exact hl)]
theorem grp_len : ∀ (n : Nat) (l : List Nat), l.length ≤ n → (grp l).length ≤ 2 * l.length
  | 0, l, hn => by rw [grp_short (by omega)]; omega
  | n + 1, l, hn => by
    by_cases h : 3 < l.length
    · have e : (l.take (l.length - 3)).length = l.length - 3 := by rw [List.length_take]; omega
      have ih := grp_len n (l.take (l.length - 3)) (by omega)
      rw [grp_long h, List.length_append, List.length_cons, List.length_drop]
      rw [e] at ih
      omega
    · rw [grp_short h]; omega
/-- at the right of W places -/
def padL (W : Nat) (l : List Nat) : List Nat := List.replicate (W - l.length) 32 ++ l
section
variable {prog : Program} {w : World} {A : Around} {E : Value → Shared → Prop} {s : Shared}
theorem ret_own {X T : Str} {Q : Fin → Shared → Prop} (e : X = T) (hL : T.length ≤ sizeLine) (h : ∀ t k, Q (.done (.ret (.str T t))) { s with toks := k }) : wpAny (model prog w) A (retStr X) Q E s := by
  subst e
  exact wpAny_bind (wpAny_mkStr (wpAny_pure (h _ _)) hL)
theorem formatField_ownSpec {a : Int} {t : Tok} {spec y : Str} {f : FormatSpec} {Q : Value → Shared → Prop}
    (hd : a.natAbs.log2 < 1920) (hp : parseFormatSpec spec.cps.toList "int" 62 = .ok f) (hne : (spec.length == 0) = false)
    (hasc : ((spec.cps.toList.drop 1).any (· ≥ 128) || (spec.cps.getD 0 0 ≥ 128 && !([60, 62, 61, 94] : List Nat).contains (spec.cps.getD 1 0))) = false)
    (hty : f.type.getD (if spec.cps.back? == some 0 then 0 else 100) = 100) (hpr : f.precision = none) (hz : f.noNeg0 = false) (hal : f.alt = false) (hw : f.width.getD 0 ≤ 100000)
    (hy : intField' f (decide (a < 0)) [] ((Nat.toDigits 10 a.natAbs).map fun c => (if (100 : Nat) == 88 then c.toUpper else c).toNat) [] 3 = y) (hl : y.length ≤ sizeLine) (hsz : spec.length ≤ sizeLine)
    (h : ∀ t' k, Q (.str y t') { s with toks := k }) : wpAny (model prog w) A (formatField (.int a t) spec) Q E s := by
  have ef : formatField (.int a t) spec = holding [.int a t] (pyFormat (.int a t) spec) := by
    unfold formatField
    simp only [hne, Bool.false_eq_true, if_false] <;> rfl
  rw [ef]
  refine wpAny_holding ?_
  unfold pyFormat
  refine wpAny_bind (wpAny_mkStr ?_ hsz)
  refine wpAny_bind (m := callSpecial? (.int a t) (Str.ofString "__format__") [.str spec s.toks]) (wpAny_callSpecial?_slot (name := Str.ofString "__format__") (typeIs_int _ a t) slot_int_format ?_)
  refine wpAny_call (codeAny_call_builtin slot_int_format.plain entry_int_format (slot_int_format.check _ _ _ _ _ _ _ _ (typeIs_int _ a t) (args_int_format _ _) ?_))
  unfold Builtin.«int.__format__»
  simp only [selfAndOne, noKeywords, Int.intOfSelf, asInt?, asStr?, List.isEmpty_nil, if_true, pure_bind, bind_pure, bind_assoc, hne, hasc, Bool.false_eq_true, if_false,
    show (Value.str spec s.toks == Value.none) = false from rfl]
  refine wpAny_bind (wpAny_typeNameOf (T := "str") (typeIs_str _ _ _) (by decide) fun _ => ?_)
  first | refine wpAny_bind (wpAny_typeNameOfCut_int ?_) | refine wpAny_bind (wpAny_typeNameOf_int ?_)
  simp only [hp, hty]
  rw [if_pos (by decide)]
  show wpAny _ _ (if _ then _ else _) _ _ _
  rw [if_neg (by simp [hpr])]
  show wpAny _ _ (if _ then _ else _) _ _ _
  rw [if_neg (by simp [hz])]
  show wpAny _ _ (if _ then _ else _) _ _ _
  rw [if_neg (by decide)]
  show wpAny _ _ (do let r ← Builtin.overDigitLimit? a; _) _ _ _
  refine wpAny_bind (wpAny_of_eq (PyProof.Rows.overDigitLimit_small hd) ?_)
  have hw' : ¬ (f.width.getD 0 > 100000) := by omega
  show wpAny _ _ (if _ then _ else _) _ _ _
  rw [if_neg (by simpa using hw')]
  show wpAny _ _ (retStr _) _ _ _
  simp only [hal, Bool.false_eq_true, if_false, show ((10 : Nat) == 10) = true by decide, if_true]
  refine ret_own (T := y) ?e hl fun t' k => ?_
  case e =>
    refine Eq.trans ?_ hy
    kernel_rfl
  dsimp only
  refine wpAny_bind (wpAny_isInstance (typeIs_str _ _ _) isSubtype_str_str (wpAny_pure ?_))
  exact h _ _
end
/-- the form >W, with commas or without -/
def fmtF (W : Nat) (gr : Bool) : FormatSpec := { fill := 32, align := 62, width := some W, grouping := if gr then some ',' else none }
def fmtL (W : Nat) (gr : Bool) (n : Nat) : List Nat := padL W (if gr then grp (numL n) else numL n)
theorem numL_pos (n : Nat) : 1 ≤ (numL n).length := by
  cases h : numL n with
  | nil => exact absurd h (numL_ne n)
  | cons a l => simp
theorem fmtF_text (W : Nat) (gr : Bool) (n : Nat) : intField' (fmtF W gr) (decide ((n : Int) < 0)) [] ((Nat.toDigits 10 (n : Int).natAbs).map fun c => (if (100 : Nat) == 88 then c.toUpper else c).toNat) [] 3 = ⟨(fmtL W gr n).toArray⟩ := by
  have hn : ((Nat.toDigits 10 (n : Int).natAbs).map fun c => (if (100 : Nat) == 88 then c.toUpper else c).toNat) = numL n := by
    rw [Int.natAbs_natCast]; rfl
  rw [hn, decide_eq_false (by omega)]
  have he : (numL n).isEmpty = false := by
    cases h : numL n with
    | nil => exact absurd h (numL_ne n)
    | cons a l => rfl
  have hp := numL_pos n
  unfold intField' fmtF fmtL padL
  cases gr with
  | false =>
    simp only [he, Bool.false_eq_true, if_false, show ((32 : Nat) == 48) = false from rfl, Bool.false_and, show ((62 : Nat) == 60) = false from rfl, show ((62 : Nat) == 94) = false from rfl, show ((62 : Nat) == 61) = false from rfl,
      List.length_nil, List.append_nil, List.nil_append, List.replicate_zero, Int.toNat_zero, Nat.zero_sub]
    congr 3
    congr 1
    omega
  | true =>
    simp only [he, Bool.false_eq_true, if_false, if_true, show ((32 : Nat) == 48) = false from rfl, Bool.false_and, show ((62 : Nat) == 60) = false from rfl, show ((62 : Nat) == 94) = false from rfl, show ((62 : Nat) == 61) = false from rfl,
      List.length_nil, List.append_nil, List.nil_append, List.replicate_zero, Int.toNat_zero, Nat.add_zero, show Char.toNat ',' = 44 from rfl]
    rw [groups_eq _ _ _ _ (by rw [List.length_reverse]; exact hp) (by rw [List.length_reverse]; omega) (by omega), List.reverse_reverse, List.append_nil]
    congr 3
    congr 1
    omega
end L2.Px
namespace L2.Px
open PySem PySem.Spec PyProof.Rows TL
open Builtin Float
def tFmtS (W : Nat) (gr : Bool) (te : TE) : TE := fun σ H Q => te σ H fun x H1 => ∃ n : Nat, x = .int n ∧ n < 10 ^ 20 ∧ Q (.str ⟨(fmtL W gr n).toArray⟩) H1
theorem pe_fmtS {X : Cx} {e : Expr} {te : TE} {spec : Str} {k : Nat} {p p2 p3 : Pos} (W : Nat) (gr : Bool) (hp : parseFormatSpec spec.cps.toList "int" 62 = .ok (fmtF W gr)) (hW : W ≤ 1000) (hne : (spec.length == 0) = false)
    (hasc : ((spec.cps.toList.drop 1).any (· ≥ 128) || (spec.cps.getD 0 0 ≥ 128 && !([60, 62, 61, 94] : List Nat).contains (spec.cps.getD 1 0))) = false) (hbk : (spec.cps.back? == some 0) = false) (hsz : spec.length ≤ 1000) (he : PE X e te) :
    PE X (.FormattedValue e (-1) (some (.JoinedStr [.Constant (.str spec) k p3] p2)) p) (tFmtS W gr te) := by
  refine ⟨fun pins s σ H Q I h => ?_⟩
  refine wpAny_FormattedValue_spec (thn (he.run pins s σ H _ I h) fun v s1 hv => ?_)
  obtain ⟨x, H1, I1, r1, n, rfl, hn, q⟩ := hv
  obtain ⟨t, rfl⟩ := r1
  refine wpAny_JoinedStr_one (Calls.Constant_str ⟨_, _, rfl, ?_⟩)
  have hl : (n : Int).natAbs.log2 < 1920 := by
    rw [Int.natAbs_natCast]
    by_cases h0 : n = 0
    · subst h0; decide
    · have : (10 : Nat) ^ 20 < 2 ^ 67 := by decide
      have h3 : n.log2 < 67 := (Nat.log2_lt h0).mpr (by omega)
      omega
  have d20 : (numL n).length ≤ 20 := numL_len (by decide) hn
  have g40 := grp_len (numL n).length (numL n) (Nat.le_refl _)
  have hfl : (fmtL W gr n).length ≤ 2000 := by
    unfold fmtL padL
    rw [List.length_append, List.length_replicate]
    cases gr <;> simp only [Bool.false_eq_true, if_false, if_true] <;> omega
  refine formatField_ownSpec hl hp hne hasc ?_ rfl rfl rfl ?_ (fmtF_text W gr n) ?_ (by rw [sizeLine_eq]; omega) fun t' k' => ⟨.str _, H1, (I1.tok _), ⟨t', rfl⟩, q⟩
  · rw [hbk]; rfl
  · show W ≤ 100000; omega
  · show (fmtL W gr n).toArray.size ≤ sizeLine
    rw [List.size_toArray, sizeLine_eq]; omega
theorem spec4 : parseFormatSpec (Str.ofString ">4").cps.toList "int" 62 = .ok (fmtF 4 false) := by kernel_rfl
theorem spec26 : parseFormatSpec (Str.ofString ">26,").cps.toList "int" 62 = .ok (fmtF 26 true) := by kernel_rfl
theorem pe_fmt4 {X : Cx} {e : Expr} {te : TE} {k : Nat} {p p2 p3 : Pos} (he : PE X e te) : PE X (.FormattedValue e (-1) (some (.JoinedStr [.Constant (.str (Str.ofString ">4")) k p3] p2)) p) (tFmtS 4 false te) :=
  pe_fmtS 4 false spec4 (by decide) (by decide +kernel) (by decide +kernel) (by decide +kernel) (by decide +kernel) he
theorem pe_fmt26 {X : Cx} {e : Expr} {te : TE} {k : Nat} {p p2 p3 : Pos} (he : PE X e te) : PE X (.FormattedValue e (-1) (some (.JoinedStr [.Constant (.str (Str.ofString ">26,")) k p3] p2)) p) (tFmtS 26 true te) :=
  pe_fmtS 26 true spec26 (by decide) (by decide +kernel) (by decide +kernel) (by decide +kernel) (by decide +kernel) he
/-- str(n) -/
def rStrI : List V → Hp → VK → Prop := fun xs H Q => ∃ i : Int, xs = [.int i] ∧ i.natAbs.log2 < 1920 ∧ Q (.str (toString i)) H
end L2.Px
set_option Elab.async false
set_option linter.all false
set_option maxRecDepth 100000
set_option maxHeartbeats 1000000
namespace L2.Px
open PySem PySem.Spec PyProof.Rows StX TL
/-- how often k stands ahead of place p -/
def cn (ss : List Stp) (p k : Nat) : Nat := ((ks ss).take p).count k
/-- .. of all keys -/
def cnt (ss : List Stp) (p : Nat) : List Nat := (List.range (tyL ss).length).map (cn ss p)
theorem cnt_len (ss : List Stp) (p : Nat) : (cnt ss p).length = (tyL ss).length := by simp [cnt]
theorem cnt_get {ss : List Stp} {p k : Nat} (h : k < (tyL ss).length) : (cnt ss p)[k]? = some (cn ss p k) := by
  simp [cnt, h]
theorem cn_zero (ss : List Stp) (k : Nat) : cn ss 0 k = 0 := by simp [cn]
theorem cnt_zero (ss : List Stp) : cnt ss 0 = List.replicate (tyL ss).length 0 := by
  apply List.ext_getElem
  · simp [cnt]
  · intro i h1 h2; simp [cnt, cn]
theorem count_take_split (l : List Nat) (k : Nat) {a b : Nat} (h : a ≤ b) : (l.take b).count k = (l.take a).count k + ((l.drop a).take (b - a)).count k := by
  have e : l.take b = l.take a ++ (l.drop a).take (b - a) := by
    have := List.take_add (l := l) (i := a) (j := b - a)
    rw [show a + (b - a) = b by omega] at this
    exact this
  rw [e, List.count_append]
theorem cn_mono (ss : List Stp) (k : Nat) {a b : Nat} (h : a ≤ b) : cn ss a k ≤ cn ss b k := by
  unfold cn; rw [count_take_split _ _ h]; omega
theorem cn_le (ss : List Stp) (p k : Nat) : cn ss p k ≤ p := by
  unfold cn
  exact Nat.le_trans List.count_le_length (by rw [List.length_take]; omega)
theorem cn_succ {ss : List Stp} (ok : okFrom 0 ss) {p : Nat} (h : p < sz ss) (k : Nat) : cn ss (p + 1) k = cn ss p k + if kat ss p = k then 1 else 0 := by
  unfold cn
  rw [List.take_add_one, kat_some ok h, List.count_append]
  simp [List.count_cons, beq_iff_eq]
theorem count_flat_take (l : List Nat) (k : Nat) (hl : 0 < l.length) : ∀ (t n : Nat), n ≤ t * l.length → ((List.replicate t l).flatten.take n).count k = (n / l.length) * l.count k + (l.take (n % l.length)).count k
  | 0, n, h => by
    have : n = 0 := by omega
    subst this; simp
  | t + 1, n, h => by
    rw [List.replicate_succ, List.flatten_cons]
    by_cases hn : n < l.length
    · rw [List.take_append_of_le_length (by omega), Nat.div_eq_of_lt hn, Nat.mod_eq_of_lt hn]; omega
    · have hn' : l.length ≤ n := by omega
      rw [List.take_append, List.count_append, List.take_of_length_le hn', count_flat_take l k hl t (n - l.length) (by rw [Nat.succ_mul] at h; omega)]
      obtain ⟨m, rfl⟩ : ∃ m, n = m + l.length := ⟨n - l.length, by omega⟩
      rw [Nat.add_sub_cancel, Nat.add_div_right _ hl, Nat.add_mod_right, Nat.succ_mul]; omega
section
variable {ss : List Stp} {j : Nat}
theorem ks_split (ss : List Stp) (j : Nat) (ok : okFrom 0 ss) {p : Nat} (h : p ≤ sz (ss.take j)) : (ks ss).take p = (ks (ss.take j)).take p := by
  obtain ⟨m, e⟩ := ks_pre (ss.take j) (ss.drop j)
  rw [List.take_append_drop] at e
  rw [e, List.take_append_of_le_length (by rw [ks_len (ok_take ok j)]; exact h)]
theorem cn_take (ok : okFrom 0 ss) {p : Nat} (h : p ≤ sz (ss.take j)) (k : Nat) : cn ss p k = cn (ss.take j) p k := by
  unfold cn; rw [ks_split ss j ok h]
theorem cn_wr {w : Str} (ok : okFrom 0 ss) (h : ss[j]? = some (.wr w)) {p : Nat} (h1 : sz (ss.take j) ≤ p) (h2 : p ≤ sz (ss.take (j + 1))) (k : Nat) :
    cn ss p k = cn ss (sz (ss.take j)) k + if (tyL (ss.take j)).length ≤ k ∧ k < (tyL (ss.take j)).length + (p - sz (ss.take j)) then 1 else 0 := by
  have hs := sz_take h
  simp only [len1] at hs
  have e1 := cn_take (j := j + 1) ok h2 k
  have e2 := cn_take (j := j + 1) ok (p := sz (ss.take j)) (by omega) k
  rw [e1, e2]
  unfold cn
  rw [count_take_split _ _ h1, ks_take_wr h]
  have el : (ks (ss.take j)).length = sz (ss.take j) := ks_len (ok_take ok j)
  rw [List.drop_append_of_le_length (by omega), List.drop_of_length_le (by omega), List.nil_append, List.take_range'_of_length_ge (by omega)]
  congr 1
  rw [List.count_range']
  have e : (∃ i, i < p - sz (ss.take j) ∧ k = (tyL (ss.take j)).length + i) ↔ (tyL (ss.take j)).length ≤ k ∧ k < (tyL (ss.take j)).length + (p - sz (ss.take j)) :=
    ⟨fun ⟨i, a, b⟩ => by omega, fun ⟨a, b⟩ => ⟨k - (tyL (ss.take j)).length, by omega, by omega⟩⟩
  simp only [Nat.one_mul, e]
theorem cn_pa {f l t : Nat} (ok : okFrom 0 ss) (h : ss[j]? = some (.pa f l t)) {p : Nat} (h1 : sz (ss.take j) ≤ p) (h2 : p ≤ sz (ss.take (j + 1))) (k : Nat) :
    (cn ss p k : Int) = (cn ss (sz (ss.take j)) k : Int) + ((p - sz (ss.take j)) / (l - f + 1) : Nat) * ((cn ss (l + 1) k : Int) - cn ss f k) + cn ss (f + (p - sz (ss.take j)) % (l - f + 1)) k - cn ss f k := by
  obtain ⟨⟨a1, a2, a3, a4⟩, _⟩ := ok_at ok h
  have hs := sz_take h
  simp only [len1] at hs
  have hm : (p - sz (ss.take j)) % (l - f + 1) < l - f + 1 := Nat.mod_lt _ (by omega)
  have e1 := cn_take (j := j + 1) ok h2 k
  have e2 := cn_take (j := j + 1) ok (p := sz (ss.take j)) (by omega) k
  have e3 := cn_take (j := j) ok (p := l + 1) (by omega) k
  have e4 := cn_take (j := j) ok (p := f) (by omega) k
  have e5 := cn_take (j := j) ok (p := f + (p - sz (ss.take j)) % (l - f + 1)) (by omega) k
  rw [e1, e2, e3, e4, e5]
  have el : (ks (ss.take j)).length = sz (ss.take j) := ks_len (ok_take ok j)
  unfold cn
  have hdrop : ∀ B : List Nat, (ks (ss.take j) ++ B).drop (sz (ss.take j)) = B := fun B => by
    rw [List.drop_append_of_le_length (by omega), List.drop_of_length_le (by omega), List.nil_append]
  have htake : ∀ B : List Nat, (ks (ss.take j) ++ B).take (sz (ss.take j)) = (ks (ss.take j)).take (sz (ss.take j)) := fun B => List.take_append_of_le_length (by omega)
  rw [count_take_split (ks (ss.take (j + 1))) k h1, ks_take_pa h, hdrop, htake]
  have hlen : (((ks (ss.take j)).drop f).take (l - f + 1)).length = l - f + 1 := by rw [List.length_take, List.length_drop, el]; omega
  rw [count_flat_take _ k (by omega) t _ (by rw [hlen, Nat.mul_comm]; omega), hlen]
  rw [List.take_take, Nat.min_eq_left (Nat.le_of_lt hm)]
  have s1 := count_take_split (ks (ss.take j)) k (a := f) (b := l + 1) (by omega)
  rw [show l + 1 - f = l - f + 1 by omega] at s1
  have s2 := count_take_split (ks (ss.take j)) k (a := f) (b := f + (p - sz (ss.take j)) % (l - f + 1)) (by omega)
  rw [Nat.add_sub_cancel_left] at s2
  rw [s1, s2]
  simp only [Int.natCast_add, Int.natCast_mul]
  rw [show (((ks (ss.take j)).take f).count k : Int) + (((ks (ss.take j)).drop f).take (l - f + 1)).count k - ((ks (ss.take j)).take f).count k = ((((ks (ss.take j)).drop f).take (l - f + 1)).count k : Int) by omega]
  omega
end
end L2.Px
set_option Elab.async false
set_option linter.all false
set_option maxRecDepth 100000
set_option maxHeartbeats 1000000
namespace L2.Px
open PySem PySem.Spec PyProof.Rows StX TL
/-- a walk of n turns whose i-th item is a new tuple of it i -/
structure Pairy (J : It) (n : Nat) (it : Nat → List V) (H1 : Hp) : Prop where
  stop : ∀ H, Same H1 H → J.stop n H
  go : ∀ i H, Same H1 H → i < n → J.go i H
  yld : ∀ i H x H', Same H1 H → i < n → J.yld i H x H' → ∃ T, H T = none ∧ H' = upd H T (.tup (it i)) ∧ x = .ref T
theorem pairy_zip {K : PySem.W.Frag} {a b : Addr} {xs ys : List V} {H1 : Hp} (ha : SqL K H1 a xs) (hb : SqL K H1 b ys) : Pairy (Itz K a b) (min xs.length ys.length) (fun i => [(xs[i]?).getD .non, (ys[i]?).getD .non]) H1 where
  stop := fun H s => ⟨xs, ys, s.seq ha, s.seq hb, by omega⟩
  go := fun i H s hi => ⟨xs, ys, _, _, s.seq ha, s.seq hb, List.getElem?_eq_getElem (by omega), List.getElem?_eq_getElem (by omega)⟩
  yld := fun i H x H' s hi y => by
    obtain ⟨T, u, v, e1, e2, e3, e4, e5⟩ := y
    exact ⟨T, e2, by rw [e3, e4 xs (s.seq ha), e5 ys (s.seq hb)]; rfl, e1⟩
theorem pairy_enum {K : PySem.W.Frag} {a : Addr} {xs : List V} {H1 : Hp} (ha : SqL K H1 a xs) : Pairy (Ite K a) xs.length (fun i => [.int (i : Nat), (xs[i]?).getD .non]) H1 where
  stop := fun H s => ⟨xs, s.seq ha, Nat.le_refl _⟩
  go := fun i H s hi => ⟨xs, _, s.seq ha, List.getElem?_eq_getElem hi⟩
  yld := fun i H x H' s hi y => by
    obtain ⟨T, u, e1, e2, e3, e4⟩ := y
    exact ⟨T, e2, by rw [e3, e4 xs (s.seq ha)]; rfl, e1⟩
/-- [e for a, b in ..] -/
theorem lc_pair {K : PySem.W.Frag} {J : It} {n m : Nat} {it : Nat → List V} {H1 : Hp} {te : TE} {vs : List Nat} {σ : St} {D : Addr} {Qd : Hp → Prop} {j1 j2 : Nat} (x y : Nat → V) (P : Pairy J n it H1) (hD : H1 D = none) (hn : n ≤ sizeLine) (h2 : m = 2) (hit : ∀ i, i < n → it i = [x i, y i])
    (hj : ∀ v u, wipe (((wipe σ vs).set j1 (some v)).set j2 (some u)) vs = wipe σ vs) (f : Nat → V)
    (hs : ∀ i H (Q : VK), i < n → Same H1 H → (∀ H', Same H H' → Q (f i) H') → te (((wipe σ vs).set j1 (some (x i))).set j2 (some (y i))) H Q)
    (hd : ∀ H, Same H1 H → H D = some (.lst ((List.range n).map f)) → Qd H) : LcW J (gTup K m (gCons (gName j1) (gCons (gName j2) gNil))) tYes te vs σ H1 D Qd := by
  refine ⟨fun i m H => m = n - i ∧ i ≤ n ∧ Same H1 H ∧ H D = some (.lst ((List.range i).map f)), ⟨_, rfl, Nat.zero_le _, Same.new (Same.refl _) hD, upd_same⟩, ?_⟩
  rintro i m H ⟨rfl, hi, S, eD⟩
  by_cases hlt : i < n
  · refine .inr ⟨P.go i H S hlt, fun H' => i + 1 ≤ n ∧ Same H1 H' ∧ H' D = some (.lst ((List.range (i + 1)).map f)), fun H' z => ⟨n - (i + 1), by omega, rfl, z⟩, fun z H' q => ?_⟩
    obtain ⟨T, hT, e1, e2⟩ := P.yld i H z H' S hlt q
    subst e1 e2
    rw [hit i hlt]
    refine rd_gtup (SqT.of upd_same) h2.symm (rd_gcons (rd_name (rd_gcons (rd_name (rd_gnil ⟨hj _ _, rd_yes (iteT ?_)⟩)))))
    have S1 : Same H (upd H T (.tup [x i, y i])) := Same.new (Same.refl _) hT
    refine hs i _ _ hlt (S.trans S1) fun H2 S2 => ⟨_, S2 _ _ (S1 _ _ eD), by rw [List.length_map, List.length_range]; omega, hlt, Same.mut ((S.trans S1).trans S2) hD, ?_⟩
    rw [upd_same, List.range_succ, List.map_append]
    rfl
  · have e : i = n := by omega
    subst e
    exact .inl ⟨P.stop H S, hd H S eD⟩
/-- for a, b in .. -/
theorem for_pair {J : It} {n : Nat} {it : Nat → List V} {g : TG} {tb : TS} {D : Ends} {σ : St} {H : Hp} (Pv : Nat → St → Hp → Prop) (h0 : Pv 0 σ H) (hl : ∀ i σ H, i ≤ n → Pv i σ H → Pairy J n it H)
    (hs : ∀ i T σ H, i < n → Pv i σ H → H T = none → g (.ref T) σ (upd H T (.tup (it i))) fun σ2 H2 => tb { D with nx := Pv (i + 1), ct := Pv (i + 1), bk := D.nx } σ2 H2) (hd : ∀ σ H, Pv n σ H → D.nx σ H) : ForW J g tb D σ H := by
  refine ⟨fun i m σ H => m = n - i ∧ i ≤ n ∧ Pv i σ H, ⟨n, by simp, Nat.zero_le _, h0⟩, ?_⟩
  rintro i m σ H ⟨rfl, hi, p⟩
  have q := hl i σ H hi p
  by_cases hlt : i < n
  · refine .inr ⟨q.go i H (Same.refl _) hlt, Pv (i + 1), fun σ' H' p' => ⟨n - (i + 1), by omega, rfl, hlt, p'⟩, fun x H' y => ?_⟩
    obtain ⟨T, hT, e1, e2⟩ := q.yld i H x H' (Same.refl _) hlt y
    subst e1 e2
    exact hs i T σ H hlt p hT
  · have e : i = n := by omega
    subst e
    exact .inl ⟨q.stop H (Same.refl _), hd σ H p⟩
section
variable {X : Cx} {K : PySem.W.Frag}
def rGetL (K : PySem.W.Frag) : V → V → Hp → VK → Prop := fun x y H Q => ∃ (p : Addr) (xs : List V) (i : Nat) (v : V), x = .ref p ∧ y = .int i ∧ SqL K H p xs ∧ xs[i]? = some v ∧ Q v H
theorem pget_list (hk : X.K = K) : PGet X (rGetL K) := by
  subst hk
  intro pins s σ H o i ov iv Q I r1 r2 h
  obtain ⟨p, xs, j, v, rfl, rfl, hq, he, q⟩ := h
  cases r1
  obtain ⟨t, rfl⟩ := r2
  obtain ⟨its, r, pl, hz⟩ := I.list hq
  obtain ⟨w, ew, rw'⟩ := r.get he
  have hl := r.length
  have hn := line63
  have hj : j < xs.length := (List.getElem?_eq_some_iff.mp he).1
  exact wpAny_getItem_list pl.isList (by omega) (by omega) (by simpa using ew) ⟨v, H, I, rw', q⟩
variable {σ : St} {H : Hp} {to ti te : TE} {tget : V → V → Hp → VK → Prop} {tip : TIp} {tset : TSet} {nx ct bk : St → Hp → Prop} {rt : VK}
theorem rd_getL {a : Addr} {xs : List V} {j : Nat} {v : V} {Q : VK} (h : SqL K H a xs) (e : xs[j]? = some v) (q : Q v H) : rGetL K (.ref a) (.int j) H Q := ⟨a, xs, j, v, rfl, rfl, h, e, q⟩
def rDivm : List V → Hp → VK → Prop := fun xs H Q => ∃ i j, xs = [.int i, .int j] ∧ CDivP i j ∧ ∀ p, H p = none → Q (.ref p) (upd H p (.tup [.int (i / j), .int (i % j)]))
theorem cDivm : CallR X (.builtin "divmod") rDivm := call_divmodW
theorem rd_divm {i j : Int} {Q : VK} (hc : CDivP i j) (q : ∀ p H', Same H H' → H' p = some (.tup [.int (i / j), .int (i % j)]) → Q (.ref p) H') : rDivm [.int i, .int j] H Q := ⟨i, j, rfl, hc, new_of q⟩
end
theorem bits_small {i : Int} (h0 : 0 ≤ i) (h1 : i ≤ 1000000000000000000) : Builtin.Int.intBits i ≤ 4000 := by
  unfold Builtin.Int.intBits
  split
  · omega
  · rename_i h
    have h2 : i.natAbs ≠ 0 := fun z => h (by simpa using Int.natAbs_eq_zero.mp z)
    have : i.natAbs.log2 < 60 := (Nat.log2_lt h2).mpr (by omega)
    omega
theorem divp_small {i j : Int} (hj : 0 < j) (h0 : 0 ≤ i) (h1 : i ≤ 1000000000000000000) : CDivP i j := divp_ok hj (Nat.le_trans (bits_small h0 h1) (Nat.le_add_left _ _))
end L2.Px
set_option Elab.async false
set_option linter.all false
set_option maxRecDepth 100000
set_option maxHeartbeats 1000000
namespace L2.Px
open PySem PySem.Spec PyProof.Rows StX TL
theorem nodup_len {α : Type} [DecidableEq α] : ∀ {l m : List α}, l.Nodup → (∀ x ∈ l, x ∈ m) → l.length ≤ m.length
  | [], m, _, _ => Nat.zero_le _
  | x :: l, m, h, hs => by
    obtain ⟨h1, h2⟩ := List.nodup_cons.mp h
    have hx := hs x List.mem_cons_self
    have := nodup_len (l := l) (m := m.erase x) h2 fun y hy => by
      have hne : y ≠ x := fun z => h1 (z ▸ hy)
      exact (List.mem_erase_of_ne hne).mpr (hs y (List.mem_cons_of_mem _ hy))
    rw [List.length_erase_of_mem hx] at this
    have := List.length_pos_of_mem hx
    simp only [List.length_cons]
    omega
theorem flat_len {α β : Type} (f : α → List β) (b : Nat) : ∀ l : List α, (∀ x ∈ l, (f x).length ≤ b) → (l.flatMap f).length ≤ b * l.length
  | [], _ => by simp
  | x :: l, h => by
    rw [List.flatMap_cons, List.length_append, List.length_cons, Nat.mul_succ]
    have := h x List.mem_cons_self
    have := flat_len f b l fun y hy => h y (List.mem_cons_of_mem _ hy)
    omega
def cs1 (ss : List Stp) (j : Nat) : List Nat := match ss[j]? with
  | some (.pa f l _) => [sz (ss.take j), f, l + 1]
  | _ => [sz (ss.take j)]
def consts (ss : List Stp) : List Nat := 0 :: (List.range ss.length).flatMap (cs1 ss)
theorem consts_len (ss : List Stp) : (consts ss).length ≤ 3 * ss.length + 1 := by
  have := flat_len (cs1 ss) 3 (List.range ss.length) fun j _ => by unfold cs1; split <;> simp
  rw [List.length_range] at this
  simp only [consts, List.length_cons]; omega
def phi (ss : List Stp) (x : Nat) : Nat := match (List.range ss.length).find? (fun j => decide (sz (ss.take j) < x ∧ x ≤ sz (ss.take (j + 1)))) with
  | some j => (match ss[j]? with
    | some (.pa f l _) => f + (x - sz (ss.take j)) % (l - f + 1)
    | _ => 0)
  | none => 0
def itn (ss : List Stp) : Nat → Nat → Nat
  | 0, x => x
  | i + 1, x => phi ss (itn ss i x)
def Reach (ss : List Stp) (qs : List Nat) (x n : Nat) : Prop := ∃ c ∈ consts ss ++ qs, ∃ i, i + n ≤ 31 ∧ x = itn ss i c
def reachL (ss : List Stp) (qs : List Nat) : List Nat := (consts ss ++ qs).flatMap fun c => (List.range 32).map fun i => itn ss i c
theorem reachL_len (ss : List Stp) (qs : List Nat) : (reachL ss qs).length ≤ 32 * (3 * ss.length + 1 + qs.length) := by
  have := flat_len (fun c => (List.range 32).map fun i => itn ss i c) 32 (consts ss ++ qs) fun c _ => by simp
  have h := consts_len ss
  rw [List.length_append] at this
  unfold reachL
  omega
theorem Reach.mem {ss : List Stp} {qs : List Nat} {x n : Nat} (h : Reach ss qs x n) : x ∈ reachL ss qs := by
  obtain ⟨c, hc, i, hi, rfl⟩ := h
  exact List.mem_flatMap.mpr ⟨c, hc, List.mem_map.mpr ⟨i, List.mem_range.mpr (by omega), rfl⟩⟩
theorem reach_mono {ss : List Stp} {qs : List Nat} {q x : Nat} (h : x ∈ reachL ss qs) : x ∈ reachL ss (q :: qs) := by
  obtain ⟨c, hc, h2⟩ := List.mem_flatMap.mp h
  refine List.mem_flatMap.mpr ⟨c, ?_, h2⟩
  rcases List.mem_append.mp hc with hc | hc
  · exact List.mem_append_left _ hc
  · exact List.mem_append_right _ (List.mem_cons_of_mem _ hc)
theorem reach_q {ss : List Stp} {qs : List Nat} {q n : Nat} (hn : n ≤ 31) : Reach ss (q :: qs) q n := ⟨q, List.mem_append_right _ List.mem_cons_self, 0, by omega, rfl⟩
theorem reach_c {ss : List Stp} {qs : List Nat} {j x n : Nat} (hj : j < ss.length) (hx : x ∈ cs1 ss j) (hn : n ≤ 31) : Reach ss qs x n :=
  ⟨x, List.mem_append_left _ (List.mem_cons_of_mem _ (List.mem_flatMap.mpr ⟨j, List.mem_range.mpr hj, hx⟩)), 0, by omega, rfl⟩
theorem sz_take_mono {ss : List Stp} {i j : Nat} (h : i ≤ j) : sz (ss.take i) ≤ sz (ss.take j) := by
  have := sz_take_le (ss := ss.take j) i
  rwa [take_take_le h] at this
theorem phi_at {ss : List Stp} {j f l t x : Nat} (h : ss[j]? = some (.pa f l t)) (h1 : sz (ss.take j) < x) (h2 : x ≤ sz (ss.take (j + 1))) : phi ss x = f + (x - sz (ss.take j)) % (l - f + 1) := by
  have hj : j < ss.length := (List.getElem?_eq_some_iff.mp h).1
  have e : (List.range ss.length).find? (fun j => decide (sz (ss.take j) < x ∧ x ≤ sz (ss.take (j + 1)))) = some j := by
    rw [List.find?_range_eq_some]
    refine ⟨by simpa using ⟨h1, h2⟩, List.mem_range.mpr hj, fun i hi => ?_⟩
    have := sz_take_mono (ss := ss) (show i + 1 ≤ j by omega)
    simp
    omega
  unfold phi
  rw [e]
  simp only [h]
theorem reach_phi {ss : List Stp} {qs : List Nat} {j f l t x n : Nat} (h : ss[j]? = some (.pa f l t)) (h1 : sz (ss.take j) < x) (h2 : x ≤ sz (ss.take (j + 1))) (r : Reach ss qs x (n + 1)) : Reach ss qs (f + (x - sz (ss.take j)) % (l - f + 1)) n := by
  obtain ⟨c, hc, i, hi, e⟩ := r
  refine ⟨c, hc, i + 1, by omega, ?_⟩
  rw [← phi_at h h1 h2, e]; rfl
/-- the part in which x ends -/
theorem part_of {ss : List Stp} : ∀ {n x : Nat}, 1 ≤ x → x ≤ sz (ss.take n) → ∃ j, j < n ∧ j < ss.length ∧ sz (ss.take j) < x ∧ x ≤ sz (ss.take (j + 1))
  | 0, x, h1, h2 => by simp [sz] at h2; omega
  | n + 1, x, h1, h2 => by
    by_cases h : x ≤ sz (ss.take n)
    · obtain ⟨j, a, b⟩ := part_of h1 h
      exact ⟨j, by omega, b⟩
    · have hn : n < ss.length := by
        rcases Nat.lt_or_ge n ss.length with z | z
        · exact z
        · rw [List.take_of_length_le (by omega)] at h h2
          exact absurd h2 h
      exact ⟨n, by omega, hn, by omega, h2⟩
theorem filter_pre {n j : Nat} {q : Nat → Bool} (hj : j < n) (h : ∀ i, i < n → (q i = true ↔ i ≤ j)) : (List.range n).filter q = List.range (j + 1) := by
  have e : List.range n = List.range (j + 1) ++ (List.range (n - (j + 1))).map (j + 1 + ·) := by
    rw [← List.range_add]; congr 1; omega
  rw [e, List.filter_append, List.filter_eq_self.mpr, List.filter_eq_nil_iff.mpr, List.append_nil]
  · intro x hx
    obtain ⟨y, hy, rfl⟩ := List.mem_map.mp hx
    rw [List.mem_range] at hy
    intro z
    have := (h _ (by omega)).mp z
    omega
  · intro x hx
    rw [List.mem_range] at hx
    exact (h x (by omega)).mpr (by omega)
def counterF (a d : Addr) : List (Str × V) := putF "known" (.ref d) (putF "text" (.ref a) [])
theorem counterF_known {a d : Addr} : (counterF a d).lookup ("known" : Str) = some (.ref d) := by unfold counterF; rw [lookup_putF, if_pos rfl]
theorem counterF_text {a d : Addr} : (counterF a d).lookup ("text" : Str) = some (.ref a) := by
  unfold counterF; rw [lookup_putF, if_neg (by decide +kernel), lookup_putF, if_pos rfl]
theorem counterF_no {a d : Addr} {x : Str} (h : x ≠ "known" ∧ x ≠ "text") : (counterF a d).lookup x = none := by
  unfold counterF; rw [lookup_putF, if_neg h.1, lookup_putF, if_neg h.2]; rfl
/-- what is remembered: for places, the counts ahead of them -/
structure Known (H : Hp) (d : Addr) (ss : List Stp) (qs : List Nat) (av : Addr → Prop) : Prop where
  ex : ∃ kvs : List (Key × V), H d = some (.dK kvs) ∧ (kvs.map (·.1)).Nodup ∧ (∃ v, valV kvs (Sum.inl 0 : Key) = some v) ∧
    ∀ kv ∈ kvs, ∃ (x : Nat) (l : Addr), kv = (Sum.inl (x : Int), V.ref l) ∧ x ∈ reachL ss qs ∧ H l = some (.lst (natV (cnt ss x))) ∧ ¬ av l
structure CtAt (K : PySem.W.Frag) (CT CP CC : Addr) (H : Hp) (c a d : Addr) (ss : List Stp) (qs : List Nat) (av : Addr → Prop) : Prop where
  ins : ∃ dx, H c = some (.ins CC dx (counterF a d))
  tx : TX K CT CP H a ss
  kn : Known H d ss qs av
  few : qs.length ≤ 10000
section
variable {K : PySem.W.Frag} {CT CP CC : Addr} {H H' : Hp} {Q : VK} {E : XK} {c a d l : Addr} {ss : List Stp} {qs : List Nat} {q x : Nat} {kvs : List (Key × V)} {av : Addr → Prop}
/-- all but the dict d -/
theorem but_txt {t : TxI} (e : But d H H') (hd : H d = some (.dK kvs)) (h : TextAt K CT CP H a t) : TextAt K CT CP H' a t := by
  have ne : ∀ {b o}, (∀ k, o ≠ HO.dK k) → H b = some o → H' b = some o := fun {b o} ho hb => e b o (fun z => by subst z; rw [hd] at hb; cases hb; exact ho _ rfl) hb
  have f : Free1 H d := ⟨fun xs z => (by rw [hd] at z; cases z), fun o u z => (by rw [hd] at z; cases z)⟩
  exact ⟨ne (fun k z => by cases z) h.ins, e.tup f h.made, e.steps f h.stp, ne (fun k z => by cases z) h.pls, PartsAt.but e (fun dx fs z => by rw [hd] at z; cases z) h.prt, h.ok, h.few⟩
theorem TX.but (h : TX K CT CP H a ss) (e : But d H H') (hd : H d = some (.dK kvs)) : TX K CT CP H' a ss := let ⟨t, T, q⟩ := h; ⟨t, but_txt e hd T, q⟩
theorem but_lst {xs : List V} (e : But d H H') (hd : H d = some (.dK kvs)) (h : H l = some (.lst xs)) : H' l = some (.lst xs) := e _ _ (fun z => by subst z; rw [hd] at h; cases h) h
theorem CtAt.mono (h : CtAt K CT CP CC H c a d ss qs av) (e : Same H H') : CtAt K CT CP CC H' c a d ss qs av := by
  obtain ⟨⟨dx, h1⟩, h2, ⟨kvs, k1, k2, k3, k4⟩, h4⟩ := h
  exact ⟨⟨dx, e _ _ h1⟩, h2.kp (Kp.same e), ⟨kvs, e _ _ k1, k2, k3, fun kv hkv => let ⟨x, l, a, b, c⟩ := k4 kv hkv; ⟨x, l, a, b, e _ _ c.1, c.2⟩⟩, h4⟩
theorem CtAt.query (h : CtAt K CT CP CC H c a d ss qs av) (hq : qs.length < 10000) : CtAt K CT CP CC H c a d ss (q :: qs) av := by
  obtain ⟨h1, h2, ⟨kvs, k1, k2, k3, k4⟩, h4⟩ := h
  exact ⟨h1, h2, ⟨kvs, k1, k2, k3, fun kv hkv => let ⟨x, l, a, b, c⟩ := k4 kv hkv; ⟨x, l, a, reach_mono b, c⟩⟩, by simp; omega⟩
theorem Known.small (h : Known H d ss qs av) (hd : H d = some (.dK kvs)) (hs : ss.length ≤ 30) (hq : qs.length ≤ 10000) : kvs.length < sizeLine := by
  obtain ⟨kvs', k1, k2, k3, k4⟩ := h
  rw [hd] at k1; cases k1
  have := nodup_len (m := (reachL ss qs).map fun (x : Nat) => (Sum.inl (x : Int) : Key)) k2 fun y hy => by
    obtain ⟨kv, hkv, rfl⟩ := List.mem_map.mp hy
    obtain ⟨x, l, rfl, hx, _⟩ := k4 kv hkv
    exact List.mem_map.mpr ⟨x, hx, rfl⟩
  rw [List.length_map, List.length_map] at this
  have h2 := reachL_len ss qs
  rw [sizeLine_eq]; omega
theorem Known.get (h : Known H d ss qs av) (hd : H d = some (.dK kvs)) {v : V} (hv : valV kvs (Sum.inl (x : Int) : Key) = some v) : ∃ l, v = .ref l ∧ H l = some (.lst (natV (cnt ss x))) := by
  obtain ⟨kvs', k1, k2, k3, k4⟩ := h
  rw [hd] at k1; cases k1
  unfold valV at hv
  obtain ⟨kv, h1, rfl⟩ := Option.map_eq_some_iff.mp hv
  have h2 := List.find?_some h1
  obtain ⟨x', l, e1, _, e2, _⟩ := k4 kv (List.mem_of_find?_eq_some h1)
  have h3 : kv.1 = Sum.inl (x : Int) := of_decide_eq_true h2
  subst e1
  have : x' = x := by
    have : (x' : Int) = x := Sum.inl.inj h3
    omega
  subst this
  exact ⟨l, rfl, e2⟩
variable (K CT CP CC)
def sp_Counter_init : Sp := fun vs H Q _ => ∃ c dx a ss, vs = [.ref c, .ref a] ∧ H c = some (.ins CC dx []) ∧ TX K CT CP H a ss ∧ ∀ H' d, But c H H' → CtAt K CT CP CC H' c a d ss [] (fun b => H b ≠ none) → H d = none → Q .non H'
def sp_Counter_before (n : Nat) : Sp := fun vs H Q _ => ∃ c a d ss qs av, ∃ x : Nat, vs = [.ref c, .int x] ∧ CtAt K CT CP CC H c a d ss qs av ∧ (∀ b, av b → H b ≠ none) ∧ x ≤ sz (ss.take n) ∧ n ≤ 31 ∧ Reach ss qs x n ∧
  ∀ H' l, But d H H' → CtAt K CT CP CC H' c a d ss qs av → H' l = some (.lst (natV (cnt ss x))) → Q (.ref l) H'
def sp_Counter_counts_before (n : Nat) : Sp := fun vs H Q _ => ∃ c a d ss qs av, ∃ x : Nat, vs = [.ref c, .int x] ∧ CtAt K CT CP CC H c a d ss qs av ∧ (∀ b, av b → H b ≠ none) ∧ 1 ≤ x ∧ x ≤ sz (ss.take n) ∧ n ≤ 31 ∧ Reach ss qs x n ∧
  ∀ H' l, But d H H' → CtAt K CT CP CC H' c a d ss qs av → H' l = some (.lst (natV (cnt ss x))) → H l = none → Q (.ref l) H'
end
end L2.Px
set_option Elab.async false
set_option linter.all false
set_option maxRecDepth 100000
set_option maxHeartbeats 1000000
namespace L2.Px
open PySem PySem.Spec PyProof.Rows StX TL
section
variable {X : Cx} {K : PySem.W.Frag} {ta : TA} {e e2 : Expr} {p pos tpos : Pos} {elts : List Expr} {kk : Nat}
theorem pi_zipK (hk : X.K = K) (hg : Gl X "zip") (hm : X.mg "zip" = none) (ha : PA X [e, e2] ta)
    (hs : starEach [e, e2] X.env = (false, eval e X.env) :: starEach [e2] X.env := by rfl) (hpl : (backTo pos (starEach [e2] X.env)).any (·.1) = false := by rfl) :
    PI X (.Tuple elts kk tpos) (.Call (.Name "zip" p) [e, e2] [] pos) (iZip K ta) := hk ▸ pi_zip hg hm ha hs hpl
theorem pi_enumK (hk : X.K = K) (hg : Gl X "enumerate") (hm : X.mg "enumerate" = none) (ha : PA X [e] ta) (hs : starEach [e] X.env = [(false, eval e X.env)] := by rfl) :
    PI X (.Tuple elts kk tpos) (.Call (.Name "enumerate" p) [e] [] pos) (iEnum K ta) := hk ▸ pi_enum hg hm ha hs
variable {σ : St} {H : Hp} {Rr : It → Hp → Prop} {a b : Addr} {xs ys : List V}
theorem rd_iZip (h : ta σ H fun vs H1 => ∃ a b xs ys, vs = [.ref a, .ref b] ∧ SqL K H1 a xs ∧ SqL K H1 b ys ∧ Rr (Itz K a b) H1) : iZip K ta σ H Rr := h
theorem rd_iEnum (h : ta σ H fun vs H1 => ∃ a xs, vs = [.ref a] ∧ SqL K H1 a xs ∧ Rr (Ite K a) H1) : iEnum K ta σ H Rr := h
variable {td ty tv te : TE} {nx ct bk : St → Hp → Prop} {rt : VK} {tc : TE} {R : Bool → Hp → Prop} {Q : VK}
theorem rd_dget (h : td σ H fun x H1 => ty σ H1 fun y H2 => ∃ a v, x = .ref a ∧ DGet H2 a y (some v) ∧ Q v H2) : tDGet td ty σ H Q := h
theorem rd_dput (h : tv σ H fun v H1 => td σ H1 fun x H2 => ty σ H2 fun y H3 => ∃ a H4, x = .ref a ∧ DPut H3 a y v H4 ∧ nx σ H4) : sDPut td ty tv ⟨nx, rt, bk, ct⟩ σ H := h
theorem rd_dnotin (h : ty σ H fun y H1 => td σ H1 fun x H2 => ∃ a o, x = .ref a ∧ DGet H2 a y o ∧ Q (.bl (!o.isSome)) H2) : tDNotIn ty td σ H Q := h
theorem rd_din (h : ty σ H fun y H1 => td σ H1 fun x H2 => ∃ a o, x = .ref a ∧ DGet H2 a y o ∧ Q (.bl o.isSome) H2) : tDIn ty td σ H Q := h
theorem rd_disp {trs : List (TE × TE)} (h : ∀ p, H p = none → tPairs trs σ (upd H p (.dK [])) fun ps H2 => H2 p = some (.dK []) ∧ ∃ kvs : List (Key × V), ps = kvs.map (fun kv => (kV kv.1, kv.2)) ∧ kvs.length ≤ 15 ∧ Q (.ref p) (upd H2 p (.dK (mergeK [] kvs)))) : tDisp trs σ H Q := h
theorem rd_pairsN {Q : List (V × V) → Hp → Prop} (h : Q [] H) : tPairs [] σ H Q := h
theorem rd_pairsC {tk tv : TE} {r : List (TE × TE)} {Q : List (V × V) → Hp → Prop} (h : tk σ H fun x H1 => tv σ H1 fun y H2 => tPairs r σ H2 fun ps H3 => Q ((x, y) :: ps) H3) : tPairs ((tk, tv) :: r) σ H Q := h
theorem rd_augSk {to ti te : TE} {tget : V → V → Hp → VK → Prop} {tip : TIp} {tset : TSet} (h : to σ H fun o H1 => ti σ H1 fun i H2 => tget o i H2 fun x H3 => te σ H3 fun y H4 => tip x y H4 fun z H5 => tset o i z H5 fun H6 => nx σ H6) : tAugS to ti te tget tip tset ⟨nx, rt, bk, ct⟩ σ H := h
theorem rd_par3 {i j l : Nat} (h : ta σ H fun vs H1 => ∃ v w u, vs = [v, w, u] ∧ nx (((σ.set i (some v)).set j (some w)).set l (some u)) H1) : tPar3 i j l ta ⟨nx, rt, bk, ct⟩ σ H := h
end
section
variable {K : PySem.W.Frag} {CT CP CC : Addr} {H H' : Hp} {a c d x : Addr} {ss : List Stp} {qs : List Nat} {dx : Addr} {fs : List (Str × V)} {av : Addr → Prop}
theorem TX.butI (h : TX K CT CP H a ss) (e : But c H H') (hc : H c = some (.ins CC dx fs)) (n1 : CT ≠ CC) (n2 : CP ≠ CC) : TX K CT CP H' a ss := by
  obtain ⟨t, T, q⟩ := h
  have ne : ∀ {b o}, (∀ D fs, o ≠ HO.ins CC D fs) → H b = some o → H' b = some o := fun {b o} ho hb => e b o (fun z => by subst z; rw [hc] at hb; cases hb; exact ho _ _ rfl) hb
  have f := free1_ins hc
  exact ⟨t, ⟨ne (fun D fs z => n1 (by cases z; rfl)) T.ins, e.tup f T.made, e.steps f T.stp, ne (fun D fs z => by cases z) T.pls, PartsAt.but e (fun dx fs z => n2 (by rw [hc] at z; cases z; rfl)) T.prt, T.ok, T.few⟩, q⟩
theorem natV_rep (k m : Nat) : (List.replicate k [V.int (m : Nat)]).flatten = natV (List.replicate k m) := by
  unfold natV
  rw [List.map_replicate]
  induction k with
  | zero => rfl
  | succ k ih => rw [List.replicate_succ, List.flatten_cons, ih, List.replicate_succ]; rfl
/-- a new counter of the text at a -/
theorem ct_new {H0 : Hp} {l : Addr} (hx : H c = some (.ins CC dx [])) (T : TX K CT CP H a ss) (n1 : CT ≠ CC) (n2 : CP ≠ CC) (e : But c H H0) (h0 : H0 c = some (.ins CC dx (counterF a d))) (hd : H0 d = some (.dK [((Sum.inl 0 : Key), V.ref l)])) (hl : H0 l = some (.lst (natV (cnt ss 0)))) (hv : ¬ av l) :
    CtAt K CT CP CC H0 c a d ss [] av :=
  ⟨⟨dx, h0⟩, T.butI e hx n1 n2, ⟨_, hd, by simp, ⟨_, rfl⟩, fun kv hkv => by
    cases List.mem_singleton.mp hkv
    exact ⟨0, l, rfl, Reach.mem (n := 0) ⟨0, List.mem_append_left _ List.mem_cons_self, 0, by omega, rfl⟩, hl, hv⟩⟩, by simp⟩
theorem mem_putK {kvs : List (Key × V)} {k : Key} {v : V} {kv : Key × V} (h : kv ∈ putK kvs k v) : kv ∈ kvs ∨ kv = (k, v) := by
  unfold putK at h
  split at h
  · obtain ⟨q, hq, rfl⟩ := List.mem_map.mp h
    split
    · rename_i e
      exact .inr (by rw [e])
    · exact .inl hq
  · rcases List.mem_append.mp h with h | h
    · exact .inl h
    · exact .inr (List.mem_singleton.mp h)
theorem nd_putK2 {kvs : List (Key × V)} {k : Key} (v : V) (hn : (kvs.map (·.1)).Nodup) : ((putK kvs k v).map (·.1)).Nodup := by
  cases e : valV kvs k with
  | none => exact nd_putK v hn e
  | some u =>
    unfold putK
    rw [if_pos (by rw [valV_any, e]; rfl), List.map_map]
    have : ((·.1) ∘ fun kv : Key × V => if kv.1 = k then (kv.1, v) else kv) = (·.1) := by
      funext kv
      simp only [Function.comp]
      split <;> rfl
    rw [this]
    exact hn
theorem CtAt.put2 {kvs : List (Key × V)} {x : Nat} {l : Addr} (h : CtAt K CT CP CC H c a d ss qs av) (hd : H d = some (.dK kvs)) (hx : x ∈ reachL ss qs) (hl : H l = some (.lst (natV (cnt ss x)))) (hv : ¬ av l) :
    CtAt K CT CP CC (upd H d (.dK (putK kvs (Sum.inl (x : Int)) (.ref l)))) c a d ss qs av := by
  have B : But d H (upd H d (.dK (putK kvs (Sum.inl (x : Int)) (.ref l)))) := But.at But.refl
  obtain ⟨⟨dx, h1⟩, h2, ⟨kvs', k1, k2, ⟨v, k3⟩, k4⟩, h4⟩ := h
  rw [hd] at k1; cases k1
  refine ⟨⟨dx, B _ _ (fun z => by subst z; rw [hd] at h1; cases h1) h1⟩, h2.but B hd, ⟨_, upd_same, nd_putK2 _ k2, ?_, fun kv hkv => ?_⟩, h4⟩
  · rw [valV_put]
    split
    · exact ⟨_, rfl⟩
    · exact ⟨v, k3⟩
  · rcases mem_putK hkv with hkv | rfl
    · obtain ⟨x', l', e1, e2, e3⟩ := k4 kv hkv
      exact ⟨x', l', e1, e2, but_lst B hd e3.1, e3.2⟩
    · exact ⟨x, l, rfl, hx, but_lst B hd hl, hv⟩
theorem but_any {kvs : List (Key × V)} {b : Addr} {o : HO} (e : But d H H') (hd : H d = some (.dK kvs)) (h : H b = some o) (no : ∀ k, o ≠ .dK k) : H' b = some o := e _ _ (fun z => by subst z; rw [hd] at h; cases h; exact no _ rfl) h
/-- any part's start -/
theorem PartAt.start {v : V} {n y : Nat} {s : Stp} (h : PartAt CP H v n y s) : ∃ p dx len ty f l, v = .ref p ∧ H p = some (.ins CP dx (partF n len ty f l)) := by
  cases s with
  | wr w => obtain ⟨p, dx, e, q⟩ := h; exact ⟨p, dx, _, _, _, _, e, q⟩
  | pa f l t => obtain ⟨p, dx, e, q⟩ := h; exact ⟨p, dx, _, _, _, _, e, q⟩
def cntW (ss : List Stp) (a y i : Nat) : List Nat := (List.range (tyL ss).length).map fun k => cn ss a k + if y ≤ k ∧ k < y + i then 1 else 0
theorem cntW_zero (ss : List Stp) (a y : Nat) : cntW ss a y 0 = cnt ss a := by
  unfold cntW cnt
  apply List.map_congr_left
  intro k _
  rw [if_neg (by omega)]; rfl
theorem cntW_get {ss : List Stp} {a y i : Nat} (h : y + i < (tyL ss).length) : (natV (cntW ss a y i))[y + i]? = some (.int (cn ss a (y + i) : Nat)) := by
  unfold natV cntW
  rw [List.getElem?_map, List.getElem?_map, List.getElem?_range h]
  simp only [Option.map_some]
  rw [if_neg (by omega), Nat.add_zero]
theorem cntW_set {ss : List Stp} {a y i : Nat} : (natV (cntW ss a y i)).set (y + i) (.int ((cn ss a (y + i) : Nat) + 1)) = natV (cntW ss a y (i + 1)) := by
  apply List.ext_getElem
  · simp [natV, cntW]
  · intro k h1 h2
    rw [List.getElem_set]
    simp only [natV, cntW, List.getElem_map, List.getElem_range]
    by_cases e : y + i = k
    · rw [if_pos e, if_pos (by omega), ← e]; rfl
    · rw [if_neg e]
      congr 2
      by_cases h : y ≤ k ∧ k < y + i
      · rw [if_pos h, if_pos (by omega)]
      · rw [if_neg h, if_neg (by omega)]
theorem cntW_end {ss : List Stp} {j x : Nat} {w : Str} (ok : okFrom 0 ss) (h : ss[j]? = some (.wr w)) (h1 : sz (ss.take j) ≤ x) (h2 : x ≤ sz (ss.take (j + 1))) : cntW ss (sz (ss.take j)) (tyL (ss.take j)).length (x - sz (ss.take j)) = cnt ss x := by
  unfold cntW cnt
  apply List.map_congr_left
  intro k _
  exact (cn_wr ok h h1 h2 k).symm
theorem cnt_nat {ss : List Stp} {x k : Nat} (h : k < (tyL ss).length) : (cnt ss x)[k]?.getD 0 = cn ss x k := by rw [cnt_get h]; rfl
theorem natV_snoc (L : List Nat) (m : Nat) : natV (L ++ [m]) = natV L ++ [V.int (m : Nat)] := by unfold natV; rw [List.map_append]; rfl
theorem natV_get {L : List Nat} {i : Nat} (h : i < L.length) : ((natV L)[i]?).getD .non = .int (L[i]?.getD 0 : Nat) := by
  unfold natV; rw [List.getElem?_map, List.getElem?_eq_getElem h]; rfl
theorem wmul {i j : Int} (h1 : i.natAbs ≤ 1000000000000000000) (h2 : j.natAbs ≤ 1000000000000000000) : CMulW i j := wide_mul (a := 60) (b := 60) (by omega) (by omega) (by decide) (by decide) (by decide)
theorem ixN_natx {n j : Nat} (hj : j < n) : ixN n (j : Int) = some j := by
  unfold ixN
  rw [if_pos (by omega), if_pos (by omega)]
  simp
theorem pairy_enumN {l : Addr} {L : List Nat} (h : H l = some (.lst (natV L))) : Pairy (Ite K l) L.length (fun i => [.int (i : Nat), .int (L[i]?.getD 0 : Nat)]) H := by
  have P := pairy_enum (K := K) (SqL.of h)
  rw [natV_len] at P
  exact ⟨P.stop, P.go, fun i H1 x H2 s hi y => by
    obtain ⟨T, a, b, c⟩ := P.yld i H1 x H2 s hi y
    rw [natV_get hi] at b
    exact ⟨T, a, b, c⟩⟩
theorem pairy_zipN {l m : Addr} {L M : List Nat} (h : H l = some (.lst (natV L))) (g : H m = some (.lst (natV M))) : Pairy (Itz K l m) (min L.length M.length) (fun i => [.int (L[i]?.getD 0 : Nat), .int (M[i]?.getD 0 : Nat)]) H := by
  have P := pairy_zip (K := K) (SqL.of h) (SqL.of g)
  rw [natV_len, natV_len] at P
  exact ⟨P.stop, P.go, fun i H1 x H2 s hi y => by
    obtain ⟨T, a, b, c⟩ := P.yld i H1 x H2 s hi y
    rw [natV_get (by omega), natV_get (by omega)] at b
    exact ⟨T, a, b, c⟩⟩
theorem but_some {kvs : List (Key × V)} {b : Addr} (e : But d H H') (hd : H' d = some (.dK kvs)) (h : H b ≠ none) : H' b ≠ none := by
  by_cases z : b = d
  · subst z; rw [hd]; exact fun q => by cases q
  · cases hb : H b with
    | none => exact absurd hb h
    | some o => rw [e _ _ z hb]; exact fun q => by cases q
theorem same_some {b : Addr} (e : Same H H') (h : H b ≠ none) : H' b ≠ none := by
  cases hb : H b with
  | none => exact absurd hb h
  | some o => rw [e _ _ hb]; exact fun q => by cases q
theorem none_back {b : Addr} (e : Same H H') (h : H' b = none) : H b = none := by
  cases hb : H b with
  | none => rfl
  | some o => rw [e _ _ hb] at h; cases h
theorem none_but {kvs : List (Key × V)} {b : Addr} (e : But d H H') (hd : H' d = some (.dK kvs)) (h : H' b = none) : H b = none := by
  cases hb : H b with
  | none => rfl
  | some o => exact absurd h (but_some e hd (by rw [hb]; exact fun q => by cases q))
theorem CtAt.dk {qs : List Nat} (h : CtAt K CT CP CC H c a d ss qs av) : ∃ kvs, H d = some (.dK kvs) := let ⟨kvs, e, _⟩ := h.kn.ex; ⟨kvs, e⟩
/-- counters where all but the dict stands as it stood, and what is remembered avoids av -/
theorem CtAt.re {qs qs' : List Nat} {av' : Addr → Prop} (h : CtAt K CT CP CC H c a d ss qs av) (e : But d H H') (k : Known H' d ss qs' av') (hq : qs'.length ≤ 10000) : CtAt K CT CP CC H' c a d ss qs' av' := by
  obtain ⟨kvs, hd⟩ := h.dk
  obtain ⟨dx, hc⟩ := h.ins
  exact ⟨⟨dx, but_any e hd hc (fun k z => by cases z)⟩, h.tx.but e hd, k, hq⟩
/-- what is remembered does not stand at D -/
theorem Known.upd {qs : List Nat} {D : Addr} {o : HO} (k : Known H d ss qs av) (hD : av D) (hd : D ≠ d) : Known (upd H D o) d ss qs av := by
  obtain ⟨kvs, k1, k2, k3, k4⟩ := k
  refine ⟨kvs, by rw [upd_ne (Ne.symm hd)]; exact k1, k2, k3, fun kv hkv => ?_⟩
  obtain ⟨x, l, e1, e2, e3, e4⟩ := k4 kv hkv
  exact ⟨x, l, e1, e2, by rw [upd_ne (fun z => e4 (by rw [z]; exact hD))]; exact e3, e4⟩
theorem Known.less {qs : List Nat} {av' : Addr → Prop} (k : Known H d ss qs av) (h : ∀ b, av' b → av b) : Known H d ss qs av' := by
  obtain ⟨kvs, k1, k2, k3, k4⟩ := k
  exact ⟨kvs, k1, k2, k3, fun kv hkv => let ⟨x, l, e1, e2, e3, e4⟩ := k4 kv hkv; ⟨x, l, e1, e2, e3, fun z => e4 (h l z)⟩⟩
/-- a new address is avoided -/
theorem Known.fresh {qs : List Nat} {D : Addr} (k : Known H d ss qs av) (hD : H D = none) : Known H d ss qs (fun b => b = D ∨ av b) := by
  obtain ⟨kvs, k1, k2, k3, k4⟩ := k
  refine ⟨kvs, k1, k2, k3, fun kv hkv => ?_⟩
  obtain ⟨x, l, e1, e2, e3, e4⟩ := k4 kv hkv
  exact ⟨x, l, e1, e2, e3, fun z => z.elim (fun z => by subst z; rw [hD] at e3; cases e3) e4⟩
end
end L2.Px
set_option Elab.async false
set_option linter.all false
set_option maxRecDepth 100000
set_option maxHeartbeats 1000000
namespace L2.Px
open PySem PySem.Spec PyProof.Rows StX TL
/-- how often one of the keys stands ahead of p -/
def tot (ss : List Stp) (keys : List Nat) (p : Nat) : Nat := (keys.map (cn ss p)).sum
theorem tot_mono (ss : List Stp) (keys : List Nat) {a b : Nat} (h : a ≤ b) : tot ss keys a ≤ tot ss keys b := by
  unfold tot
  induction keys with
  | nil => simp
  | cons k r ih => simp only [List.map_cons, List.sum_cons]; have := cn_mono ss k h; omega
/-- p is the place at which one of the keys stands for the time n -/
def IsNth (ss : List Stp) (keys : List Nat) (n p : Nat) : Prop := p < sz ss ∧ tot ss keys p ≤ n ∧ n < tot ss keys (p + 1)
section
variable {K : PySem.W.Frag} {CT CP CC : Addr} {H H' H1 : Hp} {Q : VK} {E : XK} {c a d l D : Addr} {ss : List Stp} {qs : List Nat} {av : Addr → Prop} {L : List Nat} {o : HO}
theorem natV_ints (L : List Nat) : natV L = (L.map fun m => ((m : Nat) : Int)).map V.int := by unfold natV; rw [List.map_map]; rfl
/-- throughout a comprehension that asks the counter -/
def Asks (H1 : Hp) (d D : Addr) (ss : List Stp) (qs : List Nat) (av : Addr → Prop) (H : Hp) : Prop := But d H1 H ∧ Known H d ss qs (fun b => b = D ∨ av b)
theorem Asks.start (ct : CtAt K CT CP CC H1 c a d ss qs av) (hD : H1 D = none) : Asks H1 d D ss qs av (upd H1 D (.lst [])) := by
  obtain ⟨kvs, hd⟩ := ct.dk
  have nd : D ≠ d := fun z => by subst z; rw [hd] at hD; cases hD
  exact ⟨But.new But.refl hD, (ct.kn.fresh hD).upd (.inl rfl) nd⟩
theorem Asks.ct (ct : CtAt K CT CP CC H1 c a d ss qs av) (h : Asks H1 d D ss qs av H) : CtAt K CT CP CC H c a d ss qs (fun b => b = D ∨ av b) := ct.re h.1 h.2 ct.few
variable (K CT CP CC)
/-- first .. last, both included; empty: last = first - 1 -/
def sp_check_range : Sp := fun vs H Q _ => ∃ a ss, ∃ f e : Nat, vs = [.ref a, .int f, .int ((e : Int) - 1)] ∧ TX K CT CP H a ss ∧ f ≤ e ∧ e ≤ sz ss ∧ Q .non H
def sp_key_counts : Sp := fun vs H Q _ => ∃ a ss, ∃ f e : Nat, vs = [.ref a, .int f, .int ((e : Int) - 1)] ∧ TX K CT CP H a ss ∧ f ≤ e ∧ e ≤ sz ss ∧ ∀ H' l, Same H H' → H' l = some (.lst (natV ((List.range (tyL ss).length).map fun k => cn ss e k - cn ss f k))) → Q (.ref l) H'
end
end L2.Px
set_option Elab.async false
set_option linter.all false
set_option maxRecDepth 100000
set_option maxHeartbeats 1000000
namespace L2.Px
open PySem PySem.Spec PyProof.Rows StX TL
section
variable {K : PySem.W.Frag} {CT CP CC : Addr} {H H' H1 : Hp} {Q : VK} {E : XK} {c a d l D : Addr} {ss : List Stp} {qs : List Nat} {av : Addr → Prop} {i lo hi : Int}
theorem rd_isIntT (h : lo ≤ i ∧ i ≤ hi) (q : Q (.bl true) H) : sp_is_integer [.int i, .int lo, .int hi] H Q E := ⟨_, _, _, rfl, trivial, by rw [show isInt lo hi (.int i) = true from decide_eq_true h]; exact q⟩
theorem rd_mkCounter (h : TX K CT CP H a ss) (q : ∀ c d H', Same H H' → CtAt K CT CP CC H' c a d ss [] (fun b => H b ≠ none) → H d = none → Q (.ref c) H') : rMk CC (sp_Counter_init K CT CP CC) E [.ref a] H Q := by
  intro x dx nx nd ne
  have S1 : Same H (upd (upd H dx (.own x)) x (.ins CC dx [])) := Same.mut (Same.mut (Same.refl _) nd) nx
  refine ⟨x, dx, a, ss, rfl, upd_same, h.kp (Kp.same S1), fun H' d B ct hd => ⟨rfl, q x d H' (fun b o e => B _ _ (ne_of_none e nx) (S1 _ _ e)) ?_ ?_⟩⟩
  · exact ⟨ct.ins, ct.tx, ct.kn.less fun b hb => same_some S1 hb, ct.few⟩
  · cases e : H d with
    | none => rfl
    | some o => rw [S1 _ _ e] at hd; cases hd
theorem rd_mCheckKey {k : Nat} (h : TX K CT CP H a ss) (hk : k < (tyL ss).length) (q : Q .non H) : sp_Text_check_key K CT CP [.ref a, .int (k : Nat)] H Q E := by
  obtain ⟨t, T, rfl⟩ := h
  exact ⟨a, t, _, rfl, T, trivial, decide_eq_true (by omega), q⟩
theorem CtAt.insM {m : Str} (h : CtAt K CT CP CC H c a d ss qs av) (hm : m ≠ "known" ∧ m ≠ "text" := by decide +kernel) : InsM H c CC m := let ⟨dx, e⟩ := h.ins; ⟨dx, _, e, counterF_no hm⟩
/-- before of the 30 parts: a new question -/
theorem rd_before {x : Nat} (ct : CtAt K CT CP CC H c a d ss qs av) (hav : ∀ b, av b → H b ≠ none) (hx : x ≤ sz ss) (hq : qs.length < 10000)
    (q : ∀ H' l, But d H H' → CtAt K CT CP CC H' c a d ss (x :: qs) av → H' l = some (.lst (natV (cnt ss x))) → Q (.ref l) H') : sp_Counter_before K CT CP CC 30 [.ref c, .int (x : Nat)] H Q E :=
  ⟨c, a, d, ss, x :: qs, av, x, rfl, ct.query hq, hav, by rw [List.take_of_length_le ct.tx.few]; exact hx, by decide, reach_q (by decide), q⟩
theorem same_but (e : But d H1 H') (S : Same H H1) (hd : H d = none) : Same H H' := fun b o h => e b o (ne_of_none h hd) (S b o h)
theorem kc_eq (ss : List Stp) (f e : Nat) (h : f ≤ e) (k : Nat) : ((cn ss e k : Nat) : Int) - (cn ss f k : Nat) = ((cn ss e k - cn ss f k : Nat) : Int) := by
  have := cn_mono ss k h
  omega
def kcs (ss : List Stp) (f e : Nat) : List Nat := (List.range (tyL ss).length).map fun k => cn ss e k - cn ss f k
theorem rd_checkRange {i j : Int} (h : TX K CT CP H a ss) (h1 : 0 ≤ i) (h2 : i ≤ j + 1) (h3 : j + 1 ≤ sz ss) (q : Q .non H) : sp_check_range K CT CP [.ref a, .int i, .int j] H Q E :=
  ⟨a, ss, i.toNat, (j + 1).toNat, by rw [Int.toNat_of_nonneg h1, Int.toNat_of_nonneg (by omega), Int.add_sub_cancel], h, by omega, by omega, q⟩
theorem rd_keyCounts {i j : Int} (h : TX K CT CP H a ss) (h1 : 0 ≤ i) (h2 : i ≤ j + 1) (h3 : j + 1 ≤ sz ss) (q : ∀ l H', Same H H' → H' l = some (.lst (natV (kcs ss i.toNat (j + 1).toNat))) → Q (.ref l) H') : sp_key_counts K CT CP [.ref a, .int i, .int j] H Q E :=
  ⟨a, ss, i.toNat, (j + 1).toNat, by rw [Int.toNat_of_nonneg h1, Int.toNat_of_nonneg (by omega), Int.add_sub_cancel], h, by omega, by omega, fun H' l S e => q l H' S e⟩
theorem rd_insCt {m : Str} {A : Prop} (h : CtAt K CT CP CC H c a d ss qs av) (hm : m ≠ "known" ∧ m ≠ "text") (q : A) : InsM H c CC m ∧ A := ⟨h.insM hm, q⟩
variable (K CT CP)
end
end L2.Px
set_option Elab.async false
set_option linter.all false
set_option maxRecDepth 100000
set_option maxHeartbeats 1000000
namespace PySem
open Sem (wp)
end PySem
namespace L2.Px
open PySem PySem.Spec PyProof.Rows StX TL
end L2.Px
set_option Elab.async false
set_option linter.all false
set_option maxRecDepth 100000
set_option maxHeartbeats 1000000
namespace L2.Px
open PySem PySem.Spec PyProof.Rows StX TL
def NoX : XK := fun _ _ _ => False
/-- the places of k from f on, at most 100 -/
structure IsPl (ss : List Stp) (k f : Nat) (L : List Nat) : Prop where
  le : L.length ≤ 100
  nth : ∀ j, j < L.length → IsNth ss [k] (cn ss f k + j) (L[j]?.getD 0)
  all : L.length = 100 ∨ cn ss (sz ss) k ≤ cn ss f k + L.length
theorem tot_one (ss : List Stp) (k p : Nat) : tot ss [k] p = cn ss p k := by simp [tot]
end L2.Px
set_option Elab.async false
set_option linter.all false
set_option maxRecDepth 100000
set_option maxHeartbeats 1000000
namespace L2.Px
open PySem PySem.Spec PyProof.Rows StX TL
theorem sep2 (n a : Nat) (h : a < n) : ZipSep2 (n + 4 : Nat) (n + 2 : Nat) (n + 3 : Nat) n (n + 1 : Nat) [n] [(n + 1 : Nat), a] := by
  have ne : ∀ {x y : Nat}, x ≠ y → (show Addr from x) ≠ (show Addr from y) := fun h => h
  refine ⟨ne (by omega), ne (by omega), ne (by omega), ne (by omega), by simp, fun z => ?_, fun z => ?_, ne (by omega), by simp, fun z => ?_, fun z => ?_, fun z => ?_, fun z => ?_⟩
  all_goals
    have z : _ := List.mem_cons.mp z
    rcases z with z | z
    · exact absurd z (ne (by omega))
  all_goals
    first
    | exact absurd z (List.not_mem_nil)
    | (rcases List.mem_cons.mp z with z | z
       · exact absurd z (ne (by omega))
       · exact absurd z (List.not_mem_nil))
end L2.Px
set_option Elab.async false
set_option linter.all false
set_option maxRecDepth 100000
set_option maxHeartbeats 1000000
namespace L2.Px
open PySem PySem.Spec PyProof.Rows StX TL
end L2.Px
set_option Elab.async false
set_option linter.all false
set_option maxRecDepth 100000
set_option maxHeartbeats 1000000
namespace L2.Px
open PySem PySem.Spec PyProof.Rows StX TL
end L2.Px
set_option Elab.async false
set_option linter.all false
set_option maxRecDepth 100000
set_option maxHeartbeats 1000000
namespace L2.Px
open PySem PySem.Spec PyProof.Rows StX TL
section
variable (K : PySem.W.Frag) (CT CP : Addr)
def sp_x_law_long : Sp := fun vs H Q _ => ∃ r : Addr, vs = [.ref r] ∧ RowAt K H r ∧ ∀ a ss H', Kp H H' → RowAt K H' r → TX K CT CP H' a ss → 1 ≤ sz ss → sz ss ≤ 100000000000000040 → ss.length ≤ 15 → okLs ss → Q (.ref a) H'
end
section
variable {K : PySem.W.Frag} {CT CP : Addr} {H : Hp} {Q : VK} {E : XK} {r : Addr} {i : Int}
theorem rd_long (row : RowAt K H r) (q : ∀ a ss H', Kp H H' → RowAt K H' r → TX K CT CP H' a ss → 1 ≤ sz ss → sz ss ≤ 100000000000000040 → ss.length ≤ 15 → okLs ss → Q (.ref a) H') : sp_x_law_long K CT CP [.ref r] H Q E := ⟨r, rfl, row, q⟩
theorem rd_p6 (q : Q (.int 1000000) H) : rI CPow (fun i j => V.int (i ^ j.toNat)) (.int 10) (.int 6) H Q := rd_I ⟨by decide, by decide, by decide⟩ (by rw [show (10 : Int) ^ (6 : Int).toNat = 1000000 from by decide +kernel]; exact q)
theorem rd_p9 (q : Q (.int 1000000000) H) : rI CPow (fun i j => V.int (i ^ j.toNat)) (.int 10) (.int 9) H Q := rd_I ⟨by decide, by decide, by decide⟩ (by rw [show (10 : Int) ^ (9 : Int).toNat = 1000000000 from by decide +kernel]; exact q)
theorem rd_p17 (q : ∀ B : Int, B = 100000000000000000 → Q (.int B) H) : rI CPow (fun i j => V.int (i ^ j.toNat)) (.int 10) (.int 17) H Q := rd_I ⟨by decide, by decide, by decide⟩ (q _ (by decide +kernel))
theorem okLs.join {a b : List Stp} (h : okLs a) (g : okLs b) : okLs (joinS a b) := fun c hc => by
  rw [tyL_join] at hc
  exact (List.mem_append.mp hc).elim (h c) (g c)
theorem okLs.mul {a : List Stp} {n : Nat} (h : okLs a) : okLs (mulS a n) := fun c hc => h c (by rwa [tyL_mul] at hc)
end
end L2.Px
set_option Elab.async false
set_option linter.all false
set_option maxRecDepth 100000
set_option maxHeartbeats 1000000
namespace L2.Px
open PySem PySem.Spec PyProof.Rows StX TL
theorem sum_map_add (L : List Nat) (f g : Nat → Nat) : (L.map fun k => f k + g k).sum = (L.map f).sum + (L.map g).sum := by
  induction L with
  | nil => rfl
  | cons x L ih => simp only [List.map_cons, List.sum_cons, ih]; omega
theorem kcs_zero (ss : List Stp) (p : Nat) : kcs ss 0 p = (List.range (tyL ss).length).map (cn ss p) := by
  unfold kcs
  refine List.map_congr_left fun k _ => by rw [cn_zero, Nat.sub_zero]
theorem nth_unique {ss : List Stp} {keys : List Nat} {n p q : Nat} (h : IsNth ss keys n p) (g : IsNth ss keys n q) : p = q := by
  rcases Nat.lt_trichotomy p q with z | z | z
  · have := tot_mono ss keys (show p + 1 ≤ q from z)
    have := h.2.2; have := g.2.1; omega
  · exact z
  · have := tot_mono ss keys (show q + 1 ≤ p from z)
    have := g.2.2; have := h.2.1; omega
theorem tot_ind (keys : List Nat) (k : Nat) : (keys.map fun j => if k = j then 1 else 0).sum = keys.count k := by
  induction keys with
  | nil => rfl
  | cons x r ih => rw [List.map_cons, List.sum_cons, ih, List.count_cons]; simp only [beq_iff_eq]; by_cases z : k = x <;> simp [z, eq_comm, Nat.add_comm]
theorem tot_succ {ss : List Stp} (ok : okFrom 0 ss) (keys : List Nat) {p : Nat} (h : p < sz ss) : tot ss keys (p + 1) = tot ss keys p + keys.count (kat ss p) := by
  unfold tot
  rw [← tot_ind, ← sum_map_add]
  congr 1
  refine List.map_congr_left fun k _ => cn_succ ok h k
theorem cn_all {ss : List Stp} (ok : okFrom 0 ss) (k : Nat) : cn ss (sz ss) k = (ks ss).count k := by
  unfold cn; rw [List.take_of_length_le (by rw [ks_len ok]; exact Nat.le_refl _)]
end L2.Px
set_option Elab.async false
set_option linter.all false
set_option maxRecDepth 100000
set_option maxHeartbeats 1000000
namespace L2.Px
open PySem PySem.Spec PyProof.Rows StX TL
section
variable {K : PySem.W.Frag} {CT CP CC : Addr} {H H' H1 : Hp} {Q : VK} {E : XK} {a l : Addr} {ss : List Stp} {i j : Int} {L M : List Nat}
theorem IsPl.head {k f : Nat} (ok : okFrom 0 ss) (h : IsPl ss k f L) (hf : f < sz ss) (hk : kat ss f = k) : L[0]?.getD 0 = f ∧ 0 < L.length := by
  have e := tot_succ ok [k] hf
  rw [tot_one, tot_one, hk] at e
  simp at e
  have := cn_mono ss k (show f + 1 ≤ sz ss from hf)
  have hl : 0 < L.length := by have := h.all; omega
  refine ⟨nth_unique (h.nth 0 hl) ⟨hf, ?_, ?_⟩, hl⟩
  · rw [tot_one]; exact Nat.le_refl _
  · rw [tot_one]; omega
variable (K CT CP)
end
end L2.Px
set_option Elab.async false
set_option linter.all false
set_option maxRecDepth 100000
set_option maxHeartbeats 4000000
namespace L2.Px
open PySem PySem.Spec PyProof.Rows
end L2.Px
namespace L2.Px
open PySem PySem.Spec PyProof.Rows
end L2.Px
set_option Elab.async false
set_option linter.all false
set_option maxRecDepth 100000
set_option maxHeartbeats 1000000
namespace L2.Px
open PySem PySem.Spec PyProof.Rows StX TL
section
variable {ss : List Stp} {f l t : Nat}
theorem app_ok (ok : okFrom 0 (ss ++ [.pa f l t])) : okFrom 0 ss ∧ f ≤ l ∧ l < sz ss ∧ 1 ≤ t := by
  rw [okFrom_append, Nat.zero_add] at ok
  obtain ⟨a, ⟨b, c, d, e⟩, _⟩ := ok
  exact ⟨a, b, c, d⟩
end
/-- a list of the steps ss -/
def LX (K : PySem.W.Frag) (H : Hp) (a : Addr) (ss : List Stp) : Prop := ∃ ms, H a = some (.lst ms) ∧ StepsAt K H ms ss
section
variable {K : PySem.W.Frag} {CT CP : Addr} {H H' : Hp} {Q : VK} {E : XK} {a b r p : Addr} {ss : List Stp} {L M : List Nat}
theorem LX.mono (h : LX K H a ss) (e : Same H H') : LX K H' a ss := let ⟨ms, q, s⟩ := h; ⟨ms, e _ _ q, s.mono e⟩
end
end L2.Px
namespace L2.Px
open PySem PySem.Spec PyProof.Rows StX TL
end L2.Px
namespace L2.Px
open PySem PySem.Spec PyProof.Rows StX TL
end L2.Px
namespace L2.Px
open PySem PySem.Spec PyProof.Rows StX TL
end L2.Px
namespace L2.Px
open PySem PySem.Spec PyProof.Rows StX TL
end L2.Px
set_option Elab.async false
set_option linter.all false
set_option maxRecDepth 100000
set_option maxHeartbeats 1000000
namespace L2.Px
open PySem PySem.Spec PyProof.Rows StX TL
end L2.Px
namespace L2.Px
open PySem PySem.Spec PyProof.Rows StX TL
end L2.Px
namespace L2.Px
open PySem PySem.Spec PyProof.Rows StX TL
end L2.Px
set_option Elab.async false
set_option linter.all false
set_option maxRecDepth 100000
set_option maxHeartbeats 1000000
namespace L2.Px
open PySem PySem.Spec PyProof.Rows StX TL
/-- a def of the top whose last parameters have the defaults dvs -/
def DefGF (K : PySem.W.Frag) (mg : Str → Option Value) (x : Str) (st : Stmt) (ps : List Str) (dvs : List V) : Prop :=
  ∃ f fd, L2.FunD K x x (defArgs st) (defBody st) (defScope st) dvs [] f fd ∧ mg x = some (.ref f) ∧ (∃ ds, Vals dvs ds ∧ Binds K fd ps ds) ∧ Binds K fd ps []
section
variable {P : Program} {w : World} {K : PySem.W.Frag} {mg : Str → Option Value} {base : Heap} {k : Nat} {x : Str} {st : Stmt} {ps : List Str} {sp : Sp} {dvs : List V} {h : Heap} {f : Addr}
theorem DefGF.run {N : List Str} (D : DefGF K mg x st ps dvs) (S : FnScope N ps (defScope st)) (len : ∀ vs H Q E, sp vs H Q E → vs.length = ps.length)
    (hbody : ∀ (f : Addr) (cdv : Value) (A : Around) (outer : List Env) (s : Shared) (H : Hp) (vs : List V) (Q : VK) (E : XK), Room k (A.deeper (envOfC x (defScope st) s.heap.objs.size f cdv)) → sp vs H Q E →
      ∃ t, PSs (cxOf CX0 P w K mg base N x (defScope st) f cdv A outer s H E).nox (defBody st) t ∧ t { nx := fun _ H' => Q .non H', rt := Q } (start N vs) H) :
    GOk P w K mg base CX0 (k + 1) x (fun vs => sp (vs ++ dvs)) ∧ GOk P w K mg base CX0 (k + 1) x sp := by
  obtain ⟨f, fd, F, a, ⟨ds, hd, b⟩, b0⟩ := D
  have R := F.ok (CX := CX0) (P := P) (w := w) (mg := mg) (base := base) S len fun cdv A outer s H vs Q E hr h => by
    obtain ⟨t, ht, q⟩ := hbody f cdv A outer s H vs Q E hr h
    exact ⟨t, ht.nox, q⟩
  exact ⟨⟨f, FnOk.toR1 R b hd, a, F.kp⟩, ⟨f, FnOk.toR R b0, a, F.kp⟩⟩
theorem DefGF.ok {N : List Str} (D : DefGF K mg x st ps dvs) (S : FnScope N ps (defScope st)) (len : ∀ vs H Q E, sp vs H Q E → vs.length = ps.length)
    (hbody : ∀ (f : Addr) (cdv : Value) (A : Around) (outer : List Env) (s : Shared) (H : Hp) (vs : List V) (Q : VK) (E : XK), Room k (A.deeper (envOfC x (defScope st) s.heap.objs.size f cdv)) → sp vs H Q E →
      ∃ t, PSs (cxOf CX0 P w K mg base N x (defScope st) f cdv A outer s H E).nox (defBody st) t ∧ t { nx := fun _ H' => Q .non H', rt := Q } (start N vs) H) :
    GOk P w K mg base CX0 (k + 1) x (fun vs => sp (vs ++ dvs)) := (D.run S len hbody).1
end
end L2.Px
set_option Elab.async false
set_option linter.all false
set_option maxRecDepth 100000
set_option maxHeartbeats 1000000
namespace L2.Px
open PySem PySem.Spec PyProof.Rows StX TL
/-- how many keys stand ahead of p -/
noncomputable def few (l : List Nat) (p : Nat) : Nat := open Classical in if h : ∃ m, ∀ x, x ∈ l.take p ↔ x < m then h.choose else 0
section
variable {J : It} {n : Nat} {it : Nat → V} {H1 : Hp} {tt : TT} {te : TE} {vs : List Nat} {σ : St} {D : Addr} {Qd : Hp → Prop} {j : Nat}
/-- [f x for x in ..], the elements change the heap: Ps i holds behind i turns -/
theorem lc_sti (Ps : Nat → Hp → Prop) (P : ∀ i H, Ps i H → Plain J n it H) (h0 : Ps 0 (upd H1 D (.lst []))) (hn : n ≤ sizeLine) (hj : ∀ v, wipe ((wipe σ vs).set j (some v)) vs = wipe σ vs) (f : Nat → V)
    (hput : ∀ i H ys zs, Ps i H → H D = some (.lst ys) → Ps i (upd H D (.lst zs)))
    (hs : ∀ i H ys (Q : VK), i < n → Ps i H → H D = some (.lst ys) → (∀ H', Ps (i + 1) H' → H' D = some (.lst ys) → Q (f i) H') → te ((wipe σ vs).set j (some (it i))) H Q)
    (hd : ∀ H, Ps n H → H D = some (.lst ((List.range n).map f)) → Qd H) : LcW J (gName j) tYes te vs σ H1 D Qd := by
  refine ⟨fun i m H => m = n - i ∧ i ≤ n ∧ Ps i H ∧ H D = some (.lst ((List.range i).map f)), ⟨_, rfl, Nat.zero_le _, h0, upd_same⟩, ?_⟩
  rintro i m H ⟨rfl, hi, S, eD⟩
  have PP := P i H S
  by_cases hlt : i < n
  · refine .inr ⟨PP.go i H (Same.refl _) hlt, fun H' => i + 1 ≤ n ∧ Ps (i + 1) H' ∧ H' D = some (.lst ((List.range (i + 1)).map f)), fun H' z => ⟨n - (i + 1), by omega, rfl, z⟩, fun x H' y => ?_⟩
    obtain ⟨e1, e2⟩ := PP.yld i H x H' (Same.refl _) hlt y
    subst e1 e2
    refine ⟨hj _, ?_⟩
    refine rd_yes (iteT ?_)
    refine hs i H' _ _ hlt S eD fun H2 S2 e2 => ⟨_, e2, by rw [List.length_map, List.length_range]; omega, hlt, hput _ _ _ _ S2 e2, ?_⟩
    rw [upd_same, List.range_succ, List.map_append]
    rfl
  · have e : i = n := by omega
    subst e
    exact .inl ⟨PP.stop H (Same.refl _), hd H S eD⟩
end
end L2.Px
set_option Elab.async false
set_option linter.all false
set_option maxRecDepth 100000
set_option maxHeartbeats 1000000
namespace L2.Px
open PySem PySem.Spec PyProof.Rows StX TL
theorem mul_one (a : List Stp) : mulS a 1 = a := if_pos (.inl rfl)
end L2.Px
namespace L2.Px
open PySem PySem.Spec PyProof.Rows StX TL
end L2.Px
namespace L2.Px
open PySem PySem.Spec PyProof.Rows StX TL
theorem cutV_to (xs : List V) (j : Nat) : cutV xs none (some (j : Nat)) = xs.take j := by
  unfold cutV
  rw [HT.sIx_none, HT.sIx_nat]
  simp only [List.drop_zero, Nat.sub_zero]
  rcases Nat.le_total j xs.length with h | h
  · rw [Nat.min_eq_left h]
  · rw [Nat.min_eq_right h, List.take_of_length_le (Nat.le_refl _), List.take_of_length_le h]
theorem natV_take (L : List Nat) (n : Nat) : (natV L).take n = natV (L.take n) := by unfold natV; rw [List.map_take]
theorem rd_slNto {K : PySem.W.Frag} {H : Hp} {Q : VK} {a : Addr} {L : List Nat} {j : Nat} (h : H a = some (.lst (natV L))) (q : ∀ p H', Same H H' → H' p = some (.lst (natV (L.take j))) → Q (.ref p) H') : rSlL K (.ref a) none (some (j : Nat)) H Q :=
  rd_slL (SqL.of h) fun p hp => q p _ (Same.new (Same.refl _) hp) (by rw [upd_same, cutV_to, natV_take])
end L2.Px
namespace L2.Px
open PySem PySem.Spec PyProof.Rows StX TL
section
variable {K : PySem.W.Frag} {CT CP : Addr} {H H' H1 : Hp} {a b D r : Addr} {ss : List Stp} {as : List Addr} {o : HO} {xs : List V}
/-- a text stands where a list of texts is written -/
theorem TX.butL (h : TX K CT CP H a ss) (hD : H D = some (.lst (as.map V.ref))) (ht : ∀ b ∈ as, InsA H b CT) (hne : CT ≠ CP) (hs : ss ≠ []) : TX K CT CP (upd H D o) a ss := by
  obtain ⟨t, T, rfl⟩ := h
  have B : But D H (upd H D o) := But.at But.refl
  have f := free1_lst hD
  have npl : t.pl ≠ D := fun z => by
    have e := T.pls
    rw [z, hD] at e
    have e : as.map V.ref = t.ps := HO.lst.inj (Option.some.inj e)
    have hl := T.prt.1
    have h0 : 0 < t.ss.length := List.length_pos_iff.mpr hs
    obtain ⟨v, e1, e2⟩ := T.prt.2 0 _ (List.getElem?_eq_getElem h0)
    obtain ⟨p, dx, n, ty, f, l, rfl, ep⟩ := e2.start
    rw [← e, List.getElem?_map] at e1
    obtain ⟨c, hc, ec⟩ := Option.map_eq_some_iff.mp e1
    rw [V.ref.inj ec] at hc
    obtain ⟨dx', fs', ei⟩ := ht p (List.mem_of_getElem? hc)
    rw [ei] at ep
    cases ep
    exact hne rfl
  exact ⟨t, ⟨B _ _ (fun z => by have := T.ins; rw [z, hD] at this; cases this) T.ins, B.tup f T.made, B.steps f T.stp, B _ _ npl T.pls, T.prt.but B (fun dx fs z => by rw [hD] at z; cases z), T.ok, T.few⟩, rfl⟩
theorem InsA.butL {C : Addr} (h : InsA H b C) (hD : H D = some (.lst (as.map V.ref))) : InsA (upd H D o) b C := by
  obtain ⟨dx, fs, e⟩ := h
  exact ⟨dx, fs, by rw [upd_ne fun z => by rw [z, hD] at e; cases e]; exact e⟩
theorem RowAt.butL (h0 : RowAt K H1 r) (hk : Kp H1 H) (h1 : H1 D = none) (h : RowAt K H r) (hD : H D = some (.lst xs)) : RowAt K (upd H D o) r := by
  obtain ⟨sa, sc, i, s, e, h2, h3⟩ := h.ex
  obtain ⟨sa', sc', i', s', e', h2', h3'⟩ := h0.ex
  obtain ⟨i2, s2, e2, h2''⟩ := hk.rows _ _ _ _ _ h2'
  rw [h2] at h2''
  have esa : sa = sa' := by cases h2''; rfl
  subst esa
  have nr : r ≠ D := fun z => by rw [z, h1] at h2'; cases h2'
  rcases h3' with z' | z'
  · have ns : sa ≠ D := fun y => by subst y; rcases z' with z' | ⟨o', z'⟩ <;> rw [h1] at z' <;> cases z'
    refine ⟨sa, sc, i, s, e, by rw [upd_ne nr]; exact h2, ?_⟩
    rcases h3 with (z | ⟨o', z⟩) | z
    · exact .inl (.inl (by rw [upd_ne ns]; exact z))
    · exact .inl (.inr ⟨o', by rw [upd_ne ns]; exact z⟩)
    · exact .inr z
  · exact ⟨sa, sc', i, s, e, by rw [upd_ne nr]; exact h2, .inr z'⟩
end
end L2.Px
namespace L2.Px
open PySem PySem.Spec PyProof.Rows StX TL
end L2.Px
namespace L2.Px
open PySem PySem.Spec PyProof.Rows StX TL
theorem rd_mkText0 {K : PySem.W.Frag} {CT CP : Addr} {H : Hp} {Q : VK} {E : XK} (q : ∀ x H', Same H H' → TX K CT CP H' x [] → Q (.ref x) H') : rMk CT (spStar 1 (sp_Text_init K CT CP)) E [] H Q :=
  rd_mkText (rs := []) (ss := []) StepsAt.nil trivial (by decide) fun x Hc t _ S T e => q x Hc S ⟨t, T, e⟩
end L2.Px
set_option Elab.async false
set_option linter.all false
set_option maxRecDepth 100000
set_option maxHeartbeats 1000000
namespace L2.Px
open PySem PySem.Spec PyProof.Rows StX TL
open Sem (wp)
abbrev ZipX (h : Heap) (z TI TO : Addr) (f0 : Value) (fb : Bool) : Prop :=
  h.get? z = some { cls := .type "zip", dict := none, data := .fields #[f0, .bool fb, .bool false, .ref TI, .ref TO], slots := #[] }
abbrev OwnW (f0 : Value) : Prop := f0 = .none ∨ ∃ T : Nat, f0 = rawInt (T : Nat)
/-- the cells of a zip between two turns -/
def ZipW (h : Heap) (z TI TO : Addr) : Prop := ∃ f0 fb, OwnW f0 ∧ ZipX h z TI TO f0 fb
section
variable {prog : Program} {w : World} {A : Around} {E : Value → Shared → Prop} {s : Shared} {z TI TO i1 i2 : Addr} {fp1 fp2 : List Addr} {n1 n2 i : Nat} {P1 P2 : Nat → Value → Prop} {St1 St2 : Nat → Heap → Prop} {a1 a2 : Value}
theorem alive_any {a : Addr} {Q : Option Obj → Shared → Prop} (h : Q (s.heap.get? a) s) : wpAny (model prog w) A (loadIfAlive a) Q E s := fun _ _ _ => h
theorem zipW_free {f0 : Value} {fb : Bool} {Q : Bool → Shared → Prop} (hf : OwnW f0) (hz : ZipX s.heap z TI TO f0 fb)
    (hy : Q true s) (hn : ∀ h', ZipX h' z TI TO f0 true → Heap.SameBut z s.heap h' → Q false { s with heap := h' }) : wpAny (model prog w) A (Builtin.SmallTypes.ownedTupleIsFree (.ref z)) Q E s := by
  rcases hf with rfl | ⟨T, rfl⟩
  · unfold Builtin.SmallTypes.ownedTupleIsFree
    exact wpAny_bind (wpAny_field hz rfl (x := .none) rfl (wpAny_pure hy))
  · cases hT : s.heap.get? T with
    | some oT => exact wpAny_tupleHeld_zip hz hT hn
    | none =>
      unfold Builtin.SmallTypes.ownedTupleIsFree
      refine wpAny_bind (wpAny_field hz rfl (x := rawInt T) rfl ?_)
      show wpAny _ _ (loadIfAlive ((T : Int).toNat) >>= _) _ _ _
      rw [Int.toNat_natCast]
      refine wpAny_bind (alive_any ?_)
      rw [hT]
      simp only [Option.isNone_none, if_true]
      exact wpAny_pure hy
theorem zipW_item {f0 : Value} {fb : Bool} {Q : Value → Shared → Prop} (S : ZipSep2 z TI TO i1 i2 fp1 fp2) (D1 : Draws prog w A i1 fp1 n1 P1 St1) (D2 : Draws prog w A i2 fp2 n2 P2 St2)
    (hf : OwnW f0) (hz : ZipX s.heap z TI TO f0 fb) (hTI : IsTupOf2 s.heap TI (.ref i1) (.ref i2)) (hTO : IsTupOf2 s.heap TO a1 a2) (st1 : St1 i s.heap) (st2 : St2 i s.heap) (hlt1 : i < n1) (hlt2 : i < n2)
    (hQ : ∀ x1 x2 h' tk, P1 i x1 → P2 i x2 → ZipW h' z TI TO → (∃ b1 b2, IsTupOf2 h' TO b1 b2) → St1 (i + 1) h' → St2 (i + 1) h' → IsTupOf2 h' s.heap.objs.size x1 x2 → h'.objs.size = s.heap.objs.size + 1 →
      (∀ c o, c ∉ [z, TO, i1, i2] → s.heap.get? c = some o → h'.get? c = some o) → Q (.ref s.heap.objs.size) { s with heap := h', toks := tk }) :
    wpAny (model prog w) A (Builtin.«zip.__next__» ⟨[.ref z], []⟩) (fun fin s' => ∃ v, fin = .done (.ret v) ∧ Q v s') E s := by
  obtain ⟨hp, g, d, tk0, os⟩ := s
  show wpAny _ _ (field (.ref z) 2 >>= _) _ _ _
  refine wpAny_bind (wpAny_field hz rfl (x := .bool false) rfl ?_)
  show wpAny _ _ (field (.ref z) 3 >>= _) _ _ _
  refine wpAny_bind (wpAny_field hz rfl (x := .ref TI) rfl ?_)
  refine wpAny_bind (wpAny_seqItems hTI rfl ?_)
  show wpAny _ _ (Builtin.SmallTypes.ownedTupleIsFree (.ref z) >>= _) _ _ _
  refine wpAny_bind (zipW_free hf hz ?_ fun m0 zm0 sm0 => ?_)
  · simp only [if_true]
    refine wpAny_bind (wpAny_rule ?_)
    refine wpAny_bind (wpAny_field hz rfl (x := .ref TO) rfl ?_)
    refine wpAny_bind (wpAny_setField_rec hz (by simp) fun m0 zm0 sm0 => ?_)
    replace zm0 : ZipX m0 z TI TO .ellipsis fb := zm0
    replace sm0 : Heap.SameBut z hp m0 := sm0
    refine wpAny_bind ?_
    simp only [List.zipIdx_cons, List.zipIdx_nil, List.forIn_cons, List.forIn_nil]
    refine wpAny_bind (wpAny_bind (wpAny_onRaise ?_))
    show wpAny _ _ (Builtin.SmallTypes.nextOf (.ref i1) >>= _) _ _ ⟨m0, g, d, tk0, os⟩
    refine wpAny_bind (D1.item i _ _ _ hlt1 (D1.over st1 sm0 S.zf1) fun x1 m1 k1 px1 q1 sm1 => wpAny_pure ?_)
    replace sm1 : Heap.SameBut i1 m0 m1 := sm1
    have u1 : IsTupOf2 m1 TO a1 a2 := sm1.extBut _ _ S.Ti1 (sm0.extBut _ _ S.TOz hTO)
    refine wpAny_bind (wpAny_seqItems (s := ⟨m1, g, d, k1, os⟩) u1 rfl ?_)
    refine wpAny_bind (updateSeq_IsTupOf2 (s := ⟨m1, g, d, k1, os⟩) u1 fun m2 u2 sm2 => ?_)
    replace u2 : IsTupOf2 m2 TO x1 a2 := u2
    replace sm2 : Heap.SameBut TO m1 m2 := sm2
    refine wpAny_bind (wpAny_letGo (wpAny_pure ?_))
    refine wpAny_bind (wpAny_bind (wpAny_onRaise ?_))
    show wpAny _ _ (Builtin.SmallTypes.nextOf (.ref i2) >>= _) _ _ ⟨m2, g, d, k1, os⟩
    refine wpAny_bind (D2.item i _ _ _ hlt2 (D2.over (D2.over (D2.over st2 sm0 S.zf2) sm1 S.sep1_2) sm2 S.Tf2) fun x2 m3 k2 px2 q2 sm3 => wpAny_pure ?_)
    replace sm3 : Heap.SameBut i2 m2 m3 := sm3
    have u3 : IsTupOf2 m3 TO x1 a2 := sm3.extBut _ _ S.Ti2 u2
    refine wpAny_bind (wpAny_seqItems (s := ⟨m3, g, d, k2, os⟩) u3 rfl ?_)
    refine wpAny_bind (updateSeq_IsTupOf2 (s := ⟨m3, g, d, k2, os⟩) u3 fun m4 u4 sm4 => ?_)
    replace u4 : IsTupOf2 m4 TO x1 x2 := u4
    replace sm4 : Heap.SameBut TO m3 m4 := sm4
    refine wpAny_bind (wpAny_letGo (wpAny_pure (wpAny_pure ?_)))
    refine wpAny_bind (wpAny_seqItems (s := ⟨m4, g, d, k2, os⟩) u4 rfl ?_)
    refine wpAny_bind (wpAny_newTuple ?_)
    have sz : m4.objs.size = hp.objs.size := by rw [sm4.1, sm3.1, sm2.1, sm1.1, sm0.1]
    have z4 : ZipX m4 z TI TO .ellipsis fb := sm4.extBut _ _ S.TOz.symm (sm3.extBut _ _ S.zi2 (sm2.extBut _ _ S.TOz.symm (sm1.extBut _ _ S.zi1 zm0)))
    have kp : ∀ c o, c ∉ [z, TO, i1, i2] → hp.get? c = some o → m4.get? c = some o := fun c o hc e => by
      have c1 : c ≠ z := fun q => hc (by simp [q])
      have c2 : c ≠ TO := fun q => hc (by simp [q])
      have c3 : c ≠ i1 := fun q => hc (by simp [q])
      have c4 : c ≠ i2 := fun q => hc (by simp [q])
      exact sm4.extBut _ _ c2 (sm3.extBut _ _ c4 (sm2.extBut _ _ c2 (sm1.extBut _ _ c3 (sm0.extBut _ _ c1 e))))
    have j1 : St1 (i + 1) m4 := D1.over (D1.over (D1.over q1 sm2 S.Tf1) sm3 S.sep2_1) sm4 S.Tf1
    have j2 : St2 (i + 1) m4 := D2.over q2 sm4 S.Tf2
    have zl : z < m4.objs.size := Heap.lt_size z4
    show wpAny _ _ (Builtin.SmallTypes.ownedTupleHandOut (.ref z) (.ref m4.objs.size) >>= _) _ _ ⟨m4.push { cls := .type "tuple", data := .seq #[x1, x2] }, g, d, k2, os⟩
    refine wpAny_bind ?_
    unfold Builtin.SmallTypes.ownedTupleHandOut
    have z5 : ZipX (m4.push { cls := .type "tuple", data := .seq #[x1, x2] }) z TI TO .ellipsis fb := Heap.get?_push_of_some _ z4
    refine wpAny_bind (wpAny_setField_rec z5 (by simp) fun m6 z6 sm6 => ?_)
    replace z6 : ZipX m6 z TI TO (rawInt m4.objs.size) fb := z6
    refine wpAny_setField_rec z6 (by simp) fun m7 z7 sm7 => ?_
    replace z7 : ZipX m7 z TI TO (rawInt m4.objs.size) false := z7
    replace sm6 : Heap.SameBut z (m4.push { cls := .type "tuple", data := .seq #[x1, x2] }) m6 := sm6
    replace sm7 : Heap.SameBut z m6 m7 := sm7
    have up : ∀ c o, c ≠ z → m4.get? c = some o → m7.get? c = some o := fun c o c1 e => sm7.extBut _ _ c1 (sm6.extBut _ _ c1 (Heap.get?_push_of_some _ e))
    have t7 : IsTupOf2 m7 m4.objs.size x1 x2 := sm7.extBut _ _ (Nat.ne_of_gt zl) (sm6.extBut _ _ (Nat.ne_of_gt zl) (Heap.get?_push_size _ rfl))
    have l7 : m7.objs.size = m4.objs.size + 1 := by rw [sm7.1, sm6.1, Heap.size_push]
    rw [sz] at z7 t7 l7
    refine wpAny_pure ⟨_, rfl, ?_⟩
    show Q (.ref m4.objs.size) ⟨m7, g, d, k2, os⟩
    rw [sz]
    exact hQ x1 x2 m7 k2 px1 px2 ⟨_, _, .inr ⟨_, rfl⟩, z7⟩ ⟨_, _, up _ _ S.TOz u4⟩ (D1.frame _ _ _ j1 fun b hb o e => up b o (fun q => S.zf1 (q ▸ hb)) e) (D2.frame _ _ _ j2 fun b hb o e => up b o (fun q => S.zf2 (q ▸ hb)) e) t7 l7
      fun c o hc e => up c o (fun q => hc (by simp [q])) (kp c o hc e)
  · simp only [Bool.false_eq_true, if_false]
    replace sm0 : Heap.SameBut z hp m0 := sm0
    refine wpAny_bind ?_
    rw [← Array.forIn_toList]
    simp only [List.forIn_cons, List.forIn_nil]
    refine wpAny_bind (wpAny_bind (wpAny_holding ?_))
    show wpAny _ _ (Builtin.SmallTypes.nextOf (.ref i1) >>= _) _ _ ⟨m0, g, d, tk0, os⟩
    refine wpAny_bind (D1.item i _ _ _ hlt1 (D1.over st1 sm0 S.zf1) fun x1 m1 k1 px1 q1 sm1 => wpAny_pure ?_)
    replace sm1 : Heap.SameBut i1 m0 m1 := sm1
    refine wpAny_pure ?_
    refine wpAny_bind (wpAny_bind (wpAny_holding ?_))
    show wpAny _ _ (Builtin.SmallTypes.nextOf (.ref i2) >>= _) _ _ ⟨m1, g, d, k1, os⟩
    refine wpAny_bind (D2.item i _ _ _ hlt2 (D2.over (D2.over st2 sm0 S.zf2) sm1 S.sep1_2) fun x2 m2 k2 px2 q2 sm2 => wpAny_pure ?_)
    replace sm2 : Heap.SameBut i2 m1 m2 := sm2
    refine wpAny_pure (wpAny_pure ?_)
    show wpAny _ _ (newTuple [x1, x2] >>= _) _ _ ⟨m2, g, d, k2, os⟩
    refine wpAny_bind (wpAny_newTuple ?_)
    have sz : m2.objs.size = hp.objs.size := by rw [sm2.1, sm1.1, sm0.1]
    have z2 : ZipX m2 z TI TO f0 true := sm2.extBut _ _ S.zi2 (sm1.extBut _ _ S.zi1 zm0)
    have t2 : IsTupOf2 m2 TO a1 a2 := sm2.extBut _ _ S.Ti2 (sm1.extBut _ _ S.Ti1 (sm0.extBut _ _ S.TOz hTO))
    have j1 : St1 (i + 1) m2 := D1.over q1 sm2 S.sep2_1
    refine wpAny_pure ⟨_, rfl, ?_⟩
    show Q (.ref m2.objs.size) ⟨m2.push { cls := .type "tuple", data := .seq #[x1, x2] }, g, d, k2, os⟩
    have t3 : IsTupOf2 (m2.push { cls := .type "tuple", data := .seq #[x1, x2] }) m2.objs.size x1 x2 := Heap.get?_push_size _ rfl
    have l3 : (m2.push { cls := .type "tuple", data := .seq #[x1, x2] }).objs.size = m2.objs.size + 1 := Heap.size_push ..
    rw [sz] at t3 l3 ⊢
    exact hQ x1 x2 _ k2 px1 px2 ⟨_, _, hf, Heap.get?_push_of_some _ z2⟩ ⟨_, _, Heap.get?_push_of_some _ t2⟩ (D1.frame _ _ _ j1 fun b _ o e => Heap.get?_push_of_some _ e) (D2.frame _ _ _ q2 fun b _ o e => Heap.get?_push_of_some _ e) t3 l3
      fun c o hc e => Heap.get?_push_of_some _ (sm2.extBut _ _ (fun q => hc (by simp [q])) (sm1.extBut _ _ (fun q => hc (by simp [q])) (sm0.extBut _ _ (fun q => hc (by simp [q])) e)))
theorem zipW_end {f0 : Value} {fb : Bool} {Q : Fin → Shared → Prop} (S : ZipSep2 z TI TO i1 i2 fp1 fp2) (D1 : Draws prog w A i1 fp1 n1 P1 St1) (D2 : Draws prog w A i2 fp2 n2 P2 St2)
    (hf : OwnW f0) (hz : ZipX s.heap z TI TO f0 fb) (hTI : IsTupOf2 s.heap TI (.ref i1) (.ref i2)) (hTO : IsTupOf2 s.heap TO a1 a2) (st1 : St1 i s.heap) (st2 : St2 i s.heap) (hle1 : i ≤ n1) (hle2 : i ≤ n2) (hend : i = n1 ∨ i = n2)
    (hE : ∀ h' tk e, (∀ c o, c ∉ [z, TO, i1, i2] → s.heap.get? c = some o → h'.get? c = some o) → (∃ o, h'.get? e = some o ∧ o.cls = .type "StopIteration") → E (.ref e) { s with heap := h', toks := tk }) :
    wpAny (model prog w) A (Builtin.«zip.__next__» ⟨[.ref z], []⟩) Q E s := by
  obtain ⟨hp, g, d, tk0, os⟩ := s
  show wpAny _ _ (field (.ref z) 2 >>= _) _ _ _
  refine wpAny_bind (wpAny_field hz rfl (x := .bool false) rfl ?_)
  show wpAny _ _ (field (.ref z) 3 >>= _) _ _ _
  refine wpAny_bind (wpAny_field hz rfl (x := .ref TI) rfl ?_)
  refine wpAny_bind (wpAny_seqItems hTI rfl ?_)
  show wpAny _ _ (Builtin.SmallTypes.ownedTupleIsFree (.ref z) >>= _) _ _ _
  refine wpAny_bind (zipW_free hf hz ?_ fun m0 zm0 sm0 => ?_)
  · simp only [if_true]
    refine wpAny_bind (wpAny_rule ?_)
    refine wpAny_bind (wpAny_field hz rfl (x := .ref TO) rfl ?_)
    refine wpAny_bind (wpAny_setField_rec hz (by simp) fun m0 zm0 sm0 => ?_)
    replace zm0 : ZipX m0 z TI TO .ellipsis fb := zm0
    replace sm0 : Heap.SameBut z hp m0 := sm0
    refine wpAny_bind ?_
    simp only [List.zipIdx_cons, List.zipIdx_nil, List.forIn_cons, List.forIn_nil]
    refine wpAny_bind (wpAny_bind (wpAny_onRaise ?_))
    show wpAny _ _ (Builtin.SmallTypes.nextOf (.ref i1) >>= _) _ _ ⟨m0, g, d, tk0, os⟩
    by_cases hlt1 : i < n1
    · refine wpAny_bind (D1.item i _ _ _ hlt1 (D1.over st1 sm0 S.zf1) fun x1 m1 k1 px1 q1 sm1 => wpAny_pure ?_)
      replace sm1 : Heap.SameBut i1 m0 m1 := sm1
      have u1 : IsTupOf2 m1 TO a1 a2 := sm1.extBut _ _ S.Ti1 (sm0.extBut _ _ S.TOz hTO)
      refine wpAny_bind (wpAny_seqItems (s := ⟨m1, g, d, k1, os⟩) u1 rfl ?_)
      refine wpAny_bind (updateSeq_IsTupOf2 (s := ⟨m1, g, d, k1, os⟩) u1 fun m2 u2 sm2 => ?_)
      replace sm2 : Heap.SameBut TO m1 m2 := sm2
      refine wpAny_bind (wpAny_letGo (wpAny_pure ?_))
      have hi2 : i = n2 := by omega
      refine wpAny_bind (wpAny_bind (wpAny_onRaise ?_))
      show wpAny _ _ (Builtin.SmallTypes.nextOf (.ref i2) >>= _) _ _ ⟨m2, g, d, k1, os⟩
      refine wpAny_bind (D2.done ⟨m2, g, d, k1, os⟩ _ _ (by rw [← hi2]; exact (D2.over (D2.over (D2.over st2 sm0 S.zf2) sm1 S.sep1_2) sm2 S.Tf2)) fun q e hq he => ?_)
      replace hq : Heap.ExtBut i2 m2 q := hq
      obtain ⟨oe, hoe, hce⟩ := he
      replace hoe : q.get? e = some oe := hoe
      have hzq : ZipX q z TI TO .ellipsis fb := hq _ _ S.zi2 (sm2.extBut _ _ S.TOz.symm (sm1.extBut _ _ S.zi1 zm0))
      have hez : e ≠ z := fun x => by subst x; rw [hzq] at hoe; cases hoe; simp at hce
      refine wpAny_setField_rec (s := ⟨q, g, d, k1, os⟩) hzq (by simp) fun q' _ hq' => ?_
      replace hq' : Heap.SameBut z q q' := hq'
      refine hE q' k1 e (fun c o hc x => ?_) ⟨oe, hq'.extBut _ _ hez hoe, hce⟩
      have c1 : c ≠ z := fun q => hc (by simp [q])
      have c2 : c ≠ TO := fun q => hc (by simp [q])
      have c3 : c ≠ i1 := fun q => hc (by simp [q])
      have c4 : c ≠ i2 := fun q => hc (by simp [q])
      exact hq'.extBut _ _ c1 (hq _ _ c4 (sm2.extBut _ _ c2 (sm1.extBut _ _ c3 (sm0.extBut _ _ c1 x))))
    · have hi1 : i = n1 := by omega
      refine wpAny_bind (D1.done ⟨m0, g, d, tk0, os⟩ _ _ (by rw [← hi1]; exact (D1.over st1 sm0 S.zf1)) fun q e hq he => ?_)
      replace hq : Heap.ExtBut i1 m0 q := hq
      obtain ⟨oe, hoe, hce⟩ := he
      replace hoe : q.get? e = some oe := hoe
      have hzq : ZipX q z TI TO .ellipsis fb := hq _ _ S.zi1 zm0
      have hez : e ≠ z := fun x => by subst x; rw [hzq] at hoe; cases hoe; simp at hce
      refine wpAny_setField_rec (s := ⟨q, g, d, tk0, os⟩) hzq (by simp) fun q' _ hq' => ?_
      replace hq' : Heap.SameBut z q q' := hq'
      exact hE q' tk0 e (fun c o hc x => hq'.extBut _ _ (fun q => hc (by simp [q])) (hq _ _ (fun q => hc (by simp [q])) (sm0.extBut _ _ (fun q => hc (by simp [q])) x))) ⟨oe, hq'.extBut _ _ hez hoe, hce⟩
  · simp only [Bool.false_eq_true, if_false]
    replace sm0 : Heap.SameBut z hp m0 := sm0
    refine wpAny_bind ?_
    rw [← Array.forIn_toList]
    simp only [List.forIn_cons, List.forIn_nil]
    refine wpAny_bind (wpAny_bind (wpAny_holding ?_))
    show wpAny _ _ (Builtin.SmallTypes.nextOf (.ref i1) >>= _) _ _ ⟨m0, g, d, tk0, os⟩
    by_cases hlt1 : i < n1
    · refine wpAny_bind (D1.item i _ _ _ hlt1 (D1.over st1 sm0 S.zf1) fun x1 m1 k1 px1 q1 sm1 => wpAny_pure ?_)
      replace sm1 : Heap.SameBut i1 m0 m1 := sm1
      refine wpAny_pure ?_
      have hi2 : i = n2 := by omega
      refine wpAny_bind (wpAny_bind (wpAny_holding ?_))
      show wpAny _ _ (Builtin.SmallTypes.nextOf (.ref i2) >>= _) _ _ ⟨m1, g, d, k1, os⟩
      refine wpAny_bind (D2.done ⟨m1, g, d, k1, os⟩ _ _ (by rw [← hi2]; exact (D2.over (D2.over st2 sm0 S.zf2) sm1 S.sep1_2)) fun q e hq he => ?_)
      replace hq : Heap.ExtBut i2 m1 q := hq
      exact hE q k1 e (fun c o hc x => hq _ _ (fun q => hc (by simp [q])) (sm1.extBut _ _ (fun q => hc (by simp [q])) (sm0.extBut _ _ (fun q => hc (by simp [q])) x))) he
    · have hi1 : i = n1 := by omega
      refine wpAny_bind (D1.done ⟨m0, g, d, tk0, os⟩ _ _ (by rw [← hi1]; exact (D1.over st1 sm0 S.zf1)) fun q e hq he => ?_)
      replace hq : Heap.ExtBut i1 m0 q := hq
      exact hE q tk0 e (fun c o hc x => hq _ _ (fun q => hc (by simp [q])) (sm0.extBut _ _ (fun q => hc (by simp [q])) x)) he
theorem zipW_nextOf {Q : Value → Shared → Prop} (S : ZipSep2 z TI TO i1 i2 fp1 fp2) (D1 : Draws prog w A.in1 i1 fp1 n1 P1 St1) (D2 : Draws prog w A.in1 i2 fp2 n2 P2 St2)
    (hz : ZipW s.heap z TI TO) (hTI : IsTupOf2 s.heap TI (.ref i1) (.ref i2)) (hTO : IsTupOf2 s.heap TO a1 a2) (st1 : St1 i s.heap) (st2 : St2 i s.heap) (hlt1 : i < n1) (hlt2 : i < n2)
    (hQ : ∀ x1 x2 h' tk, P1 i x1 → P2 i x2 → ZipW h' z TI TO → (∃ b1 b2, IsTupOf2 h' TO b1 b2) → St1 (i + 1) h' → St2 (i + 1) h' → IsTupOf2 h' s.heap.objs.size x1 x2 → h'.objs.size = s.heap.objs.size + 1 →
      (∀ c o, c ∉ [z, TO, i1, i2] → s.heap.get? c = some o → h'.get? c = some o) → Q (.ref s.heap.objs.size) { s with heap := h', toks := tk }) :
    wpAny (model prog w) A (Builtin.SmallTypes.nextOf (.ref z)) Q E s := by
  obtain ⟨f0, fb, hf, hz⟩ := hz
  have hT : s.TypeIs (.ref z) "zip" := ⟨_, hz, rfl⟩
  unfold Builtin.SmallTypes.nextOf
  exact wpAny_bind (wpAny_callSpecial?_slot (name := Str.ofString "__next__") hT F.slot_zip_next
    (wpAny_call_entry F.slot_zip_next hT F.entry_zip_next
      (zipW_item S D1 D2 hf hz hTI hTO st1 st2 hlt1 hlt2 fun x1 x2 h' tk y1 y2 b1 b2 d1 d2 b5 b6 b7 => wpAny_pure (hQ x1 x2 h' tk y1 y2 b1 b2 d1 d2 b5 b6 b7)) (F.args_zip_next_1 _)))
theorem zipW_nextEnd {Q : Value → Shared → Prop} (S : ZipSep2 z TI TO i1 i2 fp1 fp2) (D1 : Draws prog w A.in1 i1 fp1 n1 P1 St1) (D2 : Draws prog w A.in1 i2 fp2 n2 P2 St2)
    (hz : ZipW s.heap z TI TO) (hTI : IsTupOf2 s.heap TI (.ref i1) (.ref i2)) (hTO : IsTupOf2 s.heap TO a1 a2) (st1 : St1 i s.heap) (st2 : St2 i s.heap) (hle1 : i ≤ n1) (hle2 : i ≤ n2) (hend : i = n1 ∨ i = n2)
    (hE : ∀ h' tk e, (∀ c o, c ∉ [z, TO, i1, i2] → s.heap.get? c = some o → h'.get? c = some o) → (∃ o, h'.get? e = some o ∧ o.cls = .type "StopIteration") → E (.ref e) { s with heap := h', toks := tk }) :
    wpAny (model prog w) A (Builtin.SmallTypes.nextOf (.ref z)) Q E s := by
  obtain ⟨f0, fb, hf, hz⟩ := hz
  have hT : s.TypeIs (.ref z) "zip" := ⟨_, hz, rfl⟩
  unfold Builtin.SmallTypes.nextOf
  exact wpAny_bind (wpAny_callSpecial?_slot (name := Str.ofString "__next__") hT F.slot_zip_next
    (wpAny_call_entry F.slot_zip_next hT F.entry_zip_next (zipW_end S D1 D2 hf hz hTI hTO st1 st2 hle1 hle2 hend hE) (F.args_zip_next_1 _)))
/-- enumerate's turn over an iterator that makes one new object of its own -/
theorem enumW_item {e : Addr} {i : Nat} {old : Value} {G : Heap → Prop} {ch : List Addr} {Q : Value → Shared → Prop} (he : IsEnum s.heap e z i old) (hec : e ∉ ch)
    (hn : ∀ Q : Value → Shared → Prop, (∀ m tk, G m → m.objs.size = s.heap.objs.size + 1 → (∀ b o, b ∉ ch → s.heap.get? b = some o → m.get? b = some o) → Q (.ref s.heap.objs.size) { s with heap := m, toks := tk }) →
      wpAny (model prog w) A (Builtin.SmallTypes.nextOf (.ref z)) Q E s)
    (hQ : ∀ m h' tk, G m → m.objs.size = s.heap.objs.size + 1 → (∀ b o, b ∉ ch → s.heap.get? b = some o → m.get? b = some o) → IsEnumOut h' e z ((i : Int) + 1) (.ref s.heap.objs.size) (s.heap.objs.size + 1) →
      h'.get? (s.heap.objs.size + 1) = some { cls := .type "tuple", data := .seq #[.int i tk, .ref s.heap.objs.size] } → h'.objs.size = s.heap.objs.size + 2 →
      (∀ b o, b ≠ e → m.get? b = some o → h'.get? b = some o) → Q (.ref (s.heap.objs.size + 1)) { s with heap := h', toks := tk + 1 }) :
    wpAny (model prog w) A (Builtin.«enumerate.__next__» ⟨[.ref e], []⟩) (fun fin s' => ∃ v, fin = .done (.ret v) ∧ Q v s') E s := by
  obtain ⟨hp, g, d, tk0, os⟩ := s
  show wpAny _ _ (field (.ref e) 2 >>= _) _ _ _
  refine wpAny_bind (wpAny_field he rfl (x := .ref z) rfl ?_)
  refine wpAny_bind (hn _ fun m tk Gm lm km => ?_)
  replace lm : m.objs.size = hp.objs.size + 1 := lm
  replace km : ∀ b o, b ∉ ch → hp.get? b = some o → m.get? b = some o := km
  have e1 : IsEnum m e z i old := km _ _ hec he
  have el : e < hp.objs.size := Heap.lt_size he
  generalize hx : Value.ref (Shared.mk hp g d tk0 os).heap.objs.size = x
  show wpAny _ _ (field (.ref e) 3 >>= _) _ _ ⟨m, g, d, tk, os⟩
  refine wpAny_bind (wpAny_field e1 rfl (x := rawInt i) rfl ?_)
  show wpAny _ _ (field (.ref e) 4 >>= _) _ _ ⟨m, g, d, tk, os⟩
  refine wpAny_bind (wpAny_field e1 rfl (x := .none) rfl ?_)
  show wpAny _ _ (mkInt i >>= _) _ _ ⟨m, g, d, tk, os⟩
  refine wpAny_bind (wpAny_mkInt ?_)
  show wpAny _ _ (setField (.ref e) 3 (rawInt ((i : Int) + 1)) >>= _) _ _ ⟨m, g, d, tk + 1, os⟩
  refine wpAny_bind (wpAny_setField_rec e1 (by simp) fun m2 e2 s2 => ?_)
  replace s2 : Heap.SameBut e m m2 := s2
  replace e2 : IsEnum m2 e z ((i : Int) + 1) old := e2
  show wpAny _ _ (setField (.ref e) 4 .none >>= _) _ _ ⟨m2, g, d, tk + 1, os⟩
  refine wpAny_bind (wpAny_setField_rec e2 (by simp) fun m3 e3 s3 => ?_)
  replace s3 : Heap.SameBut e m2 m3 := s3
  replace e3 : IsEnum m3 e z ((i : Int) + 1) old := e3
  show wpAny _ _ (newTuple [.int i tk, x] >>= _) _ _ ⟨m3, g, d, tk + 1, os⟩
  refine wpAny_bind (wpAny_newTuple ?_)
  have l3 : m3.objs.size = hp.objs.size + 1 := by rw [s3.1, s2.1, lm]
  have e4 : IsEnum (m3.push { cls := .type "tuple", data := .seq #[.int i tk, x] }) e z ((i : Int) + 1) old := Heap.get?_push_of_some _ e3
  have t4 : (m3.push { cls := .type "tuple", data := .seq #[.int i tk, x] }).get? (hp.objs.size + 1) = some { cls := .type "tuple", data := .seq #[.int i tk, x] } := by rw [← l3]; exact Heap.get?_push_size _ rfl
  have l4 : (m3.push { cls := .type "tuple", data := .seq #[.int i tk, x] }).objs.size = hp.objs.size + 2 := by rw [Heap.size_push, l3]
  have k4 : ∀ b o, b ≠ e → m.get? b = some o → (m3.push { cls := .type "tuple", data := .seq #[.int i tk, x] }).get? b = some o := fun b o hb y =>
    Heap.get?_push_of_some _ (s3.extBut b o hb (s2.extBut b o hb y))
  show wpAny _ _ (Builtin.SmallTypes.ownedTupleIsFree (.ref e) >>= _) _ _ ⟨m3.push { cls := .type "tuple", data := .seq #[.int i tk, x] }, g, d, tk + 1, os⟩
  generalize m3.push { cls := .type "tuple", data := .seq #[.int i tk, x] } = m4 at e4 t4 l4 k4
  rw [l3]
  refine wpAny_bind ?_
  unfold Builtin.SmallTypes.ownedTupleIsFree
  refine wpAny_bind (wpAny_field e4 rfl (x := .none) rfl (wpAny_pure ?_))
  simp only [if_true]
  refine wpAny_bind (wpAny_rule ?_)
  refine wpAny_bind (wpAny_field e4 rfl (x := old) rfl ?_)
  refine wpAny_bind (wpAny_setField_rec e4 (by simp) fun m5 e5 s5 => ?_)
  replace s5 : Heap.SameBut e m4 m5 := s5
  replace e5 : IsEnum m5 e z ((i : Int) + 1) x := e5
  show wpAny _ _ (Builtin.SmallTypes.ownedTupleHandOut (.ref e) (.ref (hp.objs.size + 1)) >>= _) _ _ ⟨m5, g, d, tk + 1, os⟩
  refine wpAny_bind ?_
  unfold Builtin.SmallTypes.ownedTupleHandOut
  refine wpAny_bind (wpAny_setField_rec e5 (by simp) fun m6 e6 s6 => ?_)
  replace s6 : Heap.SameBut e m5 m6 := s6
  replace e6 : IsEnumOut m6 e z ((i : Int) + 1) x (hp.objs.size + 1) := e6
  refine wpAny_setField_rec e6 (by simp) fun m7 e7 s7 => ?_
  replace s7 : Heap.SameBut e m6 m7 := s7
  replace e7 : IsEnumOut m7 e z ((i : Int) + 1) x (hp.objs.size + 1) := e7
  subst hx
  have ne : hp.objs.size + 1 ≠ e := Nat.ne_of_gt (Nat.lt_succ_of_lt el)
  refine wpAny_bind (wpAny_letGo (wpAny_pure ⟨_, rfl, hQ m m7 tk Gm lm km e7 (s7.extBut _ _ ne (s6.extBut _ _ ne (s5.extBut _ _ ne t4))) (by rw [s7.1, s6.1, s5.1, l4]) fun b o hb y => s7.extBut b o hb (s6.extBut b o hb (s5.extBut b o hb (k4 b o hb y)))⟩))
theorem enumW_next {e : Addr} {i : Nat} {old : Value} {G : Heap → Prop} {ch : List Addr} {Q : Option Value → Shared → Prop} (he : IsEnum s.heap e z i old) (hec : e ∉ ch)
    (hn : ∀ (E : Value → Shared → Prop) (Q : Value → Shared → Prop), (∀ m tk, G m → m.objs.size = s.heap.objs.size + 1 → (∀ b o, b ∉ ch → s.heap.get? b = some o → m.get? b = some o) → Q (.ref s.heap.objs.size) { s with heap := m, toks := tk }) →
      wpAny (model prog w) A.in1 (Builtin.SmallTypes.nextOf (.ref z)) Q E s)
    (hQ : ∀ m h' tk, G m → m.objs.size = s.heap.objs.size + 1 → (∀ b o, b ∉ ch → s.heap.get? b = some o → m.get? b = some o) → IsEnumOut h' e z ((i : Int) + 1) (.ref s.heap.objs.size) (s.heap.objs.size + 1) →
      h'.get? (s.heap.objs.size + 1) = some { cls := .type "tuple", data := .seq #[.int i tk, .ref s.heap.objs.size] } → h'.objs.size = s.heap.objs.size + 2 →
      (∀ b o, b ≠ e → m.get? b = some o → h'.get? b = some o) → Q (some (.ref (s.heap.objs.size + 1))) { s with heap := h', toks := tk + 1 }) :
    wpAny (model prog w) A (pyNext (.ref e)) Q E s := by
  have hT : s.TypeIs (.ref e) "enumerate" := ⟨_, he, rfl⟩
  unfold pyNext
  exact wpAny_bind (wpAny_attempt (wpAny_callSpecial?_slot (name := Str.ofString "__next__") hT F.slot_enumerate_next
    (wpAny_call_entry F.slot_enumerate_next hT F.entry_enumerate_next
      (enumW_item he hec (hn _) fun m h' tk a b c d k q r => wpAny_pure (hQ m h' tk a b c d k q r)) (F.args_enumerate_next_1 _))))
end
theorem pxMeets_enumerate_newZ (z TI TO : Addr) :
    Meets (Builtin.«enumerate.__new__» ⟨[.type "enumerate", .ref z], []⟩) (fun _ R s => IsZip s.heap z TI TO .none ∧
      R (.ok (.ret (.ref s.heap.objs.size))) { s with heap := s.heap.push { cls := .type "enumerate", data := .fields #[.none, .bool false, .ref z, rawInt 0, .none, .none] } }) :=
  .of_wp fun prog w A R s h => by
    obtain ⟨hp, g, d, tk, os⟩ := s; obtain ⟨hz, h⟩ := h
    have hsub := sub_enumerate
    have hZ : IsZip (Shared.heap ⟨hp, g, d, tk, os⟩) z TI TO .none := hz
    wp_walk using wpAny_pyIter_zip hZ
    refine wpAny_stack_any fun st => wpAny_pure ?_
    split
    · rename_i c _ _ _ _ _
      cases (c == Value.type "enumerate")
      · wp_walk using wpAny_pyIter_zip hZ
        exact ⟨_, rfl, h⟩
      · wp_walk using wpAny_pyIter_zip hZ
        exact ⟨_, rfl, h⟩
    · wp_walk using wpAny_pyIter_zip hZ
      exact ⟨_, rfl, h⟩
theorem pxCall_enumerate_zip {prog : Program} {w : World} {A : Around} {E : Value → Shared → Prop} {s : Shared} {z TI TO : Addr} {Q : Value → Shared → Prop} (hZ : IsZip s.heap z TI TO .none)
    (h : ∀ h', IsEnum h' s.heap.objs.size z 0 .none → h'.objs.size = s.heap.objs.size + 1 →
      (∀ b o, s.heap.get? b = some o → h'.get? b = some o) → Q (.ref s.heap.objs.size) { s with heap := h' }) :
    wpAny (model prog w) A (call (.type "enumerate") [.ref z]) Q E s := by
  refine callType_new F.called_enumerate (by decide) (F.typeCall_enumerate_1 _) (F.newCall_enumerate_1 _) (fun obj => F.args_object_init_2 obj _) F.entry_enumerate_new
    (pxMeets_enumerate_newZ z TI TO) ⟨hZ, ?_⟩
  have he : IsEnum (s.heap.push { cls := .type "enumerate", data := .fields #[.none, .bool false, .ref z, rawInt 0, .none, .none] }) s.heap.objs.size z 0 .none := Heap.get?_push_size _ rfl
  exact ⟨⟨_, he, rfl⟩, h _ he (by rw [Heap.size_push]) fun b o x => Heap.get?_push_of_some _ x⟩
end L2.Px
set_option Elab.async false
set_option linter.all false
set_option maxRecDepth 100000
set_option maxHeartbeats 1000000
namespace L2.Px
open PySem PySem.Spec PyProof.Rows StX TL
open Sem (wp)
/-- the text x and the list at b side by side, each pair in a new pair with its place -/
def IteZs (K : PySem.W.Frag) (x : Str) (b : Addr) : It :=
  ⟨fun i H => ∃ (ys : List V) (c : Nat) (y : V), SqL K H b ys ∧ x.cps[i]? = some c ∧ ys[i]? = some y,
    fun i H v H' => ∃ T T' c y, v = .ref T' ∧ H T = none ∧ upd H T (.tup [.str ⟨#[c]⟩, y]) T' = none ∧ H' = upd (upd H T (.tup [.str ⟨#[c]⟩, y])) T' (.tup [.int (i : Nat), .ref T]) ∧ x.cps[i]? = some c ∧ ∀ ys, SqL K H b ys → ys[i]? = some y,
    fun i H => ∃ ys : List V, SqL K H b ys ∧ i ≤ x.cps.size ∧ i ≤ ys.length ∧ (i = x.cps.size ∨ i = ys.length)⟩
theorem turn_ezs {P : Program} {w : World} {K : PySem.W.Frag} {elts : List Expr} {kk : Nat} {tpos : Pos} {x : Str} {t : Tok} {b e z TI TO i1 i2 : Addr} (D : ZipSep2 z TI TO i1 i2 [i1] [i2, b]) (n2 : b ≠ i2) (ne : e ∉ [z, TI, TO, i1, i2]) :
    Turn P w K (.Tuple elts kk tpos) (IteZs K x b) [e, z, TI, TO, i1, i2] e (fun i h => (∃ old, IsEnum h e z ((i : Nat) : Int) old) ∧ ZipW h z TI TO ∧ IsTupOf2 h TI (.ref i1) (.ref i2) ∧ (∃ x0 y0, IsTupOf2 h TO x0 y0) ∧ h.IsStrIter i1 (strIterType x) x t i ∧ h.IsListIter i2 b i) where
  mem := by simp
  obj := fun i h st c hc => by
    obtain ⟨⟨old, he⟩, ⟨f0, fb, _, hz⟩, hTI, ⟨x0, y0, hTO⟩, ⟨o1, e1, _, d1⟩, ⟨o2, e2, _, d2⟩⟩ := st
    have e' : c = e ∨ c = z ∨ c = TI ∨ c = TO ∨ c = i1 ∨ c = i2 := by simpa using hc
    rcases e' with q | q | q | q | q | q
    · rw [q]; exact ⟨_, he, fun v q => nomatch q⟩
    · rw [q]; exact ⟨_, hz, fun v q => nomatch q⟩
    · rw [q]; exact ⟨_, hTI, fun v q => nomatch q⟩
    · rw [q]; exact ⟨_, hTO, fun v q => nomatch q⟩
    · rw [q]; exact ⟨o1, e1, fun v q => by rw [d1] at q; cases q⟩
    · rw [q]; exact ⟨o2, e2, fun v q => by rw [d2] at q; cases q⟩
  keep := fun i h h' st k => by
    obtain ⟨⟨old, he⟩, ⟨f0, fb, hf, hz⟩, hTI, ⟨x0, y0, hTO⟩, ⟨o1, e1, h1⟩, h2⟩ := st
    exact ⟨⟨old, k e (by simp) _ he⟩, ⟨f0, fb, hf, k z (by simp) _ hz⟩, k TI (by simp) _ hTI, ⟨x0, y0, k TO (by simp) _ hTO⟩, ⟨o1, k i1 (by simp) _ e1, h1⟩, h2.at fun o q => k i2 (by simp) o q⟩
  item := by
    intro X hP hw hK hc i pins s σ H E I hf st hg
    subst hP hw hK
    obtain ⟨⟨old, he⟩, hz, hTI, ⟨x0, y0, hTO⟩, h1, h2⟩ := st
    obtain ⟨ys, cc, y, hqy, hx, hy⟩ := hg
    obtain ⟨its2, rv2, p2, _⟩ := I.list hqy
    obtain ⟨u2, hu2, ru2⟩ := rv2.get hy
    have hh : X.A.handled = none := I.ok.hd hc
    have hel : e < s.heap.objs.size := Heap.lt_size he
    have hi1 : i < x.cps.size := (Array.getElem?_eq_some_iff.mp hx).1
    have hi2 : i < its2.toArray.size := by rw [List.size_toArray]; exact (List.getElem?_eq_some_iff.mp hu2).1
    have nz : e ≠ z ∧ e ≠ TI ∧ e ≠ TO ∧ e ≠ i1 ∧ e ≠ i2 := by simpa using ne
    have hlt : ∀ c ∈ [e, z, TI, TO, i1, i2], c < s.heap.objs.size := fun c hcm => by
      have e' : c = e ∨ c = z ∨ c = TI ∨ c = TO ∨ c = i1 ∨ c = i2 := by simpa using hcm
      rcases e' with q | q | q | q | q | q
      · rw [q]; exact hel
      · rw [q]; obtain ⟨_, _, _, q'⟩ := hz; exact Heap.lt_size q'
      · rw [q]; exact Heap.lt_size hTI
      · rw [q]; exact Heap.lt_size hTO
      · rw [q]; obtain ⟨_, e1, _⟩ := h1; exact Heap.lt_size e1
      · rw [q]; obtain ⟨_, e2, _⟩ := h2; exact Heap.lt_size e2
    refine enumW_next (G := fun m => ZipW m z TI TO ∧ IsTupOf2 m TI (.ref i1) (.ref i2) ∧ (∃ b1 b2, IsTupOf2 m TO b1 b2) ∧ m.IsStrIter i1 (strIterType x) x t (i + 1) ∧ m.IsListIter i2 b (i + 1) ∧ ∃ u1, IsTupOf2 m s.heap.objs.size (.str ⟨#[cc]⟩ u1) u2) (ch := [z, TO, i1, i2]) he (by simp [nz]) (fun E' Q' q => ?_) fun m h' tk Gm lm km ho hT hl hk => ?_
    · refine zipW_nextOf D (Draws.text (A := X.A.in1.in1) hh i1 x t) (Draws.list (A := X.A.in1.in1) hh i2 b n2 its2.toArray) hz hTI hTO h1 ⟨h2, p2.isList⟩ hi1 hi2 fun x1 x2 m tk hx1 hx2 z' TO' h1' h2' hT hsz hk => ?_
      obtain ⟨c', u1, hc', rfl⟩ := hx1
      rw [hx] at hc'
      cases hc'
      have eu2 : x2 = u2 := by
        have q : its2[i]? = some x2 := by simpa using hx2
        rw [hu2] at q; exact (Option.some.inj q).symm
      subst eu2
      exact q m tk ⟨z', hk _ _ (by simp [D.TIz, D.TITO, D.TIi1, D.TIi2]) hTI, TO', h1', h2'.1, u1, hT⟩ hsz hk
    · obtain ⟨zm, TIm, ⟨b1, b2, TOm⟩, h1m, h2m, u1, tm⟩ := Gm
      refine ⟨_, rfl, wpAny_letOwnedTupleGo_enum (s := { s with heap := h', toks := tk + 1 }) ho fun h'' he' sb => ?_⟩
      have kk : ∀ b o, b ≠ e → m.get? b = some o → h''.get? b = some o := fun b o hb q => (sb.2 b hb).trans (hk b o hb q)
      have new1 : ObjOk X.prog X.w (upd H s.heap.objs.size (.tup [.str ⟨#[cc]⟩, y])) m s.heap.objs.size (.tup [.str ⟨#[cc]⟩, y]) :=
        ⟨by show 2 ≤ sizeLine; decide, [.str ⟨#[cc]⟩ u1, u2], .cons ⟨_, rfl⟩ (.cons ru2 .nil), ⟨_, tm, rfl, _, rfl⟩⟩
      have I1 : Inv X pins σ (upd H s.heap.objs.size (.tup [.str ⟨#[cc]⟩, y])) { s with heap := m, toks := tk } :=
        I.turnedNew (t' := tk) (ch := [e, z, TI, TO, i1, i2]) (fun c o hb q => km c o (fun q' => hb (by simp at q' ⊢; rcases q' with q' | q' | q' | q' <;> simp [q'])) q) hf (Nat.le_refl _) new1
      have hf1 : ∀ c ∈ [e, z, TI, TO, i1, i2], FpOk X pins (upd H s.heap.objs.size (.tup [.str ⟨#[cc]⟩, y])) c := fun c hc => by
        have f := hf c hc
        exact ⟨by rw [upd_ne (Nat.ne_of_lt (hlt c hc))]; exact f.1, f.2⟩
      have hT2 : h''.get? (s.heap.objs.size + 1) = some { cls := .type "tuple", data := .seq #[.int i tk, .ref s.heap.objs.size] } := (sb.2 _ (Nat.ne_of_gt (Nat.lt_succ_of_lt hel))).trans hT
      have new2 : ObjOk X.prog X.w (upd (upd H s.heap.objs.size (.tup [.str ⟨#[cc]⟩, y])) (s.heap.objs.size + 1) (.tup [.int (i : Nat), .ref s.heap.objs.size])) h'' (s.heap.objs.size + 1) (.tup [.int (i : Nat), .ref s.heap.objs.size]) :=
        ⟨by show 2 ≤ sizeLine; decide, [.int i tk, .ref s.heap.objs.size], .cons ⟨_, rfl⟩ (.cons rfl .nil), ⟨_, hT2, rfl, _, rfl⟩⟩
      have I2 : Inv X pins σ (upd (upd H s.heap.objs.size (.tup [.str ⟨#[cc]⟩, y])) (s.heap.objs.size + 1) (.tup [.int (i : Nat), .ref s.heap.objs.size])) { s with heap := h'', toks := tk + 1 } :=
        I1.turnedNew (t' := tk + 1) (ch := [e, z, TI, TO, i1, i2]) (fun c o hb q => kk c o (fun q' => hb (by simp [q'])) q) hf1 (by show m.objs.size ≤ _; rw [lm]; exact Nat.le_refl _) new2
      refine ⟨.ref (s.heap.objs.size + 1), _, I2, rfl, ⟨s.heap.objs.size, s.heap.objs.size + 1, cc, y, rfl, I.hok.fresh (Nat.le_refl _), I1.hok.fresh (by show m.objs.size ≤ _; rw [lm]; exact Nat.le_refl _), rfl, hx, fun l hl => by rw [I.list_inj hl hqy]; exact hy⟩, ⟨⟨Value.ref s.heap.objs.size, ?_⟩, ?_, ?_, ⟨b1, b2, ?_⟩, ?_, ?_⟩, fun c hcm => ?_⟩
      · have e1 : ((i + 1 : Nat) : Int) = (i : Int) + 1 := by omega
        rw [e1]; exact he'
      · obtain ⟨g0, gb, gf, gz⟩ := zm
        exact ⟨g0, gb, gf, kk _ _ (Ne.symm nz.1) gz⟩
      · exact kk _ _ (Ne.symm nz.2.1) TIm
      · exact kk _ _ (Ne.symm nz.2.2.1) TOm
      · obtain ⟨o1, e1, r1⟩ := h1m
        exact ⟨o1, kk _ _ (Ne.symm nz.2.2.2.1) e1, r1⟩
      · exact h2m.at fun o q => kk _ _ (Ne.symm nz.2.2.2.2) q
      · have l := hlt c hcm
        rw [upd_ne (Nat.ne_of_lt (Nat.lt_succ_of_lt l)), upd_ne (Nat.ne_of_lt l)]
        exact (hf c hcm).1
  done := by
    intro X hP hw hK hc i pins s σ H E I hf st hg
    subst hP hw hK
    obtain ⟨⟨old, he⟩, hz, hTI, ⟨x0, y0, hTO⟩, h1, h2⟩ := st
    obtain ⟨ys, hqy, l1, l2, hend⟩ := hg
    obtain ⟨its2, rv2, p2, _⟩ := I.list hqy
    have hh : X.A.handled = none := I.ok.hd hc
    have hl2 : its2.toArray.size = ys.length := by rw [List.size_toArray]; exact rv2.length.symm
    have hT : s.TypeIs (.ref e) "enumerate" := ⟨_, he, rfl⟩
    unfold pyNext
    refine wpAny_bind (wpAny_attempt (wpAny_callSpecial?_slot (name := Str.ofString "__next__") hT F.slot_enumerate_next
      (wpAny_call_entry F.slot_enumerate_next hT F.entry_enumerate_next ?_ (F.args_enumerate_next_1 _))))
    show wpAny _ _ (field (.ref e) 2 >>= _) _ _ _
    refine wpAny_bind (wpAny_field he rfl (x := .ref z) rfl ?_)
    refine wpAny_bind (zipW_nextEnd D (Draws.text (A := X.A.in1.in1) hh i1 x t) (Draws.list (A := X.A.in1.in1) hh i2 b n2 its2.toArray) hz hTI hTO h1 ⟨h2, p2.isList⟩ l1 (by rw [hl2]; exact l2) (by rw [hl2]; exact hend) fun h' tk x hk hx' => ?_)
    obtain ⟨o, ho, hc'⟩ := hx'
    refine wpAny_bind (wpAny_isInstance (T := "StopIteration") (b := true) ⟨o, ho, hc'⟩ isSubtype_stop ?_)
    exact wpAny_pure ⟨rfl, I.turnedL (t' := tk) (ch := [e, z, TI, TO, i1, i2]) (fun c o hb q => hk c o (fun q' => hb (by simp at q' ⊢; rcases q' with q' | q' | q' | q' <;> simp [q'])) q) hf⟩
  self := fun A i s Q E st h => let ⟨⟨_, he⟩, _⟩ := st; wpAny_pyIter_enum he h
def iEnZs (K : PySem.W.Frag) (ta : TA) : TI := fun σ H R => ta σ H fun vs H1 => ∃ x b ys, vs = [.str x, .ref b] ∧ SqL K H1 b ys ∧ R (IteZs K x b) H1
theorem pi_enZs {K : PySem.W.Frag} {X : Cx} {e e2 : Expr} {ta : TA} {p p2 pos pos2 tpos : Pos} {elts : List Expr} {kk : Nat} (hK : X.K = K) (hg : Gl X "enumerate") (hm : X.mg "enumerate" = none) (hgz : Gl X "zip") (hmz : X.mg "zip" = none) (ha : PA X [e, e2] ta)
    (hs : starEach [e, e2] X.env = (false, eval e X.env) :: starEach [e2] X.env := by rfl) (hpl : (backTo pos2 (starEach [e2] X.env)).any (·.1) = false := by rfl)
    (hs1 : starEach [.Call (.Name "zip" p2) [e, e2] [] pos2] X.env = [(false, eval (.Call (.Name "zip" p2) [e, e2] [] pos2) X.env)] := by rfl) :
    PI X (.Tuple elts kk tpos) (.Call (.Name "enumerate" p) [.Call (.Name "zip" p2) [e, e2] [] pos2] [] pos) (iEnZs K ta) := by
  subst hK
  refine ⟨fun pins s σ H R I h => ?_⟩
  refine Call_ (ld_blt I hg hm boot_enumerate (PyProof.Rows.callWith_type1 ?_ hs1 rfl))
  rw [hs1]
  show wpAny _ _ (spliced ((false, eval (.Call (.Name "zip" p2) [e, e2] [] pos2) X.env) :: [])) _ _ s
  refine Calls.spliced_cons ?_
  refine Call_ (ld_blt I hgz hmz PyProof.Rows.boot_zip (PyProof.Rows.callWith_type1 (thn (ha.run pos2 pins s σ H _ I h) fun us s1 ⟨vs, H1, I1, r1, q1⟩ => ?_) hs hpl))
  obtain ⟨x, b, ys, ex, hqy, q⟩ := q1
  subst ex
  cases r1 with
  | cons r rr =>
    cases rr with
    | cons r' rr =>
      cases rr
      obtain ⟨t, rfl⟩ := r
      cases r'
      obtain ⟨its2, rv2, p2, _⟩ := I1.list hqy
      have lb : b < s1.heap.objs.size := p2.lt
      refine zip_begins2 (begins_text x t) (begins_list b its2.toArray) trivial p2.isList fun h' hz hTI hTO g1 g2 hsz hk => Calls.spliced_nil ?_
      refine pxCall_enumerate_zip (s := { s1 with heap := h' }) hz fun h'' he hsz2 hk2 => wpAny_pyIter_enum he ?_
      have I2 : Inv X pins σ H1 { s1 with heap := h'' } := I1.kept (t' := s1.toks) fun b o x => hk2 b o (hk b o x)
      have D : ZipSep2 (s1.heap.objs.size + 4) (s1.heap.objs.size + 2) (s1.heap.objs.size + 3) s1.heap.objs.size (s1.heap.objs.size + 1) [s1.heap.objs.size] [s1.heap.objs.size + 1, b] := sep2 _ _ lb
      have hn2 : b ≠ s1.heap.objs.size + 1 := Nat.ne_of_lt (Nat.lt_succ_of_lt lb)
      replace hsz : h'.objs.size = s1.heap.objs.size + 5 := hsz
      have he0 : IsEnum h'' (s1.heap.objs.size + 5) (s1.heap.objs.size + 4) 0 .none := by
        have q := he
        rw [show (Shared.heap { s1 with heap := h' }).objs.size = s1.heap.objs.size + 5 from hsz] at q
        exact q
      have hne : (s1.heap.objs.size + 5 : Nat) ∉ [(s1.heap.objs.size + 4 : Nat), s1.heap.objs.size + 2, s1.heap.objs.size + 3, s1.heap.objs.size, s1.heap.objs.size + 1] := by simp
      refine ⟨s1.heap.objs.size + 5, [s1.heap.objs.size + 5, s1.heap.objs.size + 4, s1.heap.objs.size + 2, s1.heap.objs.size + 3, s1.heap.objs.size, s1.heap.objs.size + 1], _, _, H1, by rw [show (Shared.heap { s1 with heap := h' }).objs.size = s1.heap.objs.size + 5 from hsz], I2, turn_ezs (t := t) D hn2 hne, ⟨⟨.none, he0⟩, ⟨.none, false, .inl rfl, hk2 _ _ hz⟩, hk2 _ _ hTI, ⟨_, _, hk2 _ _ hTO⟩, ⟨_, hk2 _ _ g1, rfl, rfl⟩, ⟨_, hk2 _ _ g2, rfl, rfl⟩⟩, fun c hcm => ?_, q⟩
      have e' : c = s1.heap.objs.size + 5 ∨ c = s1.heap.objs.size + 4 ∨ c = s1.heap.objs.size + 2 ∨ c = s1.heap.objs.size + 3 ∨ c = s1.heap.objs.size ∨ c = s1.heap.objs.size + 1 := by simpa using hcm
      have hle : s1.heap.objs.size ≤ c := by
        rcases e' with z | z | z | z | z | z
        · rw [z]; exact Nat.le_add_right _ _
        · rw [z]; exact Nat.le_add_right _ _
        · rw [z]; exact Nat.le_add_right _ _
        · rw [z]; exact Nat.le_add_right _ _
        · rw [z]; exact Nat.le_refl _
        · rw [z]; exact Nat.le_add_right _ _
      exact I1.fpOk hle (I1.hok.fresh hle)
theorem rd_iEnZs {K : PySem.W.Frag} {ta : TA} {σ : St} {H : Hp} {Rr : It → Hp → Prop} (h : ta σ H fun vs H1 => ∃ x b ys, vs = [.str x, .ref b] ∧ SqL K H1 b ys ∧ Rr (IteZs K x b) H1) : iEnZs K ta σ H Rr := h
end L2.Px
set_option Elab.async false
set_option linter.all false
set_option maxRecDepth 100000
set_option maxHeartbeats 2000000
namespace L2.Px
open PySem PySem.Spec PyProof.Rows StX LamX
structure Kl (T : List (Addr × Str)) (H H' : Hp) : Prop where
  keep : ∀ b o, ¬ isRow o → (∀ ps, o ≠ .tbl ps) → H b = some o → H' b = some o
  rows : ∀ (b sa : Addr) (i s e : Int), H b = some (.lst [.ref sa, .int i, .int s, .int e]) → ∃ i' s' e' : Int, H' b = some (.lst [.ref sa, .int i', .int s', .int e'])
  tabs : Tabs T H → Tabs T H'
section
variable {T : List (Addr × Str)} {H H' H1 : Hp}
theorem Kl.refl : Kl T H H := ⟨fun _ _ _ _ h => h, fun _ _ _ _ _ h => ⟨_, _, _, h⟩, id⟩
theorem Kl.trans (a : Kl T H H1) (b : Kl T H1 H') : Kl T H H' := ⟨fun c o hc hn h => b.keep c o hc hn (a.keep c o hc hn h), fun c sa i s e h => let ⟨i', s', e', h'⟩ := a.rows c sa i s e h; b.rows c sa i' s' e' h', fun t => b.tabs (a.tabs t)⟩
theorem tabS_kp {P : Addr} {q : Str} (t : TabS H P q) (e : Kp H H') : TabS H' P q :=
  let ⟨ps, a, b, d⟩ := t
  ⟨ps, e _ _ id a, b, fun pos cv hc => let ⟨c, x, y⟩ := d pos cv hc; ⟨c, x, e _ _ id y⟩⟩
theorem Kl.kp (e : Kp H H') : Kl T H H' := ⟨fun b o hr _ h => e b o hr h, e.rows, fun t p hp => tabS_kp (t p hp) e⟩
theorem Kl.same (e : Same H H') : Kl T H H' := .kp (.same e)
theorem Kl.ext (e : ExtN H H') (t : Tabs T H') : Kl T H H' := ⟨fun b o _ hn h => e b o h hn, fun b sa i s n h => ⟨_, _, _, e _ _ h fun ps z => nomatch z⟩, fun _ => t⟩
theorem Kl.tup {K : PySem.W.Frag} {a : Addr} {xs : List V} (e : Kl T H H') (h : SqT K H a xs) : SqT K H' a xs := by
  rcases h with (h | ⟨o, h⟩) | h
  · exact .inl (.inl (e.keep _ _ nr_tup (fun ps z => nomatch z) h))
  · exact .inl (.inr ⟨o, e.keep _ _ nr_frz (fun ps z => nomatch z) h⟩)
  · exact .inr h
theorem Kl.lst {K : PySem.W.Frag} {a : Addr} {xs : List V} (e : Kl T H H') (n : ¬ isRow (.lst xs)) (h : SqL K H a xs) : SqL K H' a xs := by
  rcases h with (h | ⟨o, h⟩) | h
  · exact .inl (.inl (e.keep _ _ n (fun ps z => nomatch z) h))
  · exact .inl (.inr ⟨o, e.keep _ _ nr_frz (fun ps z => nomatch z) h⟩)
  · exact .inr h
end
/-- all but tables of code -/
structure Kx (T : List (Addr × Str)) (H H' : Hp) : Prop where
  keep : ∀ b o, (∀ ps, o ≠ .tbl ps) → H b = some o → H' b = some o
  tabs : Tabs T H → Tabs T H'
section
variable {T : List (Addr × Str)} {H H' H1 : Hp}
theorem Kx.refl : Kx T H H := ⟨fun _ _ _ h => h, id⟩
theorem Kx.trans (a : Kx T H H1) (b : Kx T H1 H') : Kx T H H' := ⟨fun c o hn h => b.keep c o hn (a.keep c o hn h), fun t => b.tabs (a.tabs t)⟩
theorem Kx.kl (e : Kx T H H') : Kl T H H' := by
  refine ⟨fun b o hr hn h => e.keep b o hn h, fun b sa i s n h => ?_, e.tabs⟩
  exact ⟨i, s, n, e.keep _ _ (fun ps z => nomatch z) h⟩
theorem Kx.same (e : Same H H') : Kx T H H' := ⟨fun b o _ h => e b o h, (Kl.same e).tabs⟩
theorem Kx.ext (e : ExtN H H') (t : Tabs T H') : Kx T H H' := ⟨fun b o hn h => e b o h hn, fun _ => t⟩
theorem Kx.tup {K : PySem.W.Frag} {a : Addr} {xs : List V} (e : Kx T H H') (h : SqT K H a xs) : SqT K H' a xs := e.kl.tup h
theorem Kx.lst {K : PySem.W.Frag} {a : Addr} {xs : List V} (e : Kx T H H') (h : SqL K H a xs) : SqL K H' a xs := by
  rcases h with (h | ⟨o, h⟩) | h
  · exact .inl (.inl (e.keep _ _ (fun ps z => nomatch z) h))
  · exact .inl (.inr ⟨o, e.keep _ _ (fun ps z => nomatch z) h⟩)
  · exact .inr h
theorem Kx.row {K : PySem.W.Frag} {r : Addr} (e : Kx T H H') (h : RowAt K H r) : RowAt K H' r := let ⟨sa, sc, i, s, n, a, b⟩ := h.ex; ⟨sa, sc, i, s, n, e.keep _ _ (fun ps z => nomatch z) a, e.lst b⟩
end
structure FunC (K : PySem.W.Frag) (x qual : Str) (st : Stmt) (c f : Addr) (fd : FuncData) : Prop where
  ex : ∃ (oc : Value) (od : Option Addr) (kV doc pm : Value) (an : Option Addr) (ct : Value) (osl : Array (Option Value)),
    fd = PySem.W.fnOf x qual (defArgs st) (defBody st) (defScope st) .none kV doc pm an (.ref c) ct ∧ K.lookup f = some ⟨oc, od, .func fd, osl⟩ ∧ PySem.W.codeIn K (.ref c) qual = true
  kp : PySem.W.keepIn K (.ref f) = true
theorem FunC.fn {K : PySem.W.Frag} {x qual : Str} {st : Stmt} {c f : Addr} {fd : FuncData} (F : FunC K x qual st c f fd) : Fun K x qual st f fd :=
  let ⟨oc, od, kV, doc, pm, an, ct, osl, e, l, h⟩ := F.ex
  ⟨⟨oc, od, kV, doc, pm, an, _, ct, osl, e, l, h⟩, F.kp⟩
section
variable {P : Program} {w : World} {K : PySem.W.Frag} {mg : Str → Option Value} {base : Heap}
theorem FunC.ok {x qual : Str} {st : Stmt} {c f : Addr} {fd : FuncData} {N ps : List Str} {k : Nat} {sp : Sp} (F : FunC K x qual st c f fd) (S : FnScope N ps (defScope st)) (len : ∀ vs H Q E, sp vs H Q E → vs.length = ps.length)
    (hbody : ∀ (A : Around) (outer : List Env) (s : Shared) (H : Hp) (vs : List V) (Q : VK) (E : XK), Room k (A.deeper (envOfC qual (defScope st) s.heap.objs.size f (.ref c))) → sp vs H Q E →
      ∃ t, PSs (cxOf CX0 P w K mg base N qual (defScope st) f (.ref c) A outer s H E).nox (defBody st) t ∧ t { nx := fun _ H' => Q .non H', rt := Q } (start N vs) H) : FnOk P w K mg base CX0 (k + 1) f fd ps sp := by
  obtain ⟨oc, od, kV, doc, pm, an, ct, osl, rfl, lk, hcd⟩ := F.ex
  refine fn_of lk hcd S len fun A outer s H vs Q E hr hsp => ?_
  obtain ⟨t, h, q⟩ := hbody A outer s H vs Q E hr hsp
  exact ⟨t, h.nox, q⟩
end
/-- a def of the top, its code object at c -/
def DefGC (K : PySem.W.Frag) (mg : Str → Option Value) (x : Str) (st : Stmt) (ps : List Str) (c : Addr) : Prop := ∃ f fd, FunC K x x st c f fd ∧ mg x = some (.ref f) ∧ Binds K fd ps []
section
variable {P : Program} {w : World} {K : PySem.W.Frag} {mg : Str → Option Value} {base : Heap} {k : Nat} {ps : List Str} {sp : Sp} {x : Str} {st : Stmt} {c : Addr}
theorem DefGC.ok {N : List Str} (D : DefGC K mg x st ps c) (S : FnScope N ps (defScope st)) (len : ∀ vs H Q E, sp vs H Q E → vs.length = ps.length)
    (hbody : ∀ (f : Addr) (A : Around) (outer : List Env) (s : Shared) (H : Hp) (vs : List V) (Q : VK) (E : XK), Room k (A.deeper (envOfC x (defScope st) s.heap.objs.size f (.ref c))) → sp vs H Q E →
      ∃ t, PSs (cxOf CX0 P w K mg base N x (defScope st) f (.ref c) A outer s H E).nox (defBody st) t ∧ t { nx := fun _ H' => Q .non H', rt := Q } (start N vs) H) : GOk P w K mg base CX0 (k + 1) x sp := by
  obtain ⟨f, fd, F, a, b⟩ := D
  exact ⟨f, FnOk.toR (F.ok S len fun A outer s H vs Q E hr h => hbody f A outer s H vs Q E hr h) b, a, F.kp⟩
theorem DefGC.g (D : DefGC K mg x st ps c) : DefG K mg x st ps := let ⟨f, fd, F, a, b⟩ := D; ⟨f, fd, F.fn, a, b⟩
end
def lamOb (q : Str) (params : Arguments) (body : Expr) (scope : Scope) (cl : List (Str × Addr)) (dV : Value) (f c' : Addr) : HO :=
  .ext fun h => ∃ doc pm ctv : Value, h.get? f = some (PySem.W.kdv_obj "<lambda>" q params (.expr body) scope cl dV doc pm c' ctv)
/-- its names: captured ones, globals, and parameters bs that the maker does not know -/
structure LamC (N : List Str) (sc scope : Scope) (bs : List Str) : Prop where
  kind : scope.kind = .function
  co : scope.isCoroutine = false
  gen : scope.isGenerator = false
  own : ∀ y ∈ scope.names, y.2 ≠ .cell ∧ (y.2 = .local → y.1 ∉ N)
  free : ∀ y ∈ scope.names, y.2 = .free → sc.names.lookup y.1 = some .cell ∨ sc.names.lookup y.1 = some .free
  par : ∀ y ∈ bs, scope.names.lookup y = some .local
/-- how it binds nothing: no parameter, or one with a default -/
def LamB (params : Arguments) (body : Expr) (scope : Scope) (dV : Value) (bs : List Str) (H : Hp) : Prop :=
  (dV = .none ∧ bs = [] ∧ ∀ (q : Str) (cl : List (Str × Addr)) (doc pm cv ctv : Value), bindArgs (PySem.W.kdv_fn "<lambda>" q params (.expr body) scope cl .none doc pm cv ctv) ⟨[], []⟩ = pure []) ∨
    ∃ (T : Addr) (v : V) (b : Str), dV = .ref T ∧ bs = [b] ∧ H T = some (.tup [v]) ∧ ∀ (q : Str) (cl : List (Str × Addr)) (doc pm cv ctv u : Value), ∃ kk, bindArgs (PySem.W.kdv_fn "<lambda>" q params (.expr body) scope cl (.ref T) doc pm cv ctv) ⟨[], []⟩ = seqItems? (.ref T) >>= kk ∧ kk (some #[u]) = pure [(b, u)]
/-- at f stands a lambda of X's def whose body reads as t -/
def IsLam (X : Cx) (k : Nat) (t : XK → TE) (f : Addr) (H : Hp) : Prop := ∃ (params : Arguments) (body : Expr) (scope : Scope) (dV : Value) (bs : List Str) (c' : Addr),
  LamC X.N X.env.scope scope bs ∧ H f = some (lamOb (X.env.qual ++ "<lambda>") params body scope (cloFrom X.env.cells scope.names []) dV f c') ∧ H c' = some (CodeO c' (X.env.qual ++ "<lambda>")) ∧ LamB params body scope dV bs H ∧
  ∀ (A : Around) (outer : List Env) (s : Shared) (H1 : Hp) (E : XK), Room k (A.deeper (lamEnv X scope s.heap.objs.size f c')) → PE (lamCx X A outer s H1 E scope f c') body (t E)
theorem IsLam.mono {X : Cx} {k : Nat} {t : XK → TE} {f : Addr} {H H' : Hp} (h : IsLam X k t f H) (e : ∀ b o, ¬ isRow o → (∀ ps, o ≠ .tbl ps) → H b = some o → H' b = some o) : IsLam X k t f H' := by
  obtain ⟨p, b, sc, dV, bs, c', l, h1, h2, h3, h4⟩ := h
  refine ⟨p, b, sc, dV, bs, c', l, e _ _ id (fun ps z => nomatch z) h1, e _ _ id (fun ps z => nomatch z) h2, ?_, h4⟩
  rcases h3 with h3 | ⟨T, v, y, a1, a2, a3, a4⟩
  · exact .inl h3
  · exact .inr ⟨T, v, y, a1, a2, e _ _ nr_tup (fun ps z => nomatch z) a3, a4⟩
theorem IsLam.kl {X : Cx} {k : Nat} {t : XK → TE} {f : Addr} {H H' : Hp} {T : List (Addr × Str)} (h : IsLam X k t f H) (e : Kl T H H') : IsLam X k t f H' := h.mono e.keep
theorem LamC.has {N : List Str} {X : Cx} {scope : Scope} {bs : List Str} (L : LamC N X.env.scope scope bs) (ok : X.Ok) : ∀ y ∈ scope.names, y.2 = .free → ∃ c, X.env.cells.lookup y.1 = some c := fun y hy e =>
  (L.free y hy e).elim (fun k => ok.has _ (.inl k)) fun k => ok.has _ (.inr k)
end L2.Px
set_option Elab.async false
set_option linter.all false
set_option maxRecDepth 100000
set_option maxHeartbeats 2000000
namespace L2.Px
open PySem PySem.Spec PyProof.Rows StX LamX
section
variable {X : Cx} {pins0 : List (Addr × Obj)} {σ0 : St} {H0 H HZ : Hp} {s0 s s1 : Shared}
/-- how the lambda at f binds its nothing -/
theorem LamB.binds {params : Arguments} {body : Expr} {scope : Scope} {dV : Value} {bs : List Str} {q : Str} {cl : List (Str × Addr)} {doc pm cv ctv : Value} (hb : LamB params body scope dV bs H) (ht : ∀ T xs, H T = some (.tup xs) → ∃ its, Vals xs its ∧ s.heap.IsTuple T its.toArray) :
    ∃ bn : List (Str × Value), (∀ y ∈ bn, y.1 ∈ bs) ∧ BindsTo s (PySem.W.kdv_fn "<lambda>" q params (.expr body) scope cl dV doc pm cv ctv) ⟨[], []⟩ bn := by
  rcases hb with ⟨rfl, rfl, h⟩ | ⟨T, v, b, rfl, rfl, hT, h⟩
  · exact ⟨[], fun y hy => absurd hy (by simp), .of_eq (h _ _ _ _ _ _)⟩
  · obtain ⟨its, rv, o, ho, hc, n, hd⟩ := ht T _ hT
    obtain ⟨u, rfl, ru⟩ := rv.one
    obtain ⟨kk, h1, h2⟩ := h q cl doc pm cv ctv u
    exact ⟨[(b, u)], fun y hy => by rw [List.mem_singleton.mp hy]; exact List.mem_singleton.mpr rfl, .of_defaults rfl ho hd h1 h2⟩
end
end L2.Px
set_option Elab.async false
set_option linter.all false
set_option maxRecDepth 100000
set_option maxHeartbeats 2000000
namespace L2.Px
open PySem PySem.Spec PyProof.Rows StX LamX
end L2.Px
set_option Elab.async false
set_option linter.all false
set_option maxRecDepth 100000
set_option maxHeartbeats 2000000
namespace L2.Px
open PySem PySem.Spec PyProof.Rows StX ClX
section
variable {P : Program} {w : World} {K : PySem.W.Frag} {mg : Str → Option Value} {base : Heap} {CX : CXT} {k : Nat} {C : Addr} {ps : List Str} {sp sp' : Sp} {x m qual : Str} {st : Stmt} {f : Addr} {R : Addr → Prop}
theorem DefG.okX {N : List Str} (D : DefG K mg x st ps) (S : FnScope N ps (defScope st)) (len : ∀ vs H Q E, sp vs H Q E → vs.length = ps.length)
    (hbody : ∀ (f : Addr) (cdv : Value) (A : Around) (outer : List Env) (s : Shared) (H : Hp) (vs : List V) (Q : VK) (E : XK), Room k (A.deeper (envOfC x (defScope st) s.heap.objs.size f cdv)) → sp vs H Q E →
      ∃ t, PSs (cxOf (L2.CX P w) P w K mg base N x (defScope st) f cdv A outer s H E) (defBody st) t ∧ t { nx := fun _ H' => Q .non H', rt := Q } (start N vs) H) : GOk P w K mg base (L2.CX P w) (k + 1) x sp := by
  obtain ⟨f, fd, F, a, b⟩ := D
  exact ⟨f, FnOk.toR (F.okX S len fun cdv A outer s H vs Q E hr h => hbody f cdv A outer s H vs Q E hr h) b, a, F.kp⟩
theorem DefM.okX {N : List Str} (D : DefM K C m qual st ps) (S : FnScope N ps (defScope st)) (len : ∀ vs H Q E, sp vs H Q E → vs.length = ps.length)
    (hbody : ∀ (f : Addr) (cdv : Value) (A : Around) (outer : List Env) (s : Shared) (H : Hp) (vs : List V) (Q : VK) (E : XK), Room k (A.deeper (envOfC qual (defScope st) s.heap.objs.size f cdv)) → sp vs H Q E →
      ∃ t, PSs (cxOf (L2.CX P w) P w K mg base N qual (defScope st) f cdv A outer s H E) (defBody st) t ∧ t { nx := fun _ H' => Q .non H', rt := Q } (start N vs) H) : MOk P w K mg base (L2.CX P w) (k + 1) C m sp := by
  obtain ⟨f, fd, F, a, b⟩ := D
  exact ⟨f, FnOk.toR (F.okX S len fun cdv A outer s H vs Q E hr h => hbody f cdv A outer s H vs Q E hr h) b, a⟩
theorem DefX.okX {N : List Str} (D : DefX K R m qual st ps) (S : FnScope N ps (defScope st)) (len : ∀ vs H Q E, sp vs H Q E → vs.length = ps.length)
    (hbody : ∀ (f : Addr) (cdv : Value) (A : Around) (outer : List Env) (s : Shared) (H : Hp) (vs : List V) (Q : VK) (E : XK), Room k (A.deeper (envOfC qual (defScope st) s.heap.objs.size f cdv)) → sp vs H Q E →
      ∃ t, PSs (cxOf (L2.CX P w) P w K mg base N qual (defScope st) f cdv A outer s H E) (defBody st) t ∧ t { nx := fun _ H' => Q .non H', rt := Q } (start N vs) H) : XOk P w K mg base (L2.CX P w) (k + 1) R sp := by
  obtain ⟨f, fd, F, r, b⟩ := D
  exact ⟨f, FnOk.toR (F.okX S len fun cdv A outer s H vs Q E hr h => hbody f cdv A outer s H vs Q E hr h) b, r⟩
theorem DefC.okX {N : List Str} (D : DefC K C m qual st ps) (S : FnScope N ps (defScope st)) (len : ∀ vs H Q E, sp vs H Q E → vs.length = ps.length)
    (hbody : ∀ (f : Addr) (cdv : Value) (A : Around) (outer : List Env) (s : Shared) (H : Hp) (vs : List V) (Q : VK) (E : XK), Room k (A.deeper (envOfC qual (defScope st) s.heap.objs.size f cdv)) → sp vs H Q E →
      ∃ t, PSs (cxOf (L2.CX P w) P w K mg base N qual (defScope st) f cdv A outer s H E) (defBody st) t ∧ t { nx := fun _ H' => Q .non H', rt := Q } (start N vs) H) : COk P w K mg base (L2.CX P w) (k + 1) C m sp := by
  obtain ⟨mc, p, g, fd, F, r, c, b⟩ := D
  exact ⟨mc, p, g, FnOk.toR (F.okX S len fun cdv A outer s H vs Q E hr h => hbody g cdv A outer s H vs Q E hr h) b, r, c⟩
theorem DefK.okX {N : List Str} (D : DefK K C qual st ps) (S : FnScope N ps (defScope st)) (len : ∀ vs H Q E, sp vs H Q E → vs.length = ps.length)
    (hbody : ∀ (f : Addr) (cdv : Value) (A : Around) (outer : List Env) (s : Shared) (H : Hp) (vs : List V) (Q : VK) (E : XK), Room k (A.deeper (envOfC qual (defScope st) s.heap.objs.size f cdv)) → sp vs H Q E →
      ∃ t, PSs (cxOf (L2.CX P w) P w K mg base N qual (defScope st) f cdv A outer s H E) (defBody st) t ∧ t { nx := fun _ H' => Q .non H', rt := Q } (start N vs) H) : KOk P w K mg base (L2.CX P w) (k + 1) C sp := by
  obtain ⟨f, fd, F, M, b⟩ := D
  exact ⟨f, FnOk.toR (F.okX S len fun cdv A outer s H vs Q E hr h => hbody f cdv A outer s H vs Q E hr h) b, M⟩
theorem DefKS.okX {N : List Str} {pv : Str} (D : DefKS K C qual st ps pv) (S : FnScope N (ps ++ [pv]) (defScope st))
    (hbody : ∀ (f : Addr) (cdv : Value) (A : Around) (outer : List Env) (s : Shared) (H : Hp) (vs : List V) (Q : VK) (E : XK), Room k (A.deeper (envOfC qual (defScope st) s.heap.objs.size f cdv)) → sp vs H Q E →
      ∃ t, PSs (cxOf (L2.CX P w) P w K mg base N qual (defScope st) f cdv A outer s H E) (defBody st) t ∧ t { nx := fun _ H' => Q .non H', rt := Q } (start N vs) H) : KOk P w K mg base (L2.CX P w) (k + 1) C (spStar ps.length sp) := by
  obtain ⟨f, fd, F, M, hb⟩ := D
  obtain ⟨oc, od, kV, doc, pm, an, cdv, ct, osl, rfl, lk, hcd⟩ := F.ex
  exact ⟨f, fn_star (sp := sp) lk hcd S cxUp hb fun A outer s H vs Q E hr h => hbody f cdv A outer s H vs Q E hr h, M⟩
theorem fnR_up (F : FnR P w K mg base CX0 k f sp) : FnR P w K mg base CX k f sp := fun A outer s H us vs Q E hr e0 r h =>
  codeAny_mono (F A outer s H us vs Q E hr e0 r h) fun r s' hq => match r, hq with
    | .error e, hq => hq.elim
    | .ok (.ret u), hq => hq
    | .ok .next, hq => hq
    | .ok .brk, hq => hq
    | .ok .cont, hq => hq
theorem fnR_or (F : FnR P w K mg base CX k f sp) (G : FnR P w K mg base CX k f sp') : FnR P w K mg base CX k f (fun vs H Q E => sp vs H Q E ∨ sp' vs H Q E) := fun A outer s H us vs Q E hr e0 r h =>
  h.elim (F A outer s H us vs Q E hr e0 r) (G A outer s H us vs Q E hr e0 r)
/-- a def that answers or raises -/
theorem GOk.or {i j : Nat} (F : GOk P w K mg base CX0 i x sp) (G : GOk P w K mg base CX j x sp') (hi : i ≤ k) (hj : j ≤ k) : GOk P w K mg base CX k x (fun vs H Q E => sp vs H Q E ∨ sp' vs H Q E) := by
  obtain ⟨f, a1, a2, a3⟩ := F.mono hi
  obtain ⟨g, b1, b2, b3⟩ := G.mono hj
  cases a2.symm.trans b2
  exact ⟨f, fnR_or (fnR_up a1) b1, a2, a3⟩
theorem MOk.or {i j : Nat} (F : MOk P w K mg base CX0 i C m sp) (G : MOk P w K mg base CX j C m sp') (hi : i ≤ k) (hj : j ≤ k) : MOk P w K mg base CX k C m (fun vs H Q E => sp vs H Q E ∨ sp' vs H Q E) := by
  obtain ⟨f, a1, a2⟩ := F.mono hi
  obtain ⟨g, b1, b2⟩ := G.mono hj
  have e := a2.at_.symm.trans b2.at_
  simp only [Option.some.injEq, Value.ref.injEq] at e
  subst e
  exact ⟨f, fnR_or (fnR_up a1) b1, a2⟩
end
section
variable {X : Cx} {E : XK}
/-- what leaves a callee leaves this def -/
theorem passX (tk : Takes X (fun cls d _ H => E cls d H)) : Passes (L2.CX X.prog X.w) X E := passes_call tk fun _ _ _ _ h => h
end
/-- one without an __init__ of its own -/
structure XPl (K : PySem.W.Frag) (mg : Str → Option Value) (x : Str) (C : Addr) : Prop where
  g : mg x = some (.ref C)
  ex : PySem.W.excIn K C [.type "ValueError", .type "Exception", .type "BaseException", .type "object"] "ValueError.__new__" = true
  kp : PySem.W.keepIn K (.ref C) = true
  sub : PySem.W.subIn K (.ref C) (.type "BaseException") = some true
  ty : PySem.W.typeIn K (.ref C) = some (.type "type")
/-- one with an __init__ of its own, that stores the fields fs -/
structure XOw (K : PySem.W.Frag) (mg : Str → Option Value) (x : Str) (C : Addr) (fs : List Str) : Prop where
  g : mg x = some (.ref C)
  oex : OexC K C
  xf : XfC K C
  no : ∀ f ∈ fs, PySem.W.findIn K (.ref C) f = some none
/-- its __init__, as it stands; what it promises -/
def DefI (K : PySem.W.Frag) (C : Addr) (qual : Str) (st : Stmt) (ps : List Str) : Prop := ∃ f fd, Fun K "__init__" qual st f fd ∧ PySem.W.findIn K (.ref C) "__init__" = some (some (.ref f)) ∧ PySem.W.typeIn K (.ref f) = some (.type "function") ∧ Binds K fd ps []
def IOk (P : Program) (w : World) (K : PySem.W.Frag) (mg : Str → Option Value) (base : Heap) (k : Nat) (C : Addr) (ps : List Str) (sp : Sp) : Prop := ∃ f fd, FnOk P w K mg base CX0 k f fd ps sp ∧ PySem.W.findIn K (.ref C) "__init__" = some (some (.ref f)) ∧ PySem.W.typeIn K (.ref f) = some (.type "function") ∧ Binds K fd ps []
theorem DefI.ok {P : Program} {w : World} {K : PySem.W.Frag} {mg : Str → Option Value} {base : Heap} {k : Nat} {C : Addr} {qual : Str} {st : Stmt} {ps N : List Str} {sp : Sp} (D : DefI K C qual st ps) (S : FnScope N ps (defScope st)) (len : ∀ vs H Q E, sp vs H Q E → vs.length = ps.length)
    (hbody : ∀ (f : Addr) (cdv : Value) (A : Around) (outer : List Env) (s : Shared) (H : Hp) (vs : List V) (Q : VK) (E : XK), Room k (A.deeper (envOfC qual (defScope st) s.heap.objs.size f cdv)) → sp vs H Q E →
      ∃ t, PSs (cxOf CX0 P w K mg base N qual (defScope st) f cdv A outer s H E).nox (defBody st) t ∧ t { nx := fun _ H' => Q .non H', rt := Q } (start N vs) H) : IOk P w K mg base (k + 1) C ps sp := by
  obtain ⟨f, fd, F, i, t, b⟩ := D
  exact ⟨f, fd, F.ok S len fun cdv A outer s H vs Q E hr h => hbody f cdv A outer s H vs Q E hr h, i, t, b⟩
/-- TextError.__init__(self, ..): what an own base class hands on -/
structure XBs (K : PySem.W.Frag) (mg : Str → Option Value) (x : Str) (C : Addr) : Prop where
  g : mg x = some (.ref C)
  rd : PySem.W.readsIn K C (.type "type") = true
  ga : PySem.W.specialIn K (.ref C) "__getattribute__" = some (some (.builtin "type.__getattribute__"))
  at_ : PySem.W.findCls K (.ref C) (.type "type") "__init__" = some (.val (.builtin "ValueError.__init__"))
section
variable {X : Cx} {o e : Expr} {es : List Expr} {to te : TE} {ta : TA} {f x : Str} {p p' p1 p2 pos : Pos} {C : Addr}
theorem pe_xinit {pl : Sem Bool} (B : XBs X.K X.mg x C) (ha : PA X (e :: es) ta) (hg : Gl X x := by rfl) (hdb : (x == ("__debug__" : Str)) = false := by decide)
    (hc : eval (.Call (.Attribute (.Name x p1) "__init__" p2) (e :: es) [] pos) X.env = (do
      let ov ← eval (.Name x p1) X.env
      standAt p2.atName
      let (f, first) ← holding [ov] (getMethod ov "__init__" pl)
      callWith pos f first (backTo pos (starEach (e :: es) X.env)) (backToKw pos (keywordEach [] X.env))) := by rfl)
    (he : starEach (e :: es) X.env = (false, eval e X.env) :: starEach es X.env := by rfl) (hpl : (backTo pos (starEach es X.env)).any (·.1) = false := by rfl) :
    PE X (.Call (.Attribute (.Name x p1) "__init__" p2) (e :: es) [] pos) (tVeI X.K ta) := by
  refine ⟨fun pins s σ H Q I h => PySem.W.methodCall_KW (ld_glob I hg B.g ?_ hdb) hc⟩
  refine PySem.W.method_cls I.kIn B.ga (PySem.W.cls_value I.kIn B.rd B.at_ (by decide +kernel) ?_)
  refine PyProof.Rows.callWith_method1 (thn (ha.run pos pins _ σ H _ (I.tok _) h) fun us s1 ⟨vs, H1, I1, r1, a, C, ws, ev, hl, T, ea, q⟩ => ?_) he hpl
  subst ev
  cases r1 with
  | @cons _ u0 _ ur ra rw' =>
    obtain rfl : u0 = Value.ref a := ra
    exact oinit_ok T I1 ea (by rw [← Paired.length rw', sizeLine_eq]; omega) fun s' J => ⟨.non, H1, J, rfl, q⟩
end
section
variable {X : Cx} {K : PySem.W.Frag} {o e : Expr} {es : List Expr} {to te ta2 : TE} {ta : TA} {f x m : Str} {p p' p1 p2 pos : Pos} {C a : Addr} {σ : St} {H : Hp} {Q : VK} {ts : List TE} {acc : Str} {n : Nat} {RR : Str → Hp → Prop} {D : Ends}
theorem pe_xinitK {pl : Sem Bool} (hk : X.K = K) (B : XBs K X.mg x C) (ha : PA X (e :: es) ta) (hg : Gl X x := by rfl) (hdb : (x == ("__debug__" : Str)) = false := by decide)
    (hc : eval (.Call (.Attribute (.Name x p1) "__init__" p2) (e :: es) [] pos) X.env = (do
      let ov ← eval (.Name x p1) X.env
      standAt p2.atName
      let (f, first) ← holding [ov] (getMethod ov "__init__" pl)
      callWith pos f first (backTo pos (starEach (e :: es) X.env)) (backToKw pos (keywordEach [] X.env))) := by rfl)
    (he : starEach (e :: es) X.env = (false, eval e X.env) :: starEach es X.env := by rfl) (hpl : (backTo pos (starEach es X.env)).any (·.1) = false := by rfl) :
    PE X (.Call (.Attribute (.Name x p1) "__init__" p2) (e :: es) [] pos) (tVeI K ta) := by subst hk; exact pe_xinit (pl := pl) B ha hg hdb hc he hpl
theorem ps_ostK (hk : X.K = K) (ho : PE X o to) (he : PE X e te) (hs : swapsWith e (some (.Attribute o f p')) pos.line X.env = pure false := by rfl) : PS X (.Assign [.Attribute o f p'] e pos) (tOst K f to te) := by subst hk; exact ps_ost ho he hs
def rVeI (K : PySem.W.Frag) (vs : List V) (H1 : Hp) (Q : VK) : Prop := ∃ (a C : Addr) (ws : List V), vs = .ref a :: ws ∧ ws.length ≤ 1000 ∧ OexC K C ∧ H1 a = some (exo a C none) ∧ Q .non H1
theorem rd_veI (h : ta σ H fun vs H1 => rVeI K vs H1 Q) : tVeI K ta σ H Q := h
theorem rd_veI1 {v : V} (T : OexC K C) (e : H a = some (exo a C none)) (q : Q .non H) : rVeI K [.ref a, v] H Q := ⟨a, C, [v], rfl, by show 1 ≤ 1000; decide, T, e, q⟩
theorem nat_small {n : Nat} (h : n < 1000000000) : (n : Int).natAbs.log2 < 1920 := by
  rw [Int.natAbs_natCast]
  by_cases h0 : n = 0
  · subst h0; decide
  · have h2 : (2 : Nat) ^ 30 = 1073741824 := by decide
    have h3 : n.log2 < 30 := (Nat.log2_lt h0).mpr (by omega)
    omega
theorem nat_len {n : Nat} (h : n < 1000000000) : (Str.ofString (toString (n : Int))).length ≤ 9 := by
  have e : (10 : Int) ^ 9 = 1000000000 := by decide
  exact PyProof.Rows.toString_length_le (k := 9) (by omega) (by decide) (by rw [e]; omega)
/-- the end of a message: a small number -/
theorem rd_jnum {i : Nat} (hi : σ[i]? = some (some (.int (n : Nat)))) (hn : n < 1000000000) (ha : acc.length ≤ 1000) (k : ∀ y : Str, y.length ≤ 1009 → tJs ts y σ H RR) : tJs (tFmt (tVar i) :: ts) acc σ H RR := by
  refine ⟨_, hi, .inr ⟨_, rfl, nat_small hn, _, rfl, ?_, ?_⟩⟩
  · have := nat_len hn
    rw [str_len_app, sizeLine_eq]; omega
  · refine k _ ?_
    have := nat_len hn
    rw [str_len_app]; omega
theorem rd_jlit (ha : acc.length + x.length ≤ 1000) (k : tJs ts (acc ++ x) σ H RR) : tJs (tC (.str x) :: ts) acc σ H RR := ⟨x, rfl, by rw [str_len_app, sizeLine_eq]; omega, k⟩
theorem rd_jnil (k : RR acc H) : tJs [] acc σ H RR := k
def rOst (K : PySem.W.Frag) (f : Str) (D : Ends) (σ : St) (y x : V) (H2 : Hp) : Prop := ∃ a C : Addr, x = .ref a ∧ OexC K C ∧ PySem.W.findIn K (.ref C) f = some none ∧
  ((H2 a = some (exo a C none) ∧ ∀ dx, H2 dx = none → dx ≠ a → D.nx σ (upd (upd H2 dx (exd dx [(f, y)])) a (exo a C (some dx)))) ∨
    ∃ (dx : Addr) (fs : List (Str × V)), H2 a = some (exo a C (some dx)) ∧ H2 dx = some (exd dx fs) ∧ fs.length ≤ 900 ∧ D.nx σ (upd H2 dx (exd dx ((f, y) :: fs))))
theorem rd_ost (h : te σ H fun y H1 => to σ H1 fun x H2 => rOst K f D σ y x H2) : tOst K f to te D σ H := h
theorem rd_ost1 {v : V} (T : OexC K C) (no : PySem.W.findIn K (.ref C) f = some none) (e : H a = some (exo a C none)) (k : ∀ dx, H dx = none → dx ≠ a → D.nx σ (upd (upd H dx (exd dx [(f, v)])) a (exo a C (some dx)))) : rOst K f D σ v (.ref a) H := ⟨a, C, rfl, T, no, .inl ⟨e, k⟩⟩
theorem rd_ost2 {v : V} {dx : Addr} {fs : List (Str × V)} (T : OexC K C) (no : PySem.W.findIn K (.ref C) f = some none) (e : H a = some (exo a C (some dx))) (ed : H dx = some (exd dx fs)) (hl : fs.length ≤ 900) (k : D.nx σ (upd H dx (exd dx ((f, v) :: fs)))) : rOst K f D σ v (.ref a) H := ⟨a, C, rfl, T, no, .inr ⟨dx, fs, e, ed, hl, k⟩⟩
end
section
variable {X : Cx} {E : XK} {C : Addr} {x m f g : Str} {j : Nat} {p p2 pos pos' : Pos} {e e' : Expr} {es : List Expr} {te te' : TE} {ta : TA} {sp : Sp} {k : Nat} {ps : List Str}
def tRz (C : Addr) (E : XK) : TS := fun _ _ H => E (.ref C) none H
theorem ps_rz (D : XPl X.K X.mg x C) (tk : Takes X (fun cls d _ H => E cls d H)) (hc : X.calm = true := by rfl) (hg : Gl X x := by rfl) (hdb : (x == ("__debug__" : Str)) = false := by decide) : PS X (.Raise (some (.Call (.Name x p) [.Constant (.str m) j p2] [] pos)) none pos') (tRz C E) :=
  ps_raise hc tk (pmk_own PySem.F.excBase_ValueError D.ex D.g D.kp (raises_own D.sub D.ty) hg hdb)
/-- an own exception is made of vs, its __init__ keeping sp -/
def rMkO (C : Addr) (sp : Sp) (E : XK) (vs : List V) (H1 : Hp) : Prop := vs.length ≤ 1000 ∧ ∀ a, H1 a = none → sp (.ref a :: (vs ++ [])) (upd H1 a (exo a C none))
  (fun v H2 => v = .non ∧ ∃ (d : Addr) (fs : List (Str × V)), H2 a = some (exo a C (some d)) ∧ H2 d = some (exd d fs) ∧ H1 d = none ∧ E (.ref C) (some d) (upd (del H2 a) d (.xd fs))) (fun _ _ _ => False)
def tRzI (C : Addr) (sp : Sp) (ta : TA) (E : XK) : TS := fun _ σ H => ta σ H fun vs H1 => rMkO C sp E vs H1
theorem ps_rzI {fs : List Str} (D : XOw X.K X.mg x C fs) (G : IOk X.prog X.w X.K X.mg X.base k C ps sp) (hr : Room (k + 1) X.A) (tk : Takes X (fun cls d _ H => E cls d H)) (ha : PA X (e :: es) ta) (hc : X.calm = true := by rfl) (hg : Gl X x := by rfl) (hdb : (x == ("__debug__" : Str)) = false := by decide)
    (he : starEach (e :: es) X.env = (false, eval e X.env) :: starEach es X.env := by rfl) (hpl : (backTo pos (starEach es X.env)).any (·.1) = false := by rfl) : PS X (.Raise (some (.Call (.Name x p) (e :: es) [] pos)) none pos') (tRzI C sp ta E) := by
  obtain ⟨fI, fd, F, i, t, b⟩ := G
  exact ps_raise hc tk (pmk_oex D.oex i t F hr b .nil pass0 hg D.g ha hdb he hpl)
/-- the promise of an __init__ that stores one number -/
def sp_xi1 (C : Addr) (f : Str) : Sp := fun vs H Q _ => ∃ (a : Addr) (i : Nat), vs = [.ref a, .int (i : Nat)] ∧ i < 1000000000 ∧ H a = some (exo a C none) ∧ ∀ d, H d = none → d ≠ a → Q .non (upd (upd H d (exd d [(f, .int (i : Nat))])) a (exo a C (some d)))
/-- .. two -/
def sp_xi2 (C : Addr) (f g : Str) : Sp := fun vs H Q _ => ∃ (a : Addr) (i j : Nat), vs = [.ref a, .int (i : Nat), .int (j : Nat)] ∧ i < 1000000000 ∧ j < 1000000000 ∧ H a = some (exo a C none) ∧ ∀ d, H d = none → d ≠ a → Q .non (upd (upd H d (exd d [(g, .int j), (f, .int i)])) a (exo a C (some d)))
variable {σ : St} {H : Hp} {D : Ends}
theorem rd_rz (h : E (.ref C) none H) : tRz C E D σ H := h
theorem rd_rzI (h : ta σ H fun vs H1 => rMkO C sp E vs H1) : tRzI C sp ta E D σ H := h
theorem del_upd {H : Hp} {a d : Addr} {o1 o2 o3 o4 : HO} (ha : H a = none) (hd : d ≠ a) : upd (del (upd (upd (upd H a o1) d o2) a o3) a) d o4 = upd H d o4 := by
  funext b
  by_cases h1 : b = d
  · subst h1; rw [upd_same, upd_same]
  · rw [upd_ne h1, upd_ne h1]
    by_cases h2 : b = a
    · subst h2; rw [del_same, ha]
    · rw [del_ne h2, upd_ne h2, upd_ne h1, upd_ne h2]
theorem rd_mk1 {i : Nat} (hi : i < 1000000000) (h : ∀ d, H d = none → E (.ref C) (some d) (upd H d (.xd [(f, .int (i : Nat))]))) : rMkO C (sp_xi1 C f) E [.int (i : Nat)] H := by
  refine ⟨by show 1 ≤ 1000; decide, fun a ha => ⟨a, i, rfl, hi, upd_same, fun d hd hn => ⟨rfl, d, [(f, .int (i : Nat))], upd_same, ?_, ?_, ?_⟩⟩⟩
  · rw [upd_ne hn, upd_same]
  · rw [upd_ne hn] at hd; exact hd
  · rw [del_upd ha hn]
    rw [upd_ne hn] at hd
    exact h d hd
theorem rd_mk2 {i j : Nat} (hi : i < 1000000000) (hj : j < 1000000000) (h : ∀ d, H d = none → E (.ref C) (some d) (upd H d (.xd [(g, .int (j : Nat)), (f, .int (i : Nat))]))) : rMkO C (sp_xi2 C f g) E [.int (i : Nat), .int (j : Nat)] H := by
  refine ⟨by show 2 ≤ 1000; decide, fun a ha => ⟨a, i, j, rfl, hi, hj, upd_same, fun d hd hn => ⟨rfl, d, [(g, .int (j : Nat)), (f, .int (i : Nat))], upd_same, ?_, ?_, ?_⟩⟩⟩
  · rw [upd_ne hn, upd_same]
  · rw [upd_ne hn] at hd; exact hd
  · rw [del_upd ha hn]
    rw [upd_ne hn] at hd
    exact h d hd
end
end L2.Px
set_option Elab.async false
set_option linter.all false
set_option maxRecDepth 100000
set_option maxHeartbeats 1000000
namespace L2.Px
open PySem PySem.Spec PyProof.Rows StX TL
/-- for i, (c, n) in enumerate(zip(text, list)), the list staying -/
theorem for_es {K : PySem.W.Frag} {b : Addr} {L M : List Nat} {g : TG} {tb : TS} {D : Ends} {σ : St} {H : Hp} (Pv : Nat → St → Hp → Prop) (hl : L.length = M.length) (h0 : Pv 0 σ H) (hb : ∀ i σ H, Pv i σ H → H b = some (.lst (natV M)))
    (hs : ∀ i T T' σ H H', i < L.length → Pv i σ H → Same H H' → H' T = some (.tup [.str ⟨#[L[i]?.getD 0]⟩, .int (M[i]?.getD 0 : Nat)]) → H' T' = some (.tup [.int (i : Nat), .ref T]) → g (.ref T') σ H' fun σ2 H2 => tb { D with nx := Pv (i + 1), ct := Pv (i + 1), bk := D.nx } σ2 H2)
    (hd : ∀ σ H, Pv L.length σ H → D.nx σ H) : ForW (IteZs K (mkS L) b) g tb D σ H := by
  have nat_at : ∀ {N : List Nat} {i : Nat}, i < N.length → (natV N)[i]? = some (.int (N[i]?.getD 0 : Nat)) := fun {N i} hi => by
    unfold natV
    rw [List.getElem?_map, List.getElem?_eq_getElem hi]; rfl
  refine ⟨fun i m σ H => m = L.length - i ∧ i ≤ L.length ∧ Pv i σ H, ⟨_, rfl, Nat.zero_le _, h0⟩, ?_⟩
  rintro i m σ H ⟨rfl, hi, p⟩
  have eb := hb i σ H p
  by_cases hlt : i < L.length
  · have hc : (mkS L).cps[i]? = some L[i] := by simp [mkS, hlt]
    refine .inr ⟨⟨_, _, _, SqL.of eb, hc, nat_at (by omega)⟩, Pv (i + 1), fun σ' H' p' => ⟨L.length - (i + 1), by omega, rfl, hlt, p'⟩, fun v H' y => ?_⟩
    obtain ⟨T, T', c, y, rfl, hT, hT', rfl, hx, hy⟩ := y
    have hy := hy _ (SqL.of eb)
    rw [nat_at (by omega)] at hy
    cases hy
    rw [hc] at hx
    cases hx
    refine hs i T T' σ H _ hlt p ((Same.new (Same.refl _) hT).trans (Same.new (Same.refl _) hT')) ?_ upd_same
    rw [List.getElem?_eq_getElem hlt]
    exact Same.new (Same.refl _) hT' _ _ upd_same
  · have e : i = L.length := by omega
    subst e
    exact .inl ⟨⟨_, SqL.of eb, by simp [mkS], by rw [natV_len]; omega, .inl (by simp [mkS])⟩, hd σ H p⟩
/-- the row of a key -/
def rowK (ss : List Stp) (k : Nat) : List Nat := fmtL 4 false k ++ (32 :: lat ss k :: 32 :: fmtL 26 true (cn ss (sz ss) k))
def tabL (ss : List Stp) : List Nat := joinL [10] ((List.range (tyL ss).length).map (rowK ss))
def txV (L : List (List Nat)) : List V := L.map fun x => V.str (mkS x)
section
variable (K : PySem.W.Frag) (CT CP : Addr)
def sp_key_table : Sp := fun vs H Q _ => ∃ a ss, vs = [.ref a] ∧ TX K CT CP H a ss ∧ ∀ H', Same H H' → Q (.str (mkS (tabL ss))) H'
end
theorem fmtL_len {W : Nat} {gr : Bool} {n : Nat} (hn : n < 10 ^ 20) : (fmtL W gr n).length ≤ W + 40 := by
  have d20 : (numL n).length ≤ 20 := numL_len (by decide) hn
  have g40 := grp_len (numL n).length (numL n) (Nat.le_refl _)
  unfold fmtL padL
  rw [List.length_append, List.length_replicate]
  cases gr <;> simp only [Bool.false_eq_true, if_false, if_true] <;> omega
theorem rowK_len {ss : List Stp} {k : Nat} (h1 : k < 10 ^ 20) (h2 : cn ss (sz ss) k < 10 ^ 20) : (rowK ss k).length ≤ 120 := by
  have a := fmtL_len (W := 4) (gr := false) h1
  have b := fmtL_len (W := 26) (gr := true) h2
  unfold rowK
  simp only [List.length_append, List.length_cons]
  omega
theorem joinL_len (s : List Nat) : ∀ L : List (List Nat), (joinL s L).length ≤ (L.map fun x => x.length + s.length).sum
  | [] => by simp [joinL]
  | [x] => by simp [joinL]
  | x :: y :: r => by
    have e : joinL s (x :: y :: r) = x ++ (s ++ joinL s (y :: r)) := rfl
    have ih := joinL_len s (y :: r)
    rw [e, List.length_append, List.length_append, List.map_cons, List.sum_cons]
    omega
theorem sum_le_rows {L : List (List Nat)} {B : Nat} (h : ∀ x ∈ L, x.length ≤ B) : ∀ (f : List Nat → Nat) (c : Nat), (∀ x, f x = x.length + c) → (L.map f).sum ≤ L.length * (B + c) := by
  induction L with
  | nil => intro f c _; simp
  | cons x L ih =>
    intro f c hf
    have := ih (fun y hy => h y (List.mem_cons_of_mem _ hy)) f c hf
    have hx := h x List.mem_cons_self
    rw [List.map_cons, List.sum_cons, List.length_cons, hf, Nat.succ_mul]
    omega
section
variable {K : PySem.W.Frag} {CT CP : Addr} {H : Hp} {Q : VK} {E : XK} {l a : Addr} {sep : Str} {L : List (List Nat)} {σ : St} {ts : List TE} {acc : Str} {RR : Str → Hp → Prop} {ss : List Stp}
theorem join_texts (sep : Str) (L : List (List Nat)) : Txt.join sep (L.map mkS) = mkS (joinL (tl sep) L) := by
  apply ext_tl
  rw [join_eq, tl_join, List.map_map, tl_mkS]
  congr 1
  exact List.map_id _
theorem rd_joinT (h : H l = some (.lst (txV L))) (hz : sep.length * L.length + (L.map List.length).sum ≤ 16777216) (q : Q (.str (mkS (joinL (tl sep) L))) H) : rJoin K (.str sep) [.ref l] H Q := by
  refine ⟨sep, l, L.map mkS, rfl, rfl, .inl (SqL.of (by rw [h]; unfold txV; rw [List.map_map]; rfl)), ?_, by rw [join_texts]; exact q⟩
  have e : ((L.map mkS).map (·.length)) = L.map List.length := by
    rw [List.map_map]; apply List.map_congr_left; intro x _; exact mkS_len x
  first
  | (rw [e]; simp only [List.length_map]; exact hz)
  | (rw [e, List.length_map]; rw [Nat.mul_comm] at hz; omega)
theorem rd_jfmt {W i n : Nat} {gr : Bool} (hi : σ[i]? = some (some (.int (n : Nat)))) (hn : n < 10 ^ 20) (ha : acc.length + W ≤ 1000) (k : tJs ts (acc ++ mkS (fmtL W gr n)) σ H RR) : tJs (tFmtS W gr (tVar i) :: ts) acc σ H RR := by
  refine ⟨_, hi, n, rfl, hn, mkS (fmtL W gr n), rfl, ?_, k⟩
  have := fmtL_len (W := W) (gr := gr) hn
  rw [str_len_app, mkS_len, sizeLine_eq]; omega
theorem rd_jvar {i : Nat} {x : Str} (hi : σ[i]? = some (some (.str x))) (hx : x.length ≤ 1000) (ha : acc.length ≤ 1000) (k : tJs ts (acc ++ x) σ H RR) : tJs (tFmt (tVar i) :: ts) acc σ H RR := by
  refine ⟨_, hi, .inl ⟨x, rfl, by rw [sizeLine_eq]; omega, x, rfl, ?_, k⟩⟩
  rw [str_len_app, sizeLine_eq]; omega
theorem rd_keyTable (h : TX K CT CP H a ss) (q : ∀ H', Same H H' → Q (.str (mkS (tabL ss))) H') : sp_key_table K CT CP [.ref a] H Q E := ⟨a, ss, rfl, h, q⟩
end
section
variable {H : Hp} {Q : VK} {L : List Nat} {E : XK} {n k : Nat}
theorem str_num (n : Nat) : Str.ofString (toString ((n : Nat) : Int)) = mkS (numL n) := ext_tl (by rw [tl_num, tl_mkS])
theorem log_small {n : Nat} (h : n < 10 ^ 20) : (n : Int).natAbs.log2 < 1920 := by
  rw [Int.natAbs_natCast]
  by_cases h0 : n = 0
  · subst h0; decide
  · have : (10 : Nat) ^ 20 < 2 ^ 67 := by decide
    have h3 : n.log2 < 67 := (Nat.log2_lt h0).mpr (by omega)
    omega
end
theorem cn_lt20 {ss : List Stp} (ok : okFrom 0 ss) (k : Nat) : cn ss (sz ss) k < 10 ^ 20 := by
  have z := sz_le ok
  have : cn ss (sz ss) k ≤ sz ss := by rw [cn_all ok]; exact Nat.le_trans List.count_le_length (Nat.le_of_eq (ks_len ok))
  omega
theorem row_text {ss : List Stp} {k : Nat} {c : Nat} (hc : c = lat ss k) : (((((Str.empty ++ mkS (fmtL 4 false k)) ++ (" " : Str)) ++ (⟨#[c]⟩ : Str)) ++ (" " : Str)) ++ mkS (fmtL 26 true (cn ss (sz ss) k))) = mkS (rowK ss k) := by
  subst hc
  apply ext_tl
  have e1 : tl (" " : Str) = [32] := by decide +kernel
  rw [tl_append, tl_append, tl_append, tl_append, tl_append, tl_mkS, tl_mkS, tl_mkS, e1, show tl (Str.empty : Str) = [] from rfl, show tl (⟨#[lat ss k]⟩ : Str) = [lat ss k] from rfl]
  unfold rowK
  simp
theorem rd_strI {H : Hp} {Q : VK} {i : Int} {n : Nat} (e : i = n) (hn : n < 10 ^ 20) (q : Q (.str (mkS (numL n))) H) : rStrI [.int i] H Q := by
  subst e
  exact ⟨_, rfl, log_small hn, by rw [str_num]; exact q⟩
end L2.Px
set_option Elab.async false
set_option linter.all false
set_option maxRecDepth 100000
set_option maxHeartbeats 2000000
namespace L2.Px
open PySem PySem.Spec PyProof.Rows StX ClX LamX
/-- e is of the i-th kind of Cs -/
structure RzC (K : PySem.W.Frag) (CT : Addr) (Cs : List Addr) (i : Nat) (D : Addr) : Prop where
  isi : ExcC K D
  exm : PySem.W.exmOne K (.ref D) (.ref CT) = some true
  ve : PySem.W.kitOne K (.ref D) (.type "ValueError") = some true
  kit : ∀ (j : Nat) C, Cs[j]? = some C → PySem.W.kitOne K (.ref D) (.ref C) = some (decide (j = i))
/-- .. and tells a number in its field f -/
structure RzF (K : PySem.W.Frag) (D : Addr) (f : Str) : Prop where
  xf : XfC K D
  no : PySem.W.findIn K (.ref D) f = some none
def rzW : List Str := ["step", "changes", "long", "place", "key", "letter", "number"]
/-- what _law_raised answers of the exception of the class cls, its dict d -/
def RzAns (K : PySem.W.Frag) (CT : Addr) (Cs : List Addr) (cls : Value) (d : Option Addr) (H : Hp) (Q : VK) : Prop := ∃ (i : Nat) (D : Addr) (w : Str), cls = .ref D ∧ RzC K CT Cs i D ∧ rzW[i]? = some w ∧
  ((i < 2 ∧ RzF K D "index" ∧ ∃ (dd : Addr) (n : Int) (fs : List (Str × V)), d = some dd ∧ H dd = some (.xd fs) ∧ fs.lookup ("index" : Str) = some (.int n) ∧ ∀ p H', Same H H' → H' p = some (.tup [.str w, .int n]) → Q (.ref p) H') ∨
    (¬ i < 2 ∧ d = none ∧ ∀ p H', Same H H' → H' p = some (.tup [.str w]) → Q (.ref p) H'))
theorem RzAns.dict {K : PySem.W.Frag} {CT : Addr} {Cs : List Addr} {cls : Value} {d : Option Addr} {H : Hp} {Q : VK} (h : RzAns K CT Cs cls d H Q) : d = none ∨ ∃ dd fs, d = some dd ∧ H dd = some (.xd fs) := by
  obtain ⟨i, D, w, _, _, _, ⟨_, _, dd, n, fs, e, hx, _⟩ | ⟨_, e, _⟩⟩ := h
  · exact .inr ⟨dd, fs, e, hx⟩
  · exact .inl e
end L2.Px
set_option Elab.async false
set_option linter.all false
set_option maxRecDepth 100000
set_option maxHeartbeats 1000000
namespace L2.Px
open PySem PySem.Spec PyProof.Rows StX ClX LamX
/-- the tables of all defs of the top are empty -/
def AllTab (q : Program) (K : PySem.W.Frag) (mg : Str → Option Value) (h : Heap) : Prop := ∀ (x : Str) (f : Addr), ((recsOf q).any fun e => e.name == x) = true → mg x = some (.ref f) → OwnTab K f h
section
variable {K : PySem.W.Frag} {h : Heap} {mg : Str → Option Value} {x qual : Str} {st : Stmt} {ps : List Str} {f c P : Addr} {q : Program}
/-- the code object at c has its table at P, outside K -/
structure TabC (K : PySem.W.Frag) (c P : Addr) : Prop where
  hd : PySem.W.codeHdIn K c P = true
  no : K.lookup P = none
  at_ : ∃ (e : Value) (dd : Option Addr) (vs : Array Value) (sl : Array (Option Value)), K.lookup c = some ⟨e, dd, .fields vs, sl⟩ ∧ vs[11]? = some (.ref P)
theorem TabC.empty (t : TabC K c P) (A : AllTab q K mg h) (D : DefGC K mg x st ps c) (hx : ((recsOf q).any fun e => e.name == x) = true) : h.get? P = some { cls := .none, data := .fields #[] } := by
  obtain ⟨f, fd, F, hm, _⟩ := D
  obtain ⟨oc, od, kV, doc, pm, an, ct, osl, rfl, lk, _⟩ := F.ex
  obtain ⟨e, dd, vs, sl, l, v⟩ := t.at_
  exact A x f hx hm c P _ _ e dd vs sl lk rfl rfl l v
end
end L2.Px
set_option Elab.async false
set_option linter.all false
set_option maxRecDepth 100000
set_option maxHeartbeats 1000000
namespace L2.Px
open PySem PySem.Spec PyProof.Rows StX TL
/-- how many first places agree -/
def pre : List Nat → List Nat → Nat
  | x :: xs, y :: ys => if x = y then pre xs ys + 1 else 0
  | _, _ => 0
end L2.Px
set_option Elab.async false
set_option linter.all false
set_option maxRecDepth 100000
set_option maxHeartbeats 1000000
namespace L2.Px
open PySem PySem.Spec PyProof.Rows StX TL
/-- for over a walk of plain items -/
theorem for_plain {J : It} {n : Nat} {it : Nat → V} {g : TG} {tb : TS} {D : Ends} {σ : St} {H : Hp} (Pv : Nat → St → Hp → Prop) (h0 : Pv 0 σ H) (hl : ∀ i σ H, i ≤ n → Pv i σ H → Plain J n it H)
    (hs : ∀ i σ H, i < n → Pv i σ H → g (it i) σ H fun σ2 H2 => tb { D with nx := Pv (i + 1), ct := Pv (i + 1), bk := D.nx } σ2 H2) (hd : ∀ σ H, Pv n σ H → D.nx σ H) : ForW J g tb D σ H := by
  refine ⟨fun i m σ H => m = n - i ∧ i ≤ n ∧ Pv i σ H, ⟨n, by simp, Nat.zero_le _, h0⟩, ?_⟩
  rintro i m σ H ⟨rfl, hi, p⟩
  have q := hl i σ H hi p
  by_cases hlt : i < n
  · refine .inr ⟨q.go i H (Same.refl _) hlt, Pv (i + 1), fun σ' H' p' => ⟨n - (i + 1), by omega, rfl, hlt, p'⟩, fun x H' y => ?_⟩
    obtain ⟨e1, e2⟩ := q.yld i H x H' (Same.refl _) hlt y
    subst e1 e2
    exact hs i σ _ hlt p
  · have e : i = n := by omega
    subst e
    exact .inl ⟨q.stop H (Same.refl _), hd σ H p⟩
/-- the list of pairs (key, letter) at l -/
def ChAt (K : PySem.W.Frag) (H : Hp) (l : Addr) (cs : List (Nat × Nat)) (n : Nat) : Prop :=
  ∃ xs : List V, H l = some (.lst xs) ∧ xs.length = cs.length ∧ ∀ (i : Nat) (c : Nat × Nat), cs[i]? = some c → c.1 < n ∧ 97 ≤ c.2 ∧ c.2 ≤ 122 ∧ ∃ T, xs[i]? = some (V.ref T) ∧ H T = some (.tup [.int (c.1 : Nat), .str ⟨#[c.2]⟩])
section
variable (K : PySem.W.Frag) (CT CP : Addr) {H H' : Hp} {a b l : Addr} {ss tt : List Stp} {cs : List (Nat × Nat)} {n : Nat} {Q : VK} {E : XK}
variable {K CT CP}
theorem ChAt.mono (h : ChAt K H l cs n) (S : Same H H') : ChAt K H' l cs n := by
  obtain ⟨xs, e, hl, hx⟩ := h
  exact ⟨xs, S _ _ e, hl, fun i c hc => let ⟨h1, h2, h3, T, h4, h5⟩ := hx i c hc; ⟨h1, h2, h3, T, h4, S _ _ h5⟩⟩
variable (K CT CP)
variable {K CT CP}
end
end L2.Px
set_option Elab.async false
set_option linter.all false
set_option maxRecDepth 100000
set_option maxHeartbeats 1000000
namespace L2.Px
open PySem PySem.Spec PyProof.Rows StX TL
section
variable {K : PySem.W.Frag} {J : It} {n j : Nat} {it : Nat → V} {te : TE} {vs : List Nat} {σ : St} {H H1 : Hp} {D r l : Addr} {Qd : Hp → Prop} {Q : VK} {ss : List Stp}
theorem LX.kp {a : Addr} {H' : Hp} (h : LX K H a ss) (e : Kp H H') : LX K H' a ss := let ⟨ms, q, s⟩ := h; ⟨ms, e _ _ (nr_refs s.refs) q, s.kp e⟩
end
end L2.Px
set_option Elab.async false
set_option linter.all false
set_option maxRecDepth 100000
set_option maxHeartbeats 1000000
namespace L2.Px
open PySem PySem.Spec PyProof.Rows StX TL
end L2.Px
set_option Elab.async false
set_option linter.all false
set_option maxRecDepth 100000
set_option maxHeartbeats 1000000
namespace L2.Px
open PySem PySem.Spec PyProof.Rows StX TL
end L2.Px
set_option Elab.async false
set_option linter.all false
set_option maxRecDepth 100000
set_option maxHeartbeats 1000000
namespace L2.Px
open PySem PySem.Spec PyProof.Rows StX TL
/-- f leads each key along the heads hs to its root -/
structure Rt (hs : List Nat) (f : Nat → Nat) : Prop where
  le : ∀ k, k < hs.length → hs[k]?.getD 0 ≤ k
  root : ∀ k, k < hs.length → hs[k]?.getD 0 = k → f k = k
  step : ∀ k, k < hs.length → f k = f (hs[k]?.getD 0)
theorem Rt.start (n : Nat) : Rt (List.range n) id := by
  refine ⟨fun k hk => ?_, fun k _ _ => rfl, fun k hk => ?_⟩ <;> rw [List.length_range] at hk <;> rw [List.getElem?_range hk] <;> simp
/-- f is the ties of P, and no more -/
structure Clo (P : List (Nat × Nat)) (f : Nat → Nat) : Prop where
  tied : ∀ p ∈ P, f p.1 = f p.2
  fix : ∀ g : Nat → Nat, (∀ p ∈ P, g p.1 = g p.2) → ∀ k, g (f k) = g k
theorem Clo.start : Clo [] id := ⟨fun p h => (by cases h), fun g _ k => rfl⟩
def rootsF (f : Nat → Nat) (n : Nat) : List Nat := (List.range n).filter fun r => decide (f r = r)
def memF (f : Nat → Nat) (n r : Nat) : List Nat := (List.range n).filter fun k => decide (f k = r)
end L2.Px
set_option Elab.async false
set_option linter.all false
set_option maxRecDepth 100000
set_option maxHeartbeats 2000000
namespace L2.Px
open PySem PySem.Spec PyProof.Rows StX TL
end L2.Px
set_option Elab.async false
set_option linter.all false
set_option maxRecDepth 100000
set_option maxHeartbeats 2000000
namespace L2.Px
open PySem PySem.Spec PyProof.Rows StX TL
end L2.Px
set_option Elab.async false
set_option linter.all false
set_option maxRecDepth 100000
set_option maxHeartbeats 2000000
namespace L2.Px
open PySem PySem.Spec PyProof.Rows StX TL
def tieFs (x : Str) (h : Addr) : List (Str × V) := putF "heads" (.ref h) (putF "letters" (.str x) [])
theorem tieFs_no {x m : Str} {h : Addr} (z : m ≠ "heads" ∧ m ≠ "letters") : (tieFs x h).lookup m = none := by
  unfold tieFs; rw [lookup_putF, if_neg z.1, lookup_putF, if_neg z.2]; rfl
/-- the ties at t of the keys with letters L: f leads to the roots -/
structure TieA (CI : Addr) (H : Hp) (t dx h : Addr) (L hs : List Nat) (f : Nat → Nat) : Prop where
  ins : H t = some (.ins CI dx (tieFs (mkS L) h))
  lst : H h = some (.lst (natV hs))
  rt : Rt hs f
  len : hs.length = L.length
  ne : h ≠ t
section
variable {K : PySem.W.Frag} {CI CT CP : Addr} {H H' H1 : Hp} {t dx h l r p : Addr} {L hs hs' M A B : List Nat} {f f' : Nat → Nat} {Q : VK} {E : XK} {cs : List (List Nat)} {i j : Int} {ss tt : List Stp} {a b : Addr}
theorem TieA.mono (z : TieA CI H t dx h L hs f) (S : Same H H') : TieA CI H' t dx h L hs f := ⟨S _ _ z.ins, S _ _ z.lst, z.rt, z.len, z.ne⟩
theorem TieA.next (z : TieA CI H t dx h L hs f) (B : But h H H') (e : H' h = some (.lst (natV hs'))) (r : Rt hs' f') (n : hs'.length = hs.length) : TieA CI H' t dx h L hs' f' := ⟨B _ _ (Ne.symm z.ne) z.ins, e, r, by rw [n, z.len], z.ne⟩
theorem TieA.insM {m : Str} (z : TieA CI H t dx h L hs f) (hm : m ≠ "heads" ∧ m ≠ "letters" := by decide +kernel) : InsM H t CI m := ⟨dx, _, z.ins, tieFs_no hm⟩
/-- the list at l holds the lists cs -/
def ClsAt (H : Hp) (l : Addr) (cs : List (List Nat)) : Prop := ∃ as : List Addr, H l = some (.lst (as.map V.ref)) ∧ as.length = cs.length ∧ ∀ (i : Nat) c, cs[i]? = some c → ∃ a, as[i]? = some a ∧ H a = some (.lst (natV c))
theorem ClsAt.mono (z : ClsAt H l cs) (S : Same H H') : ClsAt H' l cs := let ⟨as, e, n, g⟩ := z; ⟨as, S _ _ e, n, fun i c hc => let ⟨a, x, y⟩ := g i c hc; ⟨a, x, S _ _ y⟩⟩
variable (K CI CT CP)
variable {K CI CT CP}
end
end L2.Px
set_option Elab.async false
set_option linter.all false
set_option maxRecDepth 100000
set_option maxHeartbeats 1000000
namespace L2.Px
open PySem PySem.Spec PyProof.Rows StX TL
def kvR (rs : List Nat) (cl : Nat → Addr) : List (Key × V) := rs.map fun (r : Nat) => ((Sum.inl (r : Int) : Key), V.ref (cl r))
/-- the first i keys are gathered in the dict at D; cl tells the lists -/
structure ClsW (f : Nat → Nat) (H H' : Hp) (D : Addr) (i : Nat) (cl : Nat → Addr) : Prop where
  same : Same H H'
  dict : H' D = some (.dK (kvR (rootsF f i) cl))
  cls : ∀ r ∈ rootsF f i, H (cl r) = none ∧ cl r ≠ D ∧ H' (cl r) = some (.lst (natV (memF f i r)))
  inj : ∀ r r', r ∈ rootsF f i → r' ∈ rootsF f i → cl r = cl r' → r = r'
section
variable {f : Nat → Nat} {H H' H1 : Hp} {D p : Addr} {i : Nat} {cl : Nat → Addr}
theorem ClsW.start (hD : H D = none) : ClsW f H (upd H D (.dK [])) D 0 cl := ⟨Same.new (Same.refl _) hD, upd_same, fun r hr => by simp [rootsF] at hr, fun r r' hr => by simp [rootsF] at hr⟩
theorem ClsW.mono (w : ClsW f H H' D i cl) (S : Same H' H1) : ClsW f H H1 D i cl := ⟨w.same.trans S, S _ _ w.dict, fun r hr => let ⟨a, b, c⟩ := w.cls r hr; ⟨a, b, S _ _ c⟩, w.inj⟩
end
end L2.Px
set_option Elab.async false
set_option linter.all false
set_option maxRecDepth 100000
set_option maxHeartbeats 1000000
namespace L2.Px
open PySem PySem.Spec PyProof.Rows StX TL
section
variable {J : It} {n : Nat} {it : Nat → V} {H1 : Hp} {tt : TT} {te : TE} {vs : List Nat} {σ : St} {D : Addr} {Qd : Hp → Prop} {j : Nat}
/-- ys answers the numbers is, one by one -/
def Ans (Rl : Nat → V → Hp → Prop) (H : Hp) (is : List Nat) (ys : List V) : Prop := ys.length = is.length ∧ ∀ (k i : Nat), is[k]? = some i → ∃ y, ys[k]? = some y ∧ Rl i y H
theorem Ans.snoc {Rl : Nat → V → Hp → Prop} {H H' : Hp} {is : List Nat} {ys : List V} (a : Ans Rl H is ys) {i : Nat} {y : V} (m : ∀ i y, Rl i y H → Rl i y H') (r : Rl i y H') : Ans Rl H' (is ++ [i]) (ys ++ [y]) := by
  refine ⟨by simp [a.1], fun k x hk => ?_⟩
  by_cases h : k < is.length
  · rw [List.getElem?_append_left h] at hk
    obtain ⟨z, h1, h2⟩ := a.2 k x hk
    exact ⟨z, by rw [List.getElem?_append_left (by rw [a.1]; exact h)]; exact h1, m _ _ h2⟩
  · have hl : k < (is ++ [i]).length := (List.getElem?_eq_some_iff.mp hk).1
    have hk0 : k = is.length := by simp at hl; omega
    subst hk0
    rw [List.getElem?_append_right (Nat.le_refl _), Nat.sub_self] at hk
    cases hk
    exact ⟨y, by rw [List.getElem?_append_right (by rw [a.1]; exact Nat.le_refl _), a.1, Nat.sub_self]; rfl, r⟩
theorem Ans.mono {Rl : Nat → V → Hp → Prop} {H H' : Hp} {is : List Nat} {ys : List V} (a : Ans Rl H is ys) (m : ∀ i y, Rl i y H → Rl i y H') : Ans Rl H' is ys := ⟨a.1, fun k i hk => let ⟨y, h1, h2⟩ := a.2 k i hk; ⟨y, h1, m _ _ h2⟩⟩
end
theorem cutV_from (xs : List V) (j : Nat) : cutV xs (some (j : Nat)) none = xs.drop j := by
  unfold cutV
  rw [HT.sIx_nat, HT.sIx_none]
  by_cases h : j ≤ xs.length
  · rw [Nat.min_eq_left h, List.take_of_length_le (by rw [List.length_drop]; exact Nat.le_refl _)]
  · rw [Nat.min_eq_right (by omega), List.drop_of_length_le (Nat.le_refl _), List.drop_of_length_le (by omega)]
    simp
section
variable {K : PySem.W.Frag} {H H' : Hp} {l p F : Addr} {cs ds : List (Nat × Nat)} {n : Nat} {Q : VK}
theorem ChAt.but (h : ChAt K H l cs n) (B : But F H H') {xs : List V} (hF : H F = some (.lst xs)) (ne : l ≠ F) : ChAt K H' l cs n := by
  obtain ⟨xs, e, hl, hx⟩ := h
  exact ⟨xs, B _ _ ne e, hl, fun i c hc => let ⟨h1, h2, h3, T, h4, h5⟩ := hx i c hc; ⟨h1, h2, h3, T, h4, B _ _ (fun z => by subst z; rw [hF] at h5; cases h5) h5⟩⟩
end
end L2.Px
set_option Elab.async false
set_option linter.all false
set_option maxRecDepth 100000
set_option maxHeartbeats 2000000
namespace L2.Px
open PySem PySem.Spec PyProof.Rows StX TL
section
variable {K : PySem.W.Frag} {CI CT CP : Addr} {H H' H1 : Hp} {a b l r p : Addr} {L M : List Nat} {Q : VK} {E : XK} {cs ds : List (Nat × Nat)} {cl : List (List Nat)} {i j : Int} {ss tt : List Stp} {n c : Nat} {X : Cx}
theorem ClsAt.get (h : ClsAt H l cl) {i : Nat} {c : List Nat} (hc : cl[i]? = some c) : ∃ as : List Addr, H l = some (.lst (as.map V.ref)) := let ⟨as, e, _⟩ := h; ⟨as, e⟩
theorem ChAt.drop {xs : List V} (h : ChAt K H l cs n) (hx : H l = some (.lst xs)) (j : Nat) (e : H p = some (.lst (xs.drop j))) : ChAt K H p (cs.drop j) n := by
  obtain ⟨xs', ex, hl, hc⟩ := h
  rw [hx] at ex
  cases ex
  exact ⟨_, e, by rw [List.length_drop, List.length_drop, hl], fun i c hi => by rw [List.getElem?_drop] at hi ⊢; exact hc _ c hi⟩
variable (K CT CP)
variable {K CT CP}
theorem rd_slSF {j : Nat} (hz : L.length ≤ 16777216) (q : Q (.str (mkS (L.drop j))) H) : rSlS (.str (mkS L)) (some (j : Nat)) none H Q := by
  refine ⟨_, rfl, by rw [mkS_len, sizeLine_eq]; exact hz, ?_⟩
  have e : cutS (mkS L) (some (j : Nat)) none = mkS (L.drop j) := by
    refine ext_tl ?_
    rw [tl_mkS]
    unfold cutS
    rw [HT.sIx_nat, HT.sIx_none, mkS_len]
    show (L.drop (min j L.length)).take (L.length - min j L.length) = _
    by_cases h : j ≤ L.length
    · rw [Nat.min_eq_left h, List.take_of_length_le (by rw [List.length_drop]; exact Nat.le_refl _)]
    · rw [Nat.min_eq_right (by omega), List.drop_of_length_le (Nat.le_refl _), List.drop_of_length_le (by omega)]
      simp
  rw [e]; exact q
theorem rd_slST (hz : L.length ≤ 16777216) (h0 : 0 ≤ j) (q : Q (.str (mkS (L.take j.toNat))) H) : rSlS (.str (mkS L)) none (some j) H Q := by
  refine ⟨_, rfl, by rw [mkS_len, sizeLine_eq]; exact hz, ?_⟩
  have e : cutS (mkS L) none (some j) = mkS (L.take j.toNat) := by
    refine ext_tl ?_
    rw [tl_mkS]
    unfold cutS
    rw [show j = ((j.toNat : Nat) : Int) by omega, HT.sIx_nat, HT.sIx_none, mkS_len, Int.toNat_natCast]
    show (L.drop 0).take (min j.toNat L.length - 0) = _
    rw [List.drop_zero, Nat.sub_zero]
    by_cases h : j.toNat ≤ L.length
    · rw [Nat.min_eq_left h]
    · rw [Nat.min_eq_right (by omega), List.take_of_length_le (Nat.le_refl _), List.take_of_length_le (by omega)]
  rw [e]; exact q
end
end L2.Px
set_option Elab.async false
set_option linter.all false
set_option maxRecDepth 100000
set_option maxHeartbeats 2000000
namespace L2.Px
open PySem PySem.Spec PyProof.Rows StX TL
end L2.Px
set_option Elab.async false
set_option linter.all false
set_option maxRecDepth 100000
set_option maxHeartbeats 1000000
namespace L2.Px
open PySem PySem.Spec PyProof.Rows StX TL ClX
/-- v as a step of a text of n places: b whether it is one -/
def StVal (K : PySem.W.Frag) (H : Hp) (n : Int) (v : V) (b : Bool) : Prop := (NoSeq v ∧ b = false) ∨ ∃ a xs, v = .ref a ∧ (∀ x ∈ xs, NoSeq x ∧ ∀ z, x = .str z → z.length ≤ sizeLine) ∧ ((SqT K H a xs ∧ b = isSt n xs) ∨ (SqL K H a xs ∧ b = false))
def sp_is_stepG (K : PySem.W.Frag) : Sp := fun vs H Q _ => ∃ (v : V) (n : Nat) (b : Bool), vs = [v, .int n] ∧ StVal K H n v b ∧ ∀ H', Same H H' → Q (.bl b) H'
/-- the values rs are no steps of a text -/
def Rej (K : PySem.W.Frag) (CIS CTL : Addr) (E : XK) (H : Hp) (rs : List V) : Prop := ∃ (ss : List Stp) (v : V), StepsAt K H (rs.take ss.length) ss ∧ okFrom 0 ss ∧ rs[ss.length]? = some v ∧ ss.length ≤ 30 ∧
  (((ss.length = 30 ∨ StVal K H (sz ss : Nat) v false) ∧ ∀ d H', Same H H' → H' d = some (.xd [("index", .int (ss.length : Nat))]) → E (.ref CIS) (some d) H') ∨
    ∃ s, StepAt K H v s ∧ okStep (sz ss) s ∧ ss.length < 30 ∧ 1000000000000000000 < sz ss + len1 s ∧ ∀ H', Same H H' → E (.ref CTL) none H')
section
variable {K : PySem.W.Frag} {CIS CTL CT CP : Addr} {E : XK} {H H' : Hp} {rs : List V} {v : V} {n : Int} {b : Bool} {Q : VK}
theorem StVal.mono (e : Same H H') (h : StVal K H n v b) : StVal K H' n v b := by
  rcases h with h | ⟨a, xs, ev, hx, h | h⟩
  · exact .inl h
  · exact .inr ⟨a, xs, ev, hx, .inl ⟨Same.tup e h.1, h.2⟩⟩
  · exact .inr ⟨a, xs, ev, hx, .inr ⟨e.seq h.1, h.2⟩⟩
theorem Rej.mono (e : Same H H') (h : Rej K CIS CTL E H rs) : Rej K CIS CTL E H' rs := by
  obtain ⟨ss, v, h1, h2, h3, h4, h5⟩ := h
  refine ⟨ss, v, h1.mono e, h2, h3, h4, ?_⟩
  rcases h5 with ⟨h5, h6⟩ | ⟨s, a1, a2, a3, a4, a5⟩
  · exact .inl ⟨h5.imp id (·.mono e), fun d H'' S hd => h6 d H'' (e.trans S) hd⟩
  · exact .inr ⟨s, a1.mono e, a2, a3, a4, fun H'' S => a5 H'' (e.trans S)⟩
end
theorem StepAt.val {K : PySem.W.Frag} {H : Hp} {v : V} {s : Stp} {n : Nat} (h : StepAt K H v s) (ok : okStep n s) : StVal K H (n : Nat) v true := by
  obtain ⟨a, rfl, hq⟩ := h
  refine .inr ⟨a, stV s, rfl, fun x hx => ⟨stV_noseq s x hx, fun z hz => ?_⟩, .inl ⟨hq, ?_⟩⟩
  · subst hz
    cases s with
    | wr w =>
      simp only [stV, List.mem_cons, List.not_mem_nil, or_false, V.str.injEq] at hx
      rcases hx with rfl | rfl
      · rw [sizeLine_eq]; decide
      · exact str_small ok.2.1
    | pa f l t =>
      simp only [stV, List.mem_cons, List.not_mem_nil, or_false, V.str.injEq, reduceCtorEq] at hx
      subst hx
      rw [sizeLine_eq]; decide
  · cases s with
    | wr w =>
      have e : isWd (.str w) = true := decide_eq_true (by rw [← len_tl]; exact ok)
      simp [stV, isSt, e]
    | pa f l t =>
      obtain ⟨o1, o2, o3, o4⟩ := ok
      have e1 : isInt 0 ((n : Int) - 1) (.int l) = true := decide_eq_true (by omega)
      have e2 : isInt 0 (l : Int) (.int f) = true := decide_eq_true (by omega)
      have e3 : isInt 1 1000000000 (.int t) = true := decide_eq_true (by omega)
      simp [stV, isSt, e1, e2, e3, intOf]
section
variable (K : PySem.W.Frag) (CIS CTL CT CP : Addr)
def sp_Text_initR : Sp := fun vs H _ E => ∃ x dx m rs, vs = [.ref x, .ref m] ∧ H x = some (.ins CT dx []) ∧ SqT K H m rs ∧ Rej K CIS CTL E H rs
end
section
variable {K : PySem.W.Frag} {CIS CTL CT CP : Addr} {E : XK} {H : Hp} {rs : List V} {Q : VK}
theorem rd_mkTextR (h : Rej K CIS CTL E H rs) (hz : rs.length ≤ sizeLine) : rMk CT (spStar 1 (sp_Text_initR K CIS CTL CT)) E rs H Q := by
  intro x dx nx ndx hn
  refine ⟨[.ref x], rs, rfl, rfl, hz, fun p hp => ⟨x, dx, p, rs, rfl, ?_, SqT.of upd_same, ?_⟩⟩
  · rw [upd_ne fun z => by subst z; rw [upd_same] at hp; cases hp]; exact upd_same
  · refine h.mono ?_
    exact Same.new (Same.new (Same.new (Same.refl _) ndx) (by rw [upd_ne fun z => hn z.symm]; exact nx)) hp
end
end L2.Px
set_option Elab.async false
set_option linter.all false
set_option maxRecDepth 100000
set_option maxHeartbeats 2000000
namespace L2.Px
open PySem PySem.Spec PyProof.Rows StX ClX
/-- as compPost; the block's frame is known -/
def compPostF (M : Model) (A : Around) (E : Value → Shared → Prop) (use : Option (Value → Sem Unit)) (Q : Value → Shared → Prop) (acc : Value) (C : Addr) (F : Option Addr) (r : Result) (s' : Shared) : Prop :=
  match r with
  | .ok _ => compPost M A E use Q acc C (.ok .next) s'
  | .error x => ∃ m, s'.heap.Ns C m ∧ ∀ h', Heap.SameBut C s'.heap h' → ∀ ce : Env, ce.locals = C → ce.frame = F → wpAny M A (passOn "comprehension.variables-let-go" x ce : Sem Value) (fun _ _ => False) E { s' with heap := h' }
section
variable {M : Model} {A : Around} {E : Value → Shared → Prop} {s : Shared} {env : Env}
theorem comprehension_freeF {e : Expr} {scope : Scope} {pos : Pos} {newAcc first : Sem Value} {g : Comprehension} {gs : List Comprehension} {cl : List (Str × Addr)} {use : Option (Value → Sem Unit)} {Q : Value → Shared → Prop}
    (hcl : clausesOf e = g :: gs) (hs : ∀ x, foldedSetIterable g.iter env x = pure x) (hclos : closureFor scope env = pure cl)
    (hkind : scope.kind = .function) (hnames : ∀ x ∈ scope.names, x.2 = .local → scope.names.lookup x.1 = some .local)
    (h : wpAny M A first (fun x s₁ => wpAny M A (pyIter x) (fun it s₂ => wpAny M A newAcc (fun acc s₃ =>
      wpAny M A (newFunctionEnv scope env.globals cl [] env.qual none .none (some env)) (fun cenv s₄ =>
        codeAny M A (.compStart e 0 it acc { cenv with scope := relabel scope env }) (compPostF M A E use Q acc cenv.locals cenv.frame) s₄) E s₃) E s₂) E s₁) E s) :
    wpAny M A (comprehension e scope env pos newAcc false first use) Q E s := by
  unfold comprehension
  rw [hclos, hcl]
  refine wpAny_bind (wpAny_mono h (fun x s₁ h₁ => wpAny_bind (wpAny_standAt (wpAny_bind (wpAny_of_eq (hs x) (wpAny_bind (wpAny_holding (wpAny_mono h₁ (fun it s₂ h₂ =>
    wpAny_standIf (wpAny_bind (wpAny_mono h₂ (fun acc s₃ h₃ => wpAny_bind (wpAny_pure (wpAny_bind (wpAny_mono h₃ (fun cenv s₄ h₄ => ?_) fun _ _ h' => h')))) fun _ _ h' => h')))
      fun _ _ h' => h'))))))) fun _ _ h' => h')
  dsimp only
  have hv : ∀ x ∈ (scope.names.filter fun x => (x.2 == .local || x.2 == .cell) && x.1 != (".0" : Str)).reverse, x.2 = .local →
      Env.kindOf { cenv with scope := relabel scope env } x.1 = some .local := fun x hx hl => lookup_relabel_local (hnames x (List.mem_filter.mp (List.mem_reverse.mp hx)).1 hl)
  have hv' : ∀ x ∈ (scope.names.filter fun x => (x.2 == .local || x.2 == .cell) && x.1 != (".0" : Str)).reverse.drop 1 ++ (scope.names.filter fun x => (x.2 == .local || x.2 == .cell) && x.1 != (".0" : Str)).reverse.take 1,
      x.2 = .local → Env.kindOf { cenv with scope := relabel scope env } x.1 = some .local := fun x hx hl => by
    rcases List.mem_append.mp hx with h1 | h1
    · exact hv x (List.mem_of_mem_drop h1) hl
    · exact hv x (List.mem_of_mem_take h1) hl
  refine wpAny_holding (wpAny_bind (wpAny_attempt (wpAny_holding (wpAny_run (codeAny_mono h₄ fun r s' hr => ?_)))))
  cases r with
  | ok f =>
    have hr : compPost M A E use Q acc cenv.locals (.ok .next) s' := hr
    cases use with
    | none =>
      obtain ⟨m, hn, hr⟩ := hr
      exact wpAny_bind (wpAny_holding (wpAny_comp_letGo (cenv := { cenv with scope := relabel scope env }) hkind _ s' m hv hn fun h' m' _ hs' => wpAny_pure (hr h' hs')))
    | some u =>
      refine wpAny_bind (wpAny_rule (wpAny_bind (wpAny_holding (wpAny_mono hr (fun _ s'' hr' => ?_) fun _ _ h' => h'))))
      obtain ⟨m, hn, hr'⟩ := hr'
      exact wpAny_bind (wpAny_comp_letGo (cenv := { cenv with scope := relabel scope env }) hkind _ s'' m hv' hn fun h' m' _ hs' => wpAny_pure (hr' h' hs'))
  | error x =>
    obtain ⟨m, hn, hr⟩ := hr
    exact wpAny_bind (wpAny_holding (wpAny_comp_letGo (cenv := { cenv with scope := relabel scope env }) hkind _ s' m hv hn fun h' m' _ hs' => wpAny_mono (hr h' hs' { cenv with scope := relabel scope env } rfl rfl) (fun _ _ f => f.elim) fun _ _ y => y))
theorem noteFrame_eq {u : Value} {e1 e2 : Env} (h : e1.frame = e2.frame) : noteFrame u e1 = noteFrame u e2 := by
  unfold noteFrame PySem.frameOf
  rw [h]
end
/-- a call within the block let an error out -/
def XB (X : Cx) (E : XK) (s0 : Shared) (H0 : Hp) (scope : Scope) (ce : Env) (fp : List Addr) : Value → Shared → Prop := fun u s' => ∃ pins σ H s, Inv (X.blk s0 H0 scope ce fp) pins σ H s ∧ L2.CX X.prog X.w X.stack H s E u s'
abbrev Cx.blkR (X : Cx) (E : XK) (s : Shared) (H : Hp) (scope : Scope) (ce : Env) (fp : List Addr) : Cx := (X.blk s H scope ce fp).wish (XB X E s H scope ce fp)
section
variable {X : Cx} {E : XK}
theorem passB {s0 : Shared} {H0 : Hp} {scope : Scope} {ce : Env} {fp : List Addr} : Passes (L2.CX X.prog X.w) (Cx.blkR X E s0 H0 scope ce fp) E := fun pins σ H s e s' I c => ⟨pins, σ, H, s, I.unwish, c⟩
theorem hide1 {h : Heap} {c b : Addr} {o : Obj} (e : h.get? b = some o) (n : b ≠ c) : (PySem.W.hideAll h [c]).get? b = some o := PySem.W.hideAll_get _ e (by simpa using n)
theorem hide1_ne {h : Heap} {c b : Addr} {o : Obj} (e : (PySem.W.hideAll h [c]).get? b = some o) : b ≠ c := fun z => by
  subst z
  rw [PySem.W.hideAll_none _ (by simp)] at e; cases e
theorem HOk.hide {P : Program} {w : World} {H : Hp} {h : Heap} {c : Addr} (ok : HOk P w H h) (n : H c = none) : HOk P w H (PySem.W.hideAll h [c]) := fun b o q =>
  (ok b o q).stay (fun d u hd r => hide1 r fun z => by
    subst z
    rcases hd with hd | hd
    · rw [hd, q] at n; cases n
    · rw [n] at hd; cases hd) (fun _ r => r) fun _ _ r => r
/-- as XE.of_call, with the state without the exception told -/
theorem of_callB {pins : List (Addr × Obj)} {σ : St} {H H' : Hp} {s s' : Shared} {a : Addr} {B : Heap} {cls : Value} {d : Option Addr} (I : Inv X pins σ H s) (fl : HandSPX.FlyingZ B X.stack a (Zc cls d) s'.heap) (hok : HOk X.prog X.w H' B) (ub : UB (frs X.stack) H H' s.heap B s'.heap) (ag : AllBare s'.gens) :
    ∃ sI : Shared, Inv X pins σ H' sI ∧ (∀ b o, sI.heap.get? b = some o → b ∉ frs X.stack → B.get? b = some o) ∧ (∀ b o, sI.heap.get? b = some o → s'.heap.get? b = some o ∧ ((B.get? b).isSome = true ∨ b ∈ frs X.stack)) ∧ sI.os = s.os := by
  obtain ⟨G, g1, g2⟩ := restrict s'.heap fun b => (B.get? b).isSome || decide (b ∈ frs X.stack)
  have st : B.StaysIn s'.heap := fl.1
  have gB : ∀ b o, B.get? b = some o → G.get? b = some o := fun b o e => by
    rw [g1 b (by simp [e])]
    exact st b o e
  have gF : ∀ b, b ∈ frs X.stack → G.get? b = s'.heap.get? b := fun b hb => g1 b (by simp [hb])
  have og : ∀ b o, G.get? b = some o → s'.heap.get? b = some o ∧ ((B.get? b).isSome = true ∨ b ∈ frs X.stack) := fun b o e => by
    cases q : ((B.get? b).isSome || decide (b ∈ frs X.stack)) with
    | false => rw [g2 b q] at e; cases e
    | true =>
      rw [g1 b q] at e
      exact ⟨e, by simpa [Bool.or_eq_true] using q⟩
  refine ⟨{ s with heap := G, gens := s'.gens, drawn := s'.drawn, toks := s'.toks }, ?_, fun b o e hb => ?_, og, rfl⟩
  · refine I.call (ch := []) ⟨fun b o e n hb _ => gB b o (ub.keep b o e n hb), fun b o e n hb _ => ?_, fun b o e n _ => ub.free b o e n, fun b o e _ => ?_, ub.tups, ub.frzs, ub.tbls⟩ (hok.kept gB) ag (fun _ z => nomatch z)
    · obtain ⟨sl, q⟩ := ub.slot b o e hb
      exact ⟨sl, by rw [gF b hb]; exact q⟩
    · by_cases hb : b ∈ frs X.stack
      · obtain ⟨sl, q⟩ := ub.slot b o e hb
        exact ⟨_, by rw [gF b hb]; exact q⟩
      · obtain ⟨o', q⟩ := ub.there b o e hb
        exact ⟨o', gB b o' q⟩
  · obtain ⟨e', h⟩ := og b o e
    rcases h with h | h
    · obtain ⟨o', q⟩ := Option.isSome_iff_exists.mp h
      have z := st b o' q
      rw [e'] at z; cases z
      exact q
    · exact absurd h hb
/-- frames stand, all but C kept -/
theorem frames_keep {B B' h1 h2 : Heap} {C : Addr} (k : ∀ b o, b ≠ C → h1.get? b = some o → h2.get? b = some o) (no : ∀ b, B.get? b = none → B'.get? b = none) : ∀ {l : List Env}, C ∉ frs l → h1.FunFrames B l → h2.FunFrames B' l
  | [], _, _ => trivial
  | env :: l, hC, h => by
    obtain ⟨hk, ⟨L, o, hf, hn, ho, hd⟩, hr⟩ := h
    have e : frs (env :: l) = L :: frs l := by
      show (env :: l).filterMap (·.frame) = _
      rw [List.filterMap_cons, hf]; rfl
    rw [e] at hC
    simp only [List.mem_cons, not_or] at hC
    exact ⟨hk, ⟨L, o, hf, no L hn, k L o (fun z => hC.1 z.symm) ho, hd⟩, frames_keep k no hC.2 hr⟩
/-- an error leaves the block -/
theorem blk_out {pins0 : List (Addr × Obj)} {σ0 : St} {HB : Hp} {sB s5 : Shared} {scope : Scope} {ce : Env} {fp : List Addr} {use : Option (Value → Sem Unit)} {Qf : Value → Shared → Prop} {acc u : Value} {C : Addr}
    (tk : Takes X (fun cls d _ H => E cls d H)) (hst : X.stack = X.env :: X.outer) (hfr : X.env.frame = some X.env.locals) (IB : Inv X pins0 σ0 HB sB) (fpB : ∀ b ∈ fp, FpOk X pins0 HB b) (cL : ce.locals = C) (cC : C = sB.heap.objs.size) (cF : ce.frame = X.env.frame)
    (xb : XB X E sB HB scope ce fp u s5) : notedBy (model X.prog X.w) X.A ce (fun e s' => compPostF (model X.prog X.w) X.A X.xe use Qf acc C X.env.frame (.error e) s') u s5 := by
  obtain ⟨pins, σ, H, s, Ib, a, Bg, H', cls, d, rfl, fl, hok, ub, na, os, ag, hE⟩ := xb
  have nC : H C = none := cL ▸ Ib.free
  obtain ⟨m, hn, _⟩ := Ib.loc
  have hn : s.heap.Ns C m := cL ▸ hn
  obtain ⟨oC, es, ep, hoC, hdC, hkC⟩ := hn
  have ff := IB.fpOk (Nat.le_of_eq cC.symm) nC
  have nfr : C ∉ frs X.stack := fun z => (List.mem_cons.mp (IB.stkSub C z)).elim ff.2.1 ff.2.2.1
  have bC : Bg.get? C = some oC := ub.keep C oC hoC nC nfr
  have nC' : H' C = none := ub.free C oC hoC nC
  have c5 : s5.heap.get? C = some oC := fl.1 C oC bC
  have hfs : X.A.frames = some (X.env :: X.outer) := by rw [IB.ok.frames, hst]
  -- the def's state at the call, the block's names put away
  have unh : Un (frs X.stack) fp HB H sB.heap (PySem.W.hideAll s.heap [C]) := by
    have ne : ∀ b o, sB.heap.get? b = some o → b ≠ C := fun b o e => by rw [cC]; exact Nat.ne_of_lt (Heap.lt_size e)
    refine ⟨fun b o e n hb hx => hide1 (Ib.base.keep b o e n hb hx) (ne b o e), fun b o e n hb hx => ?_, Ib.base.free, fun b o e hx => ?_, Ib.base.tups, Ib.base.frzs, Ib.base.tbls⟩
    · obtain ⟨sl, q⟩ := Ib.base.slot b o e n hb hx
      exact ⟨sl, hide1 q (ne b o e)⟩
    · obtain ⟨o', q⟩ := Ib.base.there b o e hx
      exact ⟨o', hide1 q (ne b o e)⟩
  have IX : Inv X pins0 σ0 H { s with heap := PySem.W.hideAll s.heap [C] } := IB.call' (ch := fp) Ib.os unh (HOk.hide Ib.hok nC) Ib.bare fun b hb => ⟨(fpB b hb).2.2.2.1, (fpB b hb).2.1, (fpB b hb).2.2.2.2.1, (fpB b hb).2.2.2.2.2⟩
  have stB : (PySem.W.hideAll Bg [C]).StaysIn Bg := fun b o e => PySem.W.of_hideAll _ e
  have fl' : HandSPX.FlyingZ (PySem.W.hideAll Bg [C]) X.stack a (Zc cls d) s5.heap := by
    obtain ⟨k1, k2, k3, oe, vs, T, oT, ts, he, hz, hd, h1, hnT, hr⟩ := fl
    have no : ∀ b, Bg.get? b = none → (PySem.W.hideAll Bg [C]).get? b = none := fun b hb => by
      cases q : (PySem.W.hideAll Bg [C]).get? b with
      | none => rfl
      | some o => have z := PySem.W.of_hideAll _ q; rw [hb] at z; cases z
    exact ⟨fun b o e => k1 b o (stB b o e), no _ k2, funFrames_none k3 fun b hb => no b (by
      obtain ⟨hq, _⟩ := k3.mem hb
      exact hq), oe, vs, T, oT, ts, he, hz, hd, h1, no _ hnT, hr⟩
  have ub' : UB (frs X.stack) H H' (PySem.W.hideAll s.heap [C]) (PySem.W.hideAll Bg [C]) s5.heap := by
    refine ⟨fun b o e n hb => hide1 (ub.keep b o (PySem.W.of_hideAll _ e) n hb) (hide1_ne e), fun b o e hb => ub.slot b o (PySem.W.of_hideAll _ e) hb, fun b o e n => ub.free b o (PySem.W.of_hideAll _ e) n, fun b o e hb => ?_, ub.tups, ub.frzs, ub.tbls⟩
    obtain ⟨o', q⟩ := ub.there b o (PySem.W.of_hideAll _ e) hb
    exact ⟨o', hide1 q (hide1_ne e)⟩
  obtain ⟨sI, II, nb, og, osI⟩ := of_callB IX fl' (HOk.hide hok nC') ub' ag
  have sIC : ∀ b o, sI.heap.get? b = some o → b ≠ C := fun b o e z => by
    subst z
    rcases (og b o e).2 with z | z
    · rw [PySem.W.hideAll_none _ (by simp)] at z; cases z
    · exact nfr z
  show wpAny (model X.prog X.w) X.A (noteFrame (.ref a) ce) _ _ s5
  rw [noteFrame_eq (e2 := X.env) cF]
  refine HandSPX.looks_onZ Zc.steady hfs hfr (hst ▸ fl) fun h1 held up1 => ?_
  obtain ⟨sl, c1⟩ := up1 C oC c5 fun vs q => by rw [hdC] at q; cases q
  refine ⟨m, ⟨_, es, ep, c1, hdC, hkC⟩, fun h2 sb ce' e1 e2 => ?_⟩
  -- the block's names are gone: all else stands
  have keep2 : ∀ b o, b ≠ C → h1.get? b = some o → h2.get? b = some o := fun b o n e => (sb.2 b n).trans e
  have held2 : HandSPX.HeldZ (PySem.W.hideAll Bg [C]) (X.env :: X.outer) a (Zc cls d) X.env.locals h2 := by
    obtain ⟨k1, k2, k3, oe, vs, T, oT, ts, he, hz, hd, hh1, hnT, hTe, hT, hr⟩ := held
    have no : ∀ b, Bg.get? b = none → (PySem.W.hideAll Bg [C]).get? b = none := fun b hb => by
      cases q : (PySem.W.hideAll Bg [C]).get? b with
      | none => rfl
      | some o => have z := PySem.W.of_hideAll _ q; rw [hb] at z; cases z
    have naC : a ≠ C := fun z => by rw [z, bC] at k2; cases k2
    have nTC : T ≠ C := fun z => by rw [z, bC] at hnT; cases hnT
    refine ⟨fun b o e => keep2 b o (hide1_ne e) (k1 b o (stB b o e)), no _ k2, ?_, oe, vs, T, oT, ts, keep2 _ _ naC he, hz, hd, hh1, no _ hnT, hTe, keep2 _ _ nTC hT, hr⟩
    exact frames_keep (B := Bg) (C := C) (h1 := h1) keep2 no (l := X.env :: X.outer) (by rw [← hst]; exact nfr) k3
  obtain ⟨k1, k2, k3, oe, vs, T, oT, ts, he, hz, hd, hh1, hrest⟩ := id held2
  unfold PySem.passOn
  refine wpAny_bind (wpAny_field he hd hh1 ?_)
  rw [if_neg (show ¬ ((Value.ref T == Value.none) = true) from by simp)]
  have fin : wpAny (model X.prog X.w) X.A (setFlight (.ref a) ce'.frame) (fun _ s4 => wpAny (model X.prog X.w) X.A (throw (.ref a) : Sem Value) (fun _ _ => False) X.xe s4) X.xe { s5 with heap := h2 } := by
    rw [e2, hfr]
    refine HandSPX.setFlight_onZ held2 fun h3 held3 up3 => wpAny_throw (tk _ _ ?_)
    refine ⟨a, PySem.W.hideAll Bg [C], sI, pins0, σ0, H', cls, d, rfl, II, nb, fun b o e nf => ?_, .inr (.inr (by rw [hst]; exact held3)), na, os.trans osI.symm, ag, hE⟩
    obtain ⟨sl1, q1⟩ := up1 b o (og b o e).1 nf
    have q2 := keep2 b _ (sIC b o e) q1
    obtain ⟨sl3, q3⟩ := up3 b _ q2 nf
    exact ⟨sl3, q3⟩
  first
    | exact wpAny_bind (wpAny_pure (wpAny_bind fin))
    | exact wpAny_bind fin
/-- the block's parts, told of their own contexts -/
def BlkR (X : Cx) (E : XK) (scope : Scope) (tg elt : Expr) (ifs : List Expr) (g : TG) (tt : TT) (te : TE) : Prop := ∀ (s : Shared) (H : Hp) (C : Addr) (cl : List (Str × Addr)) (fp : List Addr),
  PG (Cx.blkR X E s H scope (compEnvC scope cl C X.env) fp) tg g ∧ PTs (Cx.blkR X E s H scope (compEnvC scope cl C X.env) fp) ifs tt ∧ PE (Cx.blkR X E s H scope (compEnvC scope cl C X.env) fp) elt te
theorem lc_coreR {pins : List (Addr × Obj)} {s : Shared} {σ : St} {H : Hp} {Q : VK} {elt tg iter : Expr} {ifs : List Expr} {scope : Scope} {own : List (Str × Nat)} {pos pos' : Pos} {wi : TI} {g : TG} {tt : TT} {te : TE} {use : Option (Value → Sem Unit)} {Qf : Value → Shared → Prop}
    (tk : Takes X (fun cls d _ H => E cls d H)) (hst : X.stack = X.env :: X.outer) (hfr : X.env.frame = some X.env.locals)
    (hc : X.calm = true) (hN : X.N.Nodup) (I0 : Inv X pins σ H s) (hi : PI X tg iter wi) (ok : BlkOk X.N X.env.scope scope own)
    (hb : BlkR X E scope tg elt ifs g tt te) (hs : ∀ x, foldedSetIterable iter X.env x = pure x)
    (ask : tLc wi g tt te (own.map (·.2)) σ H Q)
    (hRR : ∀ D C s' m H', Inv X pins σ H' s' → Q (.ref D) H' → s'.heap.Ns C m → FpOk X pins H' C → compPost (model X.prog X.w) X.A X.xe use Qf (.ref D) C (.ok .next) s') :
    wpAny (model X.prog X.w) X.A (comprehension (.ListComp elt [⟨tg, iter, ifs, 0⟩] scope pos) scope X.env pos' (newList []) false (eval iter X.env) use) Qf X.xe s := by
  have cap : ∀ y ∈ scope.names, y.2 = .free → ∃ c, X.env.cells.lookup y.1 = some c := fun y hy z => (ok.free y hy z).elim (fun k => I0.ok.has _ (.inl k)) fun k => I0.ok.has _ (.inr k)
  refine comprehension_freeF (use := use) rfl hs (closure_ok cap) ok.kind (fun y hy z => by rw [ok.uniq y hy, z]) (thn (hi.run pins s σ H _ I0 ask) fun _ _ q => thn q fun _ sA ⟨it, fp, tn, J, HA, eit, IA, turn, stA, fpA, ask1⟩ => ?_)
  subst eit
  refine wpAny_newObj_type (newEnv_comp ?_) (by show 0 ≤ sizeLine; decide)
  generalize dD : sA.heap.objs.size = D
  have freshD : HA D = none := IA.hok.fresh (Nat.le_of_eq dD)
  obtain ⟨W, ⟨n0, start0⟩, each⟩ := ask1 D freshD
  generalize dB : ({ sA with heap := sA.heap.push { cls := .type "list", data := .seq ([] : List Value).toArray } } : Shared) = sB
  have heB : sB.heap = sA.heap.push { cls := .type "list", data := .seq ([] : List Value).toArray } := by rw [← dB]
  have IB : Inv X pins σ (upd HA D (.lst [])) sB := by
    rw [← dB]
    exact IA.laid (t' := sA.toks) (fun b o z => Heap.get?_push_of_some _ z) (Nat.le_of_eq dD) ⟨Nat.zero_le _, [], 0, .nil, by rw [← dD]; exact Heap.get?_push_size _ rfl⟩
  have old : ∀ b ∈ fp, b < sA.heap.objs.size := fun b hb => let ⟨_, z, _⟩ := turn.obj _ _ stA b hb; Heap.lt_size z
  generalize dH : upd HA D (.lst []) = HB at IB start0
  have nB : ∀ b ∈ fp, HB b = none := fun b hb => by rw [← dH, upd_ne (by rw [← dD]; exact Nat.ne_of_lt (old b hb))]; exact (fpA b hb).1
  have fpB : ∀ b ∈ fp, FpOk X pins HB b ∧ b < sB.heap.objs.size := fun b hb => ⟨⟨nB b hb, (fpA b hb).2⟩, by rw [heB, Heap.size_push]; exact Nat.lt_succ_of_lt (old b hb)⟩
  have stB : tn 0 sB.heap := turn.keep _ _ _ stA fun b _ o z => by rw [heB]; exact Heap.get?_push_of_some _ z
  obtain ⟨pg, pt, pe⟩ := hb sB HB sB.heap.objs.size (cellsFrom (sB.heap.objs.size + 1) scope.names (cloFrom X.env.cells scope.names [])) fp
  have IC := block_start IB ok hN fpB
  show codeAny _ _ (.compStart (.ListComp elt [⟨tg, iter, ifs, 0⟩] scope pos) 0 (.ref it) (.ref D) (compEnvC scope (cellsFrom (sB.heap.objs.size + 1) scope.names (cloFrom X.env.cells scope.names [])) sB.heap.objs.size X.env)) (compPostF (model X.prog X.w) X.A X.xe use Qf (.ref D) sB.heap.objs.size X.env.frame) _
  generalize dE : compEnvC scope (cellsFrom (sB.heap.objs.size + 1) scope.names (cloFrom X.env.cells scope.names [])) sB.heap.objs.size X.env = ce at IC pg pt pe ⊢
  have ceL : ce.locals = sB.heap.objs.size := by rw [← dE]; rfl
  have ceF : ce.frame = X.env.frame := by rw [← dE]; rfl
  generalize dC : ({ sB with heap := pushCells (sB.heap.push { cls := .type "dict", data := .dict #[] }) scope.names } : Shared) = sC at IC ⊢
  have stC : tn 0 sC.heap := turn.keep _ _ _ stB fun b _ o z => by rw [← dC]; exact pushCells_keeps _ _ _ _ (Heap.get?_push_of_some _ z)
  have fpAt : ∀ {σ' : St} {H' : Hp} {s' : Shared}, Inv (X.blk sB HB scope ce fp) [] σ' H' s' → (∀ b ∈ fp, H' b = none) → ∀ b ∈ fp, FpOk (X.blk sB HB scope ce fp) [] H' b := fun {σ' H' s'} I' hn b hb =>
    ⟨hn b hb, (I'.ok.exf b hb).1, I'.ok.exfs b hb, .inl hb, fun y c z => (I'.ok.exf b hb).2 y c z, fun q hq => absurd (show q ∈ ([] : List (Addr × Obj)) ++ [] from hq) (by simp)⟩
  have sim : ∀ {α : Type} {m : Sem α} {Qa Qb : α → Shared → Prop} {Ex : Value → Shared → Prop} {s' : Shared}, wpAny (model X.prog X.w) X.A m Qa (fun _ _ => False) s' → (∀ v z, Qa v z → Qb v z) → wpAny (model X.prog X.w) X.A m Qb Ex s' := fun h1 h2 => wpAny_mono h1 h2 fun _ _ z => False.elim z
  have outB : ∀ u s', XB X E sB HB scope ce fp u s' → notedBy (model X.prog X.w) X.A ce (fun e s' => compPostF (model X.prog X.w) X.A X.xe use Qf (.ref D) sB.heap.objs.size X.env.frame (.error e) s') u s' := fun u s' xb =>
    blk_out tk hst hfr IB (fun b hb => (fpB b hb).1) ceL rfl ceF xb
  have simR : ∀ {α : Type} {m : Sem α} {Qa Qb : α → Shared → Prop} {s' : Shared}, wpAny (model X.prog X.w) X.A m Qa (XB X E sB HB scope ce fp) s' → (∀ v z, Qa v z → Qb v z) → wpAny (model X.prog X.w) X.A m Qb (notedBy (model X.prog X.w) X.A ce fun e s' => compPostF (model X.prog X.w) X.A X.xe use Qf (.ref D) sB.heap.objs.size X.env.frame (.error e) s') s' := fun h1 h2 => wpAny_mono h1 h2 outB
  let Sta : Nat → Nat → Shared → Prop := fun i n s' => ∃ H', Inv (X.blk sB HB scope ce fp) [] (wipe σ (own.map (·.2))) H' s' ∧ tn i s'.heap ∧ (∀ b ∈ fp, H' b = none) ∧ W i n H'
  have run : codeAny (model X.prog X.w) X.A (.compLoop (.ListComp elt [⟨tg, iter, ifs, 0⟩] scope pos) 0 (.ref it) (.ref D) ce) (compPostF (model X.prog X.w) X.A X.xe use Qf (.ref D) sB.heap.objs.size X.env.frame) sC := by
    refine compLoop_any (fun n s' => ∃ i, Sta i n s') ?_ n0 ⟨0, HB, IC, stC, nB, start0⟩
    rintro n s5 ⟨i, H5, I5, st5, n5, w5⟩
    rcases each i n H5 w5 with ⟨ends, fin⟩ | ⟨goes, Nx, less, body⟩
    · refine sim (turn.done (X.blk sB HB scope ce fp) rfl rfl rfl hc i [] s5 _ H5 (fun _ _ => False) I5 (fpAt I5 n5) st5 ends) fun r s6 ⟨hr, I6⟩ => ?_
      subst hr
      have I7 : Inv X pins σ H5 s6 := IB.call' (ch := fp) I6.os I6.base I6.hok I6.bare fun b hb => ⟨(fpB b hb).1.2.2.2.1, (fpB b hb).1.2.1, (fpB b hb).1.2.2.2.2.1, (fpB b hb).1.2.2.2.2.2⟩
      obtain ⟨mm, nsm, _⟩ := I6.loc
      have nsm : s6.heap.Ns ce.locals mm := nsm
      have nL : H5 ce.locals = none := I6.free
      rw [ceL] at nsm nL
      exact hRR D sB.heap.objs.size s6 mm H5 I7 fin nsm (IB.fpOk (Nat.le_refl _) nL)
    · refine sim (turn.item (X.blk sB HB scope ce fp) rfl rfl rfl hc i [] s5 _ H5 (fun _ _ => False) I5 (fpAt I5 n5) st5 goes) fun r s6 ⟨u, hr, h6⟩ => ?_
      subst hr
      refine sim h6 fun _ s7 ⟨v, H7, I7, r7, y7, st7, n7⟩ => ?_
      refine simR (pg.run _ s7 _ H7 v u _ ((I7.pinned (fpAt I7 n7) (turn.obj _ _ st7)).wish _) r7 (body v H7 y7)) fun _ s8 ⟨σ8, H8, I8, same8, q8⟩ => ?_
      refine simR (pt.run _ s8 σ8 H8 _ I8 q8) fun b s9 ⟨H9, I9, q9⟩ => ?_
      have again : ∀ {s' : Shared} {H' : Hp}, Inv (X.blk sB HB scope ce fp) ([] ++ pinsAt fp s7.heap) σ8 H' s' → Nx H' → ∃ m, m < n ∧ ∃ i, Sta i m s' := fun {s' H'} I' nx => by
        obtain ⟨m', lt, w'⟩ := less H' nx
        have pinned : ∀ b ∈ fp, ∀ o, s7.heap.get? b = some o → s'.heap.get? b = some o ∧ H' b = none := fun b hb o z =>
          let q := I'.pin (b, o) (List.mem_append_right _ (List.mem_append_right _ (mem_pinsAt hb z)))
          ⟨q.1, q.2.1⟩
        refine ⟨m', lt, i + 1, H', (I'.unpinned (pins := [])).weak (by rw [← same8, wipe_length]) (fun j z q => ?_), turn.keep _ _ _ st7 fun b hb o z => (pinned b hb o z).1, fun b hb => ?_, w'⟩
        · rw [← same8] at q
          exact (wipe_some q).1
        · obtain ⟨o, z, _⟩ := turn.obj _ _ st7 b hb
          exact (pinned b hb o z).2
      match b, q9 with
      | false, q9 => exact again I9.unwish q9
      | true, q9 => exact simR (pe.run _ s9 σ8 H9 _ I9 q9) fun z s10 ⟨yv, H10, I10, r10, acc, eD, lt, nx⟩ => L2.app_ok (X := X.blk sB HB scope ce fp) I10.unwish eD lt r10 fun s11 I11 => again I11 nx
  exact codeAny_compStart_list run (turn.self X.A 0 _ _ _ stC run)
/-- [..] that an error may leave from within -/
theorem pe_lcR {elt tg iter : Expr} {ifs : List Expr} {scope : Scope} {own : List (Str × Nat)} {pos : Pos} {wi : TI} {g : TG} {tt : TT} {te : TE} (tk : Takes X (fun cls d _ H => E cls d H)) (hst : X.stack = X.env :: X.outer) (hfr : X.env.frame = some X.env.locals)
    (hc : X.calm = true) (hN : X.N.Nodup) (hi : PI X tg iter wi) (ok : BlkOk X.N X.env.scope scope own) (hb : BlkR X E scope tg elt ifs g tt te) (hs : ∀ x, foldedSetIterable iter X.env x = pure x := by intro _; rfl) :
    PE X (.ListComp elt [⟨tg, iter, ifs, 0⟩] scope pos) (tLc wi g tt te (own.map (·.2))) := by
  refine ⟨fun pins s σ H Q I h => ?_⟩
  rw [eval_ListComp]
  refine lc_coreR tk hst hfr hc hN I hi ok hb hs h fun D C s' m H' I' q hn f => ⟨m, hn, fun h'' sb => ?_⟩
  obtain ⟨f0, f1, f2, f3, f4, f5⟩ := f
  exact ⟨.ref D, H', I'.turned (t' := s'.toks) (fun b o hb e => (sb.2 b hb).trans e) f0 f1 f3 f4 f5, rfl, q⟩
theorem ps_setLcR {i : Nat} {y : Str} {py : Pos} {elt tg iter : Expr} {ifs : List Expr} {scope : Scope} {own : List (Str × Nat)} {pos spos : Pos} {wi : TI} {g : TG} {tt : TT} {te : TE} (tk : Takes X (fun cls d _ H => E cls d H)) (hst : X.stack = X.env :: X.outer) (hfr : X.env.frame = some X.env.locals)
    (hc : X.calm = true) (hN : X.N.Nodup) (hy : X.N[i]? = some y) (hyl : X.env.scope.names.lookup y = some .local)
    (hsw : swapsWith (.ListComp elt [⟨tg, iter, ifs, 0⟩] scope pos) (some (.Name y py)) spos.line X.env = pure true) (hi : PI X tg iter wi) (ok : BlkOk X.N X.env.scope scope own)
    (hb : BlkR X E scope tg elt ifs g tt te) (hs : ∀ x, foldedSetIterable iter X.env x = pure x := by intro _; rfl) :
    PS X (.Assign [.Name y py] (.ListComp elt [⟨tg, iter, ifs, 0⟩] scope pos) spos) (tAsg (tLc wi g tt te (own.map (·.2))) (gName i)) := by
  refine ⟨fun pins s σ H D I h => ?_⟩
  rw [exec_Assign_Name_used _ _ _ _ hsw]
  refine wpAny_bind (wpAny_standAt (wpAny_bind ?_))
  show wpAny _ X.A (do let _ ← comprehension (.ListComp elt [⟨tg, iter, ifs, 0⟩] scope pos) scope X.env (firstIterPos [⟨tg, iter, ifs, 0⟩] pos) (newList []) false (eval iter X.env) (some (assign (.Name y py) X.env))) _ _ s
  have h : tLc wi g tt te (own.map (·.2)) σ H (fun x H1 => gName i x σ H1 D.nx) := h
  refine wpAny_bind (thn (lc_coreR (Qf := fun _ s' => SP X pins D .next s') tk hst hfr hc hN I hi ok hb hs h fun L C s' m H' I' q hn f => ?_) fun _ s' hq => wpAny_pure (wpAny_pure hq))
  show wpAny _ _ (assign (.Name y py) X.env (.ref L)) _ _ _
  refine wpAny_assign_Name (store_ok2 (v := V.ref L) I' hN hy (.inl hyl) rfl (fun s2 I2 ⟨a, sb, ha⟩ => ?_) (.inr hyl))
  obtain ⟨f0, f1, f2, f3, f4, f5⟩ := f
  have haC : C ≠ a := by
    rcases ha with z | z
    · rw [z]; exact f1
    · exact fun e => f4 y a z e.symm
  refine ⟨m, hn.sameBut sb haC, fun h3 sb3 => ?_⟩
  exact ⟨_, H', I2.turned (t' := s2.toks) (fun b o hb e => (sb3.2 b hb).trans e) f0 f1 f3 f4 f5, q⟩
end
end L2.Px
set_option Elab.async false
set_option linter.all false
set_option maxRecDepth 100000
set_option maxHeartbeats 1000000
namespace L2.Px
open PySem PySem.Spec PyProof.Rows StX TL ClX LamX
section
variable {K : PySem.W.Frag} {CT CP : Addr} {H H' H1 : Hp} {Q : VK} {E : XK} {a b r p q : Addr} {ss tt : List Stp} {i j : Int} {v : V} {o : HO} {xs : List V} {L : List Nat} {T : List (Addr × Str)}
theorem Kl.at_ (e : Kl T H H') (n : ¬ isRow o) (m : ∀ ps, o ≠ .tbl ps) (h : H a = some o) : H' a = some o := e.keep a o n m h
theorem StepAt.kl {s : Stp} (h : StepAt K H v s) (e : Kl T H H') : StepAt K H' v s := let ⟨a, ev, q⟩ := h; ⟨a, ev, e.tup q⟩
theorem StepsAt.kl {ms : List V} (h : StepsAt K H ms ss) (e : Kl T H H') : StepsAt K H' ms ss := ⟨h.1, fun j s q => let ⟨v, a, b⟩ := h.2 j s q; ⟨v, a, b.kl e⟩⟩
theorem PartAt.kl {n y : Nat} {s : Stp} (h : PartAt CP H v n y s) (e : Kl T H H') : PartAt CP H' v n y s := by
  cases s with
  | wr w => obtain ⟨p, dx, ev, q⟩ := h; exact ⟨p, dx, ev, e.keep _ _ nr_ins (fun _ z => nomatch z) q⟩
  | pa f l t => obtain ⟨p, dx, ev, q⟩ := h; exact ⟨p, dx, ev, e.keep _ _ nr_ins (fun _ z => nomatch z) q⟩
theorem PartsAt.kl {ps : List V} (h : PartsAt CP H ps ss) (e : Kl T H H') : PartsAt CP H' ps ss := ⟨h.1, fun j s q => let ⟨v, a, b⟩ := h.2 j s q; ⟨v, a, b.kl e⟩⟩
theorem TextAt.kl {t : TxI} (h : TextAt K CT CP H a t) (e : Kl T H H') : TextAt K CT CP H' a t :=
  ⟨e.keep _ _ nr_ins (fun _ z => nomatch z) h.ins, e.tup h.made, h.stp.kl e, e.keep _ _ (nr_refs h.prt.refs) (fun _ z => nomatch z) h.pls, h.prt.kl e, h.ok, h.few⟩
theorem TX.kl (h : TX K CT CP H a ss) (e : Kl T H H') : TX K CT CP H' a ss := let ⟨t, x, y⟩ := h; ⟨t, x.kl e, y⟩
theorem TS'.kl (h : TS' K H a ss) (e : Kl T H H') : TS' K H' a ss := let ⟨ms, x, y⟩ := h; ⟨ms, e.tup x, y.kl e⟩
theorem SX.kl (h : SX K H a ss) (e : Kl T H H') : SX K H' a ss := let ⟨ms, x, y⟩ := h; ⟨ms, x.imp (e.tup ·) (e.keep _ _ (nr_refs y.refs) (fun _ z => nomatch z) ·), y.kl e⟩
variable {CIP CIK CIL CIN CTL CIS : Addr}
end
end L2.Px
set_option Elab.async false
set_option linter.all false
set_option maxRecDepth 100000
set_option maxHeartbeats 1000000
namespace L2.Px
open PySem PySem.Spec PyProof.Rows StX TL
section
variable {K : PySem.W.Frag} {H H' H1 H2 : Hp} {Q : VK} {E : XK} {r l D : Addr} {i : Int} {xs : List V}
theorem RowAt.ne (h : RowAt K H r) (hD : H D = none) : r ≠ D := fun z => by
  subst z
  obtain ⟨sa, sc, i, s, n, a, b⟩ := h.ex
  rw [hD] at a; cases a
end
end L2.Px
set_option Elab.async false
set_option linter.all false
set_option maxRecDepth 100000
set_option maxHeartbeats 1000000
namespace L2.Px
open PySem PySem.Spec PyProof.Rows StX TL ClX LamX
end L2.Px
namespace L2.Px
open PySem PySem.Spec PyProof.Rows StX TL ClX LamX
end L2.Px
namespace L2.Px
open PySem PySem.Spec PyProof.Rows StX TL ClX LamX
end L2.Px
namespace L2.Px
open PySem PySem.Spec PyProof.Rows StX TL ClX LamX
end L2.Px
set_option Elab.async false
set_option linter.all false
set_option maxRecDepth 100000
set_option maxHeartbeats 1000000
namespace L2.Px
open PySem PySem.Spec PyProof.Rows StX TL ClX LamX
theorem slTA {X : Cx} {K : PySem.W.Frag} (hk : X.K = K) : SlR X (rSlA K) := hk ▸ sl_tupA
section
variable {K : PySem.W.Frag} {H H' : Hp} {Q : VK} {a p : Addr} {ss : List Stp} {ms xs : List V} {n : Int} {v : V}
theorem TS'.len (h : TS' K H a ss) (q : Q (.int (ss.length : Nat)) H) : rLenA K [.ref a] H Q := by
  obtain ⟨ms, h1, h2⟩ := h
  exact rd_len_tup h1 (by rw [h2.1]; exact q)
theorem sIx_le (m d k : Nat) (h : k ≤ m) : HT.sIx m d (some (k : Int)) = k := by rw [HT.sIx_nat, Nat.min_eq_left h]
/-- a list of values that are no steps for n places -/
def BadL (K : PySem.W.Frag) (H : Hp) (n : Int) (bs : List V) : Prop := ∀ b ∈ bs, StVal K H n b false
theorem BadL.mono {bs : List V} (h : BadL K H n bs) (e : Same H H') : BadL K H' n bs := fun b hb => (h b hb).mono e
end
end L2.Px
set_option Elab.async false
set_option linter.all false
set_option maxRecDepth 100000
set_option maxHeartbeats 1000000
namespace L2.Px
open PySem PySem.Spec PyProof.Rows StX ClX LamX
section
variable {K : PySem.W.Frag} {h : Heap} {mg : Str → Option Value} {x qual : Str} {st : Stmt} {ps fs : List Str} {C D CT f : Addr}
theorem defI_mk (a : PySem.W.findIn K (.ref C) "__init__" = some (some (.ref f))) (t : PySem.W.typeIn K (.ref f) = some (.type "function")) (l : AtF K "__init__" qual st f) (k : PySem.W.keepIn K (.ref f) = true) (b : BF "__init__" qual st ps) : DefI K C qual st ps := by
  obtain ⟨fd, F⟩ := l.fun k
  exact ⟨f, fd, F, a, t, F.binds b⟩
theorem oex_mk {nm q : Str} {N : Addr} {bs bm : List Value} {sn : List Str} {sub : List Value} {ab : Bool} {col : Option Bool} {dd : Option Addr} {k0 k1 k2 k3 k5 : Option Value}
    (l : K.lookup C = some (excClassObj nm q C N bs bm true sn sub ab col dd k0 k1 k2 k3 k5 "ValueError.__new__")) (r : PySem.HandSPX.refsVE bm = true) (sa : PySem.W.findIn K (.ref C) "__setattr__" = some (some (.builtin "object.__setattr__")))
    (e : PySem.W.subIn K (.ref C) (.type "BaseException") = some true) (t : PySem.W.typeIn K (.ref C) = some (.type "type")) (k : PySem.W.keepIn K (.ref C) = true) : OexC K C := ⟨⟨nm, q, N, bs, bm, sn, sub, ab, col, dd, k0, k1, k2, k3, k5, l, r⟩, sa, e, t, k⟩
theorem xf_mk (a : PySem.W.findIn K (.ref C) "__getattribute__" = some (some (.builtin "BaseException.__getattribute__"))) (b : PySem.W.findIn K (.ref C) "__getattr__" = some none) (c : PySem.W.subIn K (.ref C) (.type "BaseException") = some true) (d : PySem.W.hasDictIn K C = true) : XfC K C := ⟨a, b, c, d⟩
theorem no1 {f : Str} (a : PySem.W.findIn K (.ref C) f = some none) : ∀ g ∈ [f], PySem.W.findIn K (.ref C) g = some none := fun g hg => by
  rw [List.mem_singleton] at hg; rw [hg]; exact a
theorem no2 {f g : Str} (a : PySem.W.findIn K (.ref C) f = some none) (b : PySem.W.findIn K (.ref C) g = some none) : ∀ x ∈ [f, g], PySem.W.findIn K (.ref C) x = some none := fun x hx => by
  simp only [List.mem_cons, List.not_mem_nil, or_false] at hx
  rcases hx with rfl | rfl
  · exact a
  · exact b
end
end L2.Px
set_option Elab.async false
set_option linter.all false
set_option maxRecDepth 100000
set_option maxHeartbeats 2000000
namespace L2.Px
open PySem PySem.Spec PyProof.Rows StX ClX LamX
def toW : List Str := ["InvalidStep", "InvalidOperation", "DecodeError", "NotationError", "TooLong", "InvalidPlace", "InvalidLetter", "Contradiction", "InvalidCount"]
/-- what _law_told answers of the exception of the class cls, its dict d -/
def ToAns (K : PySem.W.Frag) (CT : Addr) (Cs : List Addr) (cls : Value) (d : Option Addr) (H : Hp) (Q : VK) : Prop := ∃ (i : Nat) (D : Addr) (w : Str), cls = .ref D ∧ RzC K CT Cs i D ∧ toW[i]? = some w ∧
  ((i < 2 ∧ RzF K D "index" ∧ ∃ (dd : Addr) (n : Int) (fs : List (Str × V)), d = some dd ∧ H dd = some (.xd fs) ∧ fs.lookup ("index" : Str) = some (.int n) ∧ ∀ p H', Same H H' → H' p = some (.tup [.str "error", .str w, .int n]) → Q (.ref p) H') ∨
    (i = 2 ∧ RzF K D "offset" ∧ ∃ (dd : Addr) (n : Int) (fs : List (Str × V)), d = some dd ∧ H dd = some (.xd fs) ∧ fs.lookup ("offset" : Str) = some (.int n) ∧ ∀ p H', Same H H' → H' p = some (.tup [.str "error", .str w, .int n]) → Q (.ref p) H') ∨
    (i = 3 ∧ RzF K D "row" ∧ RzF K D "word" ∧ ∃ (dd : Addr) (n m : V) (fs : List (Str × V)), d = some dd ∧ H dd = some (.xd fs) ∧ fs.lookup ("row" : Str) = some n ∧ fs.lookup ("word" : Str) = some m ∧ ∀ p H', Same H H' → H' p = some (.tup [.str "error", .str w, n, m]) → Q (.ref p) H') ∨
    (4 ≤ i ∧ d = none ∧ ∀ p H', Same H H' → H' p = some (.tup [.str "error", .str w]) → Q (.ref p) H'))
theorem ToAns.dict {K : PySem.W.Frag} {CT : Addr} {Cs : List Addr} {cls : Value} {d : Option Addr} {H : Hp} {Q : VK} (h : ToAns K CT Cs cls d H Q) : d = none ∨ ∃ dd fs, d = some dd ∧ H dd = some (.xd fs) := by
  obtain ⟨i, D, w, _, _, _, ⟨_, _, dd, n, fs, e, hx, _⟩ | ⟨_, _, dd, n, fs, e, hx, _⟩ | ⟨_, _, _, dd, n, m, fs, e, hx, _⟩ | ⟨_, e, _⟩⟩ := h
  · exact .inr ⟨dd, fs, e, hx⟩
  · exact .inr ⟨dd, fs, e, hx⟩
  · exact .inr ⟨dd, fs, e, hx⟩
  · exact .inl e
end L2.Px
set_option Elab.async false
set_option linter.all false
set_option maxRecDepth 100000
set_option maxHeartbeats 1000000
namespace L2.Px
open PySem PySem.Spec PyProof.Rows StX TL ClX LamX
structure Km (C : Addr) (T : List (Addr × Str)) (H H' : Hp) : Prop where
  keep : ∀ b o, ¬ isRow o → (∀ ps, o ≠ .tbl ps) → (∀ dx fs, o ≠ .ins C dx fs) → H b = some o → H' b = some o
  rows : ∀ (b sa : Addr) (i s e : Int), H b = some (.lst [.ref sa, .int i, .int s, .int e]) → ∃ i' s' e' : Int, H' b = some (.lst [.ref sa, .int i', .int s', .int e'])
  tabs : Tabs T H → Tabs T H'
section
variable {K : PySem.W.Frag} {CT CP C : Addr} {T : List (Addr × Str)} {H H' H1 : Hp} {a e l : Addr} {o : HO} {v : V} {xs ms ps : List V} {s : Stp} {ss : List Stp} {t : TxI} {L : List Nat} {n y : Nat}
theorem Km.refl : Km C T H H := ⟨fun _ _ _ _ _ h => h, fun _ _ _ _ _ h => ⟨_, _, _, h⟩, id⟩
theorem Km.trans (a : Km C T H H1) (b : Km C T H1 H') : Km C T H H' := ⟨fun c o hc hn hi h => b.keep c o hc hn hi (a.keep c o hc hn hi h), fun c sa i s e h => let ⟨i', s', e', h'⟩ := a.rows c sa i s e h; b.rows c sa i' s' e' h', fun t => b.tabs (a.tabs t)⟩
theorem Km.kl (e : Kl T H H') : Km C T H H' := ⟨fun b o hr ht _ h => e.keep b o hr ht h, e.rows, e.tabs⟩
theorem Km.same (e : Same H H') : Km C T H H' := .kl (.same e)
theorem Km.kp (e : Kp H H') : Km C T H H' := .kl (.kp e)
theorem But.ins {x : Addr} (e : But x H H') {dx : Addr} {fs : List (Str × V)} (hx : H x = some (.ins C dx fs)) (hn : ∀ dx fs, o ≠ .ins C dx fs) (h : H a = some o) : H' a = some o :=
  e a o (fun z => hn dx fs (by subst z; rw [hx] at h; exact (Option.some.inj h).symm)) h
theorem Km.but {x dx : Addr} {fs : List (Str × V)} (e : But x H H') (hx : H x = some (.ins C dx fs)) : Km C T H H' := by
  refine .mk (fun b o _ _ hi h => ?a) (fun b sa i s n h => ?b) (fun t p hp => ?_)
  · exact e.ins hx hi h
  · exact ⟨_, _, _, e.ins hx (fun _ _ z => nomatch z) h⟩
  obtain ⟨ps, h1, h2, h3⟩ := t p hp
  refine ⟨ps, e.ins hx (fun _ _ z => nomatch z) h1, h2, fun pos cv hc => ?_⟩
  obtain ⟨c, h4, h5⟩ := h3 pos cv hc
  exact ⟨c, h4, e.ins hx (fun _ _ z => nomatch z) h5⟩
theorem Km.tup (e : Km C T H H') (h : SqT K H a xs) : SqT K H' a xs := by
  rcases h with (h | ⟨o, h⟩) | h
  · exact .inl (.inl (e.keep _ _ nr_tup (fun ps z => nomatch z) (fun _ _ z => nomatch z) h))
  · exact .inl (.inr ⟨o, e.keep _ _ nr_frz (fun ps z => nomatch z) (fun _ _ z => nomatch z) h⟩)
  · exact .inr h
theorem Km.lst (e : Km C T H H') (n : ¬ isRow (.lst xs)) (h : SqL K H a xs) : SqL K H' a xs := by
  rcases h with (h | ⟨o, h⟩) | h
  · exact .inl (.inl (e.keep _ _ n (fun ps z => nomatch z) (fun _ _ z => nomatch z) h))
  · exact .inl (.inr ⟨o, e.keep _ _ nr_frz (fun ps z => nomatch z) (fun _ _ z => nomatch z) h⟩)
  · exact .inr h
theorem Km.li (e : Km C T H H') (n : ¬ isRow (.lst xs)) (h : H a = some (.lst xs)) : H' a = some (.lst xs) := e.keep _ _ n (fun _ z => nomatch z) (fun _ _ z => nomatch z) h
theorem Km.tu (e : Km C T H H') (h : H a = some (.tup xs)) : H' a = some (.tup xs) := e.keep _ _ nr_tup (fun _ z => nomatch z) (fun _ _ z => nomatch z) h
theorem StepAt.km (h : StepAt K H v s) (e : Km C T H H') : StepAt K H' v s := let ⟨a, ev, q⟩ := h; ⟨a, ev, e.tup q⟩
theorem StepsAt.km (h : StepsAt K H ms ss) (e : Km C T H H') : StepsAt K H' ms ss := ⟨h.1, fun j s q => let ⟨v, a, b⟩ := h.2 j s q; ⟨v, a, b.km e⟩⟩
theorem ins_ne {D dx : Addr} {fs : List (Str × V)} (hn : D ≠ C) : ∀ dx' fs', HO.ins D dx fs ≠ .ins C dx' fs' := fun dx' fs' z => hn (by cases z; rfl)
theorem PartAt.km (hn : CP ≠ C) (h : PartAt CP H v n y s) (e : Km C T H H') : PartAt CP H' v n y s := by
  cases s with
  | wr w => obtain ⟨p, dx, ev, q⟩ := h; exact ⟨p, dx, ev, e.keep _ _ nr_ins (fun _ z => nomatch z) (ins_ne hn) q⟩
  | pa f l t => obtain ⟨p, dx, ev, q⟩ := h; exact ⟨p, dx, ev, e.keep _ _ nr_ins (fun _ z => nomatch z) (ins_ne hn) q⟩
theorem PartsAt.km (hn : CP ≠ C) (h : PartsAt CP H ps ss) (e : Km C T H H') : PartsAt CP H' ps ss := ⟨h.1, fun j s q => let ⟨v, a, b⟩ := h.2 j s q; ⟨v, a, b.km hn e⟩⟩
theorem TextAt.km (hT : CT ≠ C) (hP : CP ≠ C) (h : TextAt K CT CP H a t) (e : Km C T H H') : TextAt K CT CP H' a t :=
  ⟨e.keep _ _ nr_ins (fun _ z => nomatch z) (ins_ne hT) h.ins, e.tup h.made, h.stp.km e, e.keep _ _ (nr_refs h.prt.refs) (fun _ z => nomatch z) (fun _ _ z => nomatch z) h.pls, h.prt.km hP e, h.ok, h.few⟩
theorem TX.km (h : TX K CT CP H a ss) (hT : CT ≠ C) (hP : CP ≠ C) (e : Km C T H H') : TX K CT CP H' a ss := let ⟨t, x, y⟩ := h; ⟨t, x.km hT hP e, y⟩
theorem TS'.km (h : TS' K H a ss) (e : Km C T H H') : TS' K H' a ss := let ⟨ms, x, y⟩ := h; ⟨ms, e.tup x, y.km e⟩
theorem SX.km (h : SX K H a ss) (e : Km C T H H') : SX K H' a ss := let ⟨ms, x, y⟩ := h; ⟨ms, x.imp (e.tup ·) (e.keep _ _ (nr_refs y.refs) (fun _ z => nomatch z) (fun _ _ z => nomatch z) ·), y.km e⟩
theorem But.seqL {x dx : Addr} {fs : List (Str × V)} (e : But x H H') (hx : H x = some (.ins C dx fs)) (h : SqL K H a xs) : SqL K H' a xs := by
  rcases h with (h | ⟨o, h⟩) | h
  · exact .inl (.inl (e.ins hx (fun _ _ z => nomatch z) h))
  · exact .inl (.inr ⟨o, e.ins hx (fun _ _ z => nomatch z) h⟩)
  · exact .inr h
theorem RowAt.but {x dx r : Addr} {fs : List (Str × V)} (h : RowAt K H r) (e : But x H H') (hx : H x = some (.ins C dx fs)) : RowAt K H' r :=
  let ⟨sa, sc, i, s, n, a, b⟩ := h.ex; ⟨sa, sc, i, s, n, e.ins hx (fun _ _ z => nomatch z) a, e.seqL hx b⟩
end
inductive Op where
  | st (s : Stp)
  | re (p c : Nat)
deriving DecidableEq
def opV : Op → List V
  | .st s => stV s
  | .re p c => [.str "retype", .int (p : Nat), .str ⟨#[c]⟩]
def OpAt (K : PySem.W.Frag) (H : Hp) (v : V) (o : Op) : Prop := ∃ a, v = .ref a ∧ SqT K H a (opV o)
/-- the text after an operation -/
def aft (ss : List Stp) : Op → List Stp
  | .st s => ss ++ [s]
  | .re p c => rt (kat ss p) c 0 ss
/-- what an operation answers -/
def opN (ss : List Stp) : Op → Nat
  | .st s => sz (ss ++ [s])
  | .re p c => if lat ss (kat ss p) = c then 0 else cn ss (sz ss) (kat ss p)
def okOp (ss : List Stp) : Op → Prop
  | .st s => okStep (sz ss) s ∧ ss.length < 30 ∧ sz ss + len1 s ≤ 1000000000000000000
  | .re p c => p < sz ss ∧ 97 ≤ c ∧ c ≤ 122
/-- an entry of an editor: the operation, the texts before and after -/
structure Ent where
  o : Op
  b : List Stp
  a : List Stp
def EntAt (K : PySem.W.Frag) (CT CP : Addr) (H : Hp) (v : V) (e : Ent) : Prop := ∃ t o b a, v = .ref t ∧ SqT K H t [o, .ref b, .ref a] ∧ OpAt K H o e.o ∧ TX K CT CP H b e.b ∧ TX K CT CP H a e.a
def EntsAt (K : PySem.W.Frag) (CT CP : Addr) (H : Hp) (ms : List V) (es : List Ent) : Prop := ms.length = es.length ∧ ∀ (j : Nat) e, es[j]? = some e → ∃ v, ms[j]? = some v ∧ EntAt K CT CP H v e
/-- an editor's fields -/
def edF (p d u kp kd ku : V) : List (Str × V) := [("present", p), ("done", d), ("undone", u), ("is_open", .bl false), ("kept_present", kp), ("kept_done", kd), ("kept_undone", ku)]
section
variable {p d u kp kd ku v : V} {f : Str}
theorem edF_no (h : f ≠ "present" ∧ f ≠ "done" ∧ f ≠ "undone" ∧ f ≠ "is_open" ∧ f ≠ "kept_present" ∧ f ≠ "kept_done" ∧ f ≠ "kept_undone") : (edF p d u kp kd ku).lookup f = none := by
  unfold edF
  simp only [List.lookup_cons, beq_false_of_ne h.1, beq_false_of_ne h.2.1, beq_false_of_ne h.2.2.1, beq_false_of_ne h.2.2.2.1, beq_false_of_ne h.2.2.2.2.1, beq_false_of_ne h.2.2.2.2.2.1, beq_false_of_ne h.2.2.2.2.2.2, List.lookup_nil]
end
/-- an editor: its text, what is done and what is undone -/
structure EdI where
  dx : Addr
  p : Addr
  d : Addr
  u : Addr
  kp : V
  kd : V
  ku : V
  dm : List V
  um : List V
  ss : List Stp
  ds : List Ent
  us : List Ent
structure EdAtI (K : PySem.W.Frag) (CT CP CE : Addr) (H : Hp) (e : Addr) (i : EdI) : Prop where
  ins : H e = some (.ins CE i.dx (edF (.ref i.p) (.ref i.d) (.ref i.u) i.kp i.kd i.ku))
  tx : TX K CT CP H i.p i.ss
  dn : SqT K H i.d i.dm
  de : EntsAt K CT CP H i.dm i.ds
  un : SqT K H i.u i.um
  ue : EntsAt K CT CP H i.um i.us
def EdAt (K : PySem.W.Frag) (CT CP CE : Addr) (H : Hp) (e : Addr) (ss : List Stp) (ds us : List Ent) : Prop := ∃ i, EdAtI K CT CP CE H e i ∧ i.ss = ss ∧ i.ds = ds ∧ i.us = us
section
variable {K : PySem.W.Frag} {CT CP CE C : Addr} {T : List (Addr × Str)} {H H' : Hp} {a e x : Addr} {v : V} {o : Op} {en : Ent} {es ds us : List Ent} {ms : List V} {ss : List Stp} {i : EdI}
theorem OpAt.km (h : OpAt K H v o) (k : Km C T H H') : OpAt K H' v o := let ⟨a, ev, q⟩ := h; ⟨a, ev, k.tup q⟩
theorem EntAt.km (hT : CT ≠ C) (hP : CP ≠ C) (h : EntAt K CT CP H v en) (k : Km C T H H') : EntAt K CT CP H' v en := let ⟨t, o, b, a, ev, q, h1, h2, h3⟩ := h; ⟨t, o, b, a, ev, k.tup q, h1.km k, h2.km hT hP k, h3.km hT hP k⟩
theorem EntsAt.km (hT : CT ≠ C) (hP : CP ≠ C) (h : EntsAt K CT CP H ms es) (k : Km C T H H') : EntsAt K CT CP H' ms es := ⟨h.1, fun j s q => let ⟨v, a, b⟩ := h.2 j s q; ⟨v, a, b.km hT hP k⟩⟩
theorem EntsAt.nil : EntsAt K CT CP H [] [] := ⟨rfl, fun _ _ h => by simp at h⟩
theorem EntsAt.snoc (h : EntsAt K CT CP H ms es) (g : EntAt K CT CP H v en) : EntsAt K CT CP H (ms ++ [v]) (es ++ [en]) := by
  refine ⟨by simp [h.1], fun j s hj => ?_⟩
  rcases Nat.lt_or_ge j es.length with z | z
  · rw [List.getElem?_append_left z] at hj
    obtain ⟨v', a, b⟩ := h.2 j s hj
    exact ⟨v', by rw [List.getElem?_append_left (by rw [h.1]; exact z)]; exact a, b⟩
  · have e : j = es.length := by
      have := (List.getElem?_eq_some_iff.mp hj).1
      rw [List.length_append, List.length_singleton] at this; omega
    subst e
    rw [List.getElem?_append_right (Nat.le_refl _), Nat.sub_self] at hj
    cases hj
    exact ⟨v, by rw [← h.1, List.getElem?_append_right (Nat.le_refl _), Nat.sub_self]; rfl, g⟩
theorem EdAtI.same (h : EdAtI K CT CP CE H e i) (k : Same H H') : EdAtI K CT CP CE H' e i := by
  refine ⟨k _ _ h.ins, h.tx.kp (.same k), (Same.tup k h.dn), ⟨h.de.1, fun j s q => ?_⟩, (Same.tup k h.un), ⟨h.ue.1, fun j s q => ?_⟩⟩
  · obtain ⟨v, a, t, o, b, c, ev, z, ⟨oa, h0, h1⟩, h2, h3⟩ := h.de.2 j s q
    exact ⟨v, a, t, o, b, c, ev, (Same.tup k z), ⟨oa, h0, (Same.tup k h1)⟩, h2.kp (.same k), h3.kp (.same k)⟩
  · obtain ⟨v, a, t, o, b, c, ev, z, ⟨oa, h0, h1⟩, h2, h3⟩ := h.ue.2 j s q
    exact ⟨v, a, t, o, b, c, ev, (Same.tup k z), ⟨oa, h0, (Same.tup k h1)⟩, h2.kp (.same k), h3.kp (.same k)⟩
theorem EdAt.same (h : EdAt K CT CP CE H e ss ds us) (k : Same H H') : EdAt K CT CP CE H' e ss ds us := let ⟨i, a, b⟩ := h; ⟨i, a.same k, b⟩
/-- another editor changes -/
theorem EdAtI.km (hT : CT ≠ CE) (hP : CP ≠ CE) (h : EdAtI K CT CP CE H e i) (k : Km CE T H H') (hi : H' e = H e) : EdAtI K CT CP CE H' e i :=
  ⟨hi.trans h.ins, h.tx.km hT hP k, k.tup h.dn, h.de.km hT hP k, k.tup h.un, h.ue.km hT hP k⟩
theorem EdAt.km (hT : CT ≠ CE) (hP : CP ≠ CE) (h : EdAt K CT CP CE H e ss ds us) (k : Km CE T H H') (hi : H' e = H e) : EdAt K CT CP CE H' e ss ds us := let ⟨i, a, b⟩ := h; ⟨i, a.km hT hP k hi, b⟩
theorem EdAt.kl (hT : CT ≠ CE) (hP : CP ≠ CE) (h : EdAt K CT CP CE H e ss ds us) (k : Kl T H H') : EdAt K CT CP CE H' e ss ds us := by
  obtain ⟨i, a, b⟩ := h
  exact ⟨i, a.km hT hP (.kl k) ((k.keep _ _ nr_ins (fun _ z => nomatch z) a.ins).trans a.ins.symm), b⟩
theorem EdAt.kp (hT : CT ≠ CE) (hP : CP ≠ CE) (h : EdAt K CT CP CE H e ss ds us) (k : Kp H H') : EdAt K CT CP CE H' e ss ds us := h.kl (T := []) hT hP (.kp k)
theorem EdAt.but (hT : CT ≠ CE) (hP : CP ≠ CE) (h : EdAt K CT CP CE H e ss ds us) (k : But x H H') (hx : H x = some (.ins C (i.dx) (edF (.ref i.p) (.ref i.d) (.ref i.u) i.kp i.kd i.ku))) (hC : C = CE) (ne : e ≠ x) : EdAt K CT CP CE H' e ss ds us := by
  subst hC
  obtain ⟨j, a, b⟩ := h
  exact ⟨j, a.km hT hP (Km.but (T := []) k hx) ((k _ _ ne a.ins).trans a.ins.symm), b⟩
theorem EdAt.insA (h : EdAt K CT CP CE H e ss ds us) : InsA H e CE := let ⟨_, a, _⟩ := h; ⟨_, _, a.ins⟩
theorem EdAt.insM {m : Str} (h : EdAt K CT CP CE H e ss ds us) (hm : m ≠ "present" ∧ m ≠ "done" ∧ m ≠ "undone" ∧ m ≠ "is_open" ∧ m ≠ "kept_present" ∧ m ≠ "kept_done" ∧ m ≠ "kept_undone" := by decide +kernel) : InsM H e CE m := let ⟨_, a, _⟩ := h; ⟨_, _, a.ins, edF_no hm⟩
end
section
variable (K : PySem.W.Frag) (CIS CTL CIP CIL CT CP CE : Addr)
/-- a step, its values xs, is added to the text of the editor e -/
def AddOut (H : Hp) (e : Addr) (ss : List Stp) (ds : List Ent) (xs : List V) (Q : VK) (E : XK) : Prop :=
  (∃ s, xs = stV s ∧ okStep (sz ss) s ∧ ss.length < 30 ∧ sz ss + len1 s ≤ 1000000000000000000 ∧ ∀ H', But e H H' → EdAt K CT CP CE H' e (ss ++ [s]) (ds ++ [⟨.st s, ss, ss ++ [s]⟩]) [] → Q (.int (sz (ss ++ [s]) : Nat)) H') ∨
  ((ss.length = 30 ∨ isSt (sz ss) xs = false) ∧ ∀ d H', Same H H' → H' d = some (.xd [("index", .int (ss.length : Nat))]) → E (.ref CIS) (some d) H') ∨
  (∃ s, xs = stV s ∧ okStep (sz ss) s ∧ ss.length < 30 ∧ 1000000000000000000 < sz ss + len1 s ∧ ∀ H', Same H H' → E (.ref CTL) none H')
def RetOut (H : Hp) (e : Addr) (ss : List Stp) (ds : List Ent) (p l : V) (Q : VK) (E : XK) : Prop :=
  (∃ i c : Nat, p = .int (i : Nat) ∧ l = .str ⟨#[c]⟩ ∧ i < sz ss ∧ 97 ≤ c ∧ c ≤ 122 ∧ ∀ H', But e H H' → EdAt K CT CP CE H' e (aft ss (.re i c)) (ds ++ [⟨.re i c, ss, aft ss (.re i c)⟩]) [] → Q (.int (opN ss (.re i c) : Nat)) H') ∨
  (isInt 0 ((sz ss : Int) - 1) p = false ∧ ∀ H', Same H H' → E (.ref CIP) none H') ∨
  (isInt 0 ((sz ss : Int) - 1) p = true ∧ isLet l = false ∧ ∀ H', Same H H' → E (.ref CIL) none H')
/-- operations, one after another -/
def runB : List Stp → List Op → List Stp
  | ss, [] => ss
  | ss, o :: r => runB (aft ss o) r
def OpsAt (K : PySem.W.Frag) (H : Hp) (ms : List V) (os : List Op) : Prop := ms.length = os.length ∧ ∀ (j : Nat) o, os[j]? = some o → ∃ v, ms[j]? = some v ∧ OpAt K H v o
/-- an operation of valid form is executed -/
def ExOut (H : Hp) (e : Addr) (ss : List Stp) (ds : List Ent) (xs : List V) (Q : VK) (E : XK) : Prop :=
  match xs with
  | [_, p, l] => RetOut K CIP CIL CT CP CE H e ss ds p l Q E
  | _ => AddOut K CIS CTL CT CP CE H e ss ds xs Q E
end
end L2.Px
set_option Elab.async false
set_option linter.all false
set_option maxRecDepth 100000
set_option maxHeartbeats 1000000
namespace L2.Px
open PySem PySem.Spec PyProof.Rows StX TL ClX LamX
/-- v, w are no range of a text -/
def NoRng (ss : List Stp) (v w : V) : Prop := isInt 0 (sz ss : Nat) v = false ∨ ∃ i : Int, v = .int i ∧ isInt 0 (sz ss : Nat) v = true ∧ isInt (i - 1) ((sz ss : Nat) - 1) w = false
end L2.Px
set_option Elab.async false
set_option linter.all false
set_option maxRecDepth 100000
set_option maxHeartbeats 1000000
namespace L2.Px
open PySem PySem.Spec PyProof.Rows StX TL ClX LamX
section
variable {P : Program} {w : World} {K : PySem.W.Frag} {mg : Str → Option Value} {base : Heap} {k : Nat} {x : Str} {st : Stmt} {ps : List Str} {dvs : List V} {sp : Sp}
theorem DefGF.okX {N : List Str} (D : DefGF K mg x st ps dvs) (S : FnScope N ps (defScope st)) (len : ∀ vs H Q E, sp vs H Q E → vs.length = ps.length)
    (hbody : ∀ (f : Addr) (cdv : Value) (A : Around) (outer : List Env) (s : Shared) (H : Hp) (vs : List V) (Q : VK) (E : XK), Room k (A.deeper (envOfC x (defScope st) s.heap.objs.size f cdv)) → sp vs H Q E →
      ∃ t, PSs (cxOf (L2.CX P w) P w K mg base N x (defScope st) f cdv A outer s H E) (defBody st) t ∧ t { nx := fun _ H' => Q .non H', rt := Q } (start N vs) H) : GOk P w K mg base (L2.CX P w) (k + 1) x (fun vs => sp (vs ++ dvs)) := by
  obtain ⟨f, fd, F, a, ⟨ds, hd, b⟩, b0⟩ := D
  exact ⟨f, FnOk.toR1 (F.ok (CX := L2.CX P w) S len fun cdv A outer s H vs Q E hr h => hbody f cdv A outer s H vs Q E hr h) b hd, a, F.kp⟩
end
/-- v is no change of a text of n keys -/
def isCh (n : Int) : List V → Bool
  | [x, y] => isInt 0 (n - 1) x && isLet y
  | _ => false
def BadCh (K : PySem.W.Frag) (H : Hp) (n : Int) (v : V) : Prop := NoSeq v ∨ ∃ a xs, v = .ref a ∧ (∀ x ∈ xs, NoSeq x ∧ ∀ z, x = .str z → z.length ≤ sizeLine) ∧ ((SqT K H a xs ∧ isCh n xs = false) ∨ SqL K H a xs)
section
variable {K : PySem.W.Frag} {H H' : Hp} {n : Int} {v : V}
theorem BadCh.mono (h : BadCh K H n v) (e : Same H H') : BadCh K H' n v := by
  rcases h with h | ⟨a, xs, ev, hx, h | h⟩
  · exact .inl h
  · exact .inr ⟨a, xs, ev, hx, .inl ⟨Same.tup e h.1, h.2⟩⟩
  · exact .inr ⟨a, xs, ev, hx, .inr (e.seq h)⟩
end
/-- alike, to a depth; None too -/
def AlX (K : PySem.W.Frag) (H : Hp) : Nat → V → V → Prop
  | 0, _, _ => False
  | n + 1, v, w => (∃ i, v = .int i ∧ w = .int i) ∨ (∃ x, v = .str x ∧ w = .str x ∧ x.length ≤ sizeLine) ∨ (v = .non ∧ w = .non) ∨ ∃ a b xs ys, v = .ref a ∧ w = .ref b ∧ (SqT K H a xs ∧ SqT K H b ys ∨ SqL K H a xs ∧ SqL K H b ys) ∧ xs.length = ys.length ∧ xs.length ≤ sizeLine ∧ ∀ (i : Nat) x y, xs[i]? = some x → ys[i]? = some y → AlX K H n x y
theorem AlX.mono {K : PySem.W.Frag} {H H' : Hp} (e : Same H H') : ∀ {n : Nat} {v w : V}, AlX K H n v w → AlX K H' n v w
  | 0, _, _, h => h.elim
  | n + 1, _, _, h => by
    rcases h with h | h | h | ⟨a, b, xs, ys, h1, h2, h3, h4, h5, h6⟩
    · exact .inl h
    · exact .inr (.inl h)
    · exact .inr (.inr (.inl h))
    · refine .inr (.inr (.inr ⟨a, b, xs, ys, h1, h2, ?_, h4, h5, fun i x y p q => AlX.mono e (h6 i x y p q)⟩))
      rcases h3 with ⟨p, q⟩ | ⟨p, q⟩
      · exact .inl ⟨Same.tup e p, Same.tup e q⟩
      · exact .inr ⟨e.seq p, e.seq q⟩
end L2.Px
namespace L2.Px
open PySem PySem.Spec PyProof.Rows StX TL ClX LamX
end L2.Px
namespace L2.Px
open PySem PySem.Spec PyProof.Rows StX TL ClX LamX
end L2.Px
namespace L2.Px
open PySem PySem.Spec PyProof.Rows StX TL ClX LamX
end L2.Px
namespace L2.Px
open PySem PySem.Spec PyProof.Rows StX TL ClX LamX
end L2.Px
namespace L2.Px
open PySem PySem.Spec PyProof.Rows StX TL ClX LamX
theorem ChAt.snoc {K : PySem.W.Frag} {H : Hp} {F p : Addr} {cs : List (Nat × Nat)} {n k c : Nat} {xs : List V} (h : ChAt K H F cs n) (hF : H F = some (.lst xs)) (c1 : k < n) (c2 : 97 ≤ c ∧ c ≤ 122) (hp : H p = some (.tup [.int (k : Nat), .str ⟨#[c]⟩])) :
    ChAt K (upd H F (.lst (xs ++ [.ref p]))) F (cs ++ [(k, c)]) n := by
  obtain ⟨xs', e, h1, h2⟩ := h
  rw [hF] at e
  cases e
  refine ⟨xs ++ [.ref p], upd_same, by simp [h1], fun i d hd => ?_⟩
  by_cases hi : i < cs.length
  · rw [List.getElem?_append_left hi] at hd
    obtain ⟨a1, a2, a3, T, b1, b2⟩ := h2 i d hd
    exact ⟨a1, a2, a3, T, by rw [List.getElem?_append_left (by omega)]; exact b1, by rw [upd_ne (fun z => by subst z; rw [hF] at b2; cases b2)]; exact b2⟩
  · have hi' : i = cs.length := by
      have := (List.getElem?_eq_some_iff.mp hd).1
      rw [List.length_append, List.length_singleton] at this
      omega
    subst hi'
    rw [List.getElem?_append_right (Nat.le_refl _), Nat.sub_self] at hd
    cases hd
    exact ⟨c1, c2.1, c2.2, p, by rw [← h1, List.getElem?_append_right (Nat.le_refl _), Nat.sub_self]; rfl, by rw [upd_ne (fun z => by subst z; rw [hF] at hp; cases hp)]; exact hp⟩
end L2.Px
namespace L2.Px
open PySem PySem.Spec PyProof.Rows StX TL ClX LamX
end L2.Px
namespace L2.Px
open PySem PySem.Spec PyProof.Rows StX TL ClX LamX
end L2.Px
set_option Elab.async false
set_option linter.all false
set_option maxRecDepth 100000
set_option maxHeartbeats 1000000
namespace L2.Px
open PySem PySem.Spec PyProof.Rows StX TL ClX LamX
end L2.Px
namespace L2.Px
open PySem PySem.Spec PyProof.Rows StX TL ClX LamX
section
variable {K : PySem.W.Frag} {H H1 : Hp} {T : List (Addr × Str)} {l : Addr} {xs : List V} {o : HO}
theorem codeO_nl {c : Addr} {q : Str} : CodeO c q ≠ .lst xs := fun z => by
  unfold CodeO at z
  cases z
theorem upd_keep {b : Addr} {u : HO} (h : H l = some (.lst xs)) (e : H b = some u) (n : u ≠ .lst xs) : upd H l o b = some u := by
  rw [upd_ne fun z => by subst z; rw [h] at e; exact n (Option.some.inj e).symm]; exact e
theorem tabs_upd (t : Tabs T H) (h : H l = some (.lst xs)) : Tabs T (upd H l o) := fun p hp =>
  let ⟨ps, a, b, d⟩ := t p hp
  ⟨ps, upd_keep h a (fun z => nomatch z), b, fun pos cv hc => let ⟨c, x, y⟩ := d pos cv hc; ⟨c, x, upd_keep h y codeO_nl⟩⟩
theorem Kx.updL (x : Kx T H H1) (n : H l = none) (e : H1 l = some (.lst xs)) : Kx T H (upd H1 l o) :=
  ⟨fun b u hn h => by rw [upd_ne (ne_of_none h n)]; exact x.keep b u hn h, fun t => tabs_upd (x.tabs t) e⟩
theorem IsLam.updL {X : Cx} {k : Nat} {t : XK → TE} {f : Addr} (h : IsLam X k t f H) (e : H l = some (.lst xs)) : IsLam X k t f (upd H l o) := by
  obtain ⟨p, b, sc, dV, bs, c', h0, h1, h2, h3, h4⟩ := h
  refine ⟨p, b, sc, dV, bs, c', h0, upd_keep e h1 (fun z => by unfold lamOb at z; cases z), upd_keep e h2 codeO_nl, ?_, h4⟩
  rcases h3 with h3 | ⟨T, v, y, a1, a2, a3, a4⟩
  · exact .inl h3
  · exact .inr ⟨T, v, y, a1, a2, upd_keep e a3 (fun z => nomatch z), a4⟩
end
end L2.Px
namespace L2.Px
open PySem PySem.Spec PyProof.Rows StX TL ClX LamX
end L2.Px
set_option Elab.async false
set_option linter.all false
set_option maxRecDepth 100000
set_option maxHeartbeats 2000000
namespace L2.Px
open PySem PySem.Spec PyProof.Rows PySem.Calls PySem.W
end L2.Px
set_option Elab.async false
set_option linter.all false
set_option maxRecDepth 100000
set_option maxHeartbeats 2000000
namespace L2.Px
open PySem PySem.Spec PyProof.Rows StX ClX
/-- the promise, nothing being raised -/
def nox (sp : Sp) : Sp := fun vs H Q _ => sp vs H Q NoX
section
variable {P : Program} {w : World} {K : PySem.W.Frag} {mg : Str → Option Value} {base : Heap} {CX : CXT} {k i j : Nat} {f C : Addr} {sp sp' : Sp} {x m : Str} {R : Addr → Prop}
theorem fnR_down (F : FnR P w K mg base (L2.CX P w) k f sp) : FnR P w K mg base CX0 k f (nox sp) := fun A outer s H us vs Q E hr e0 r h =>
  codeAny_mono (F A outer s H us vs Q NoX hr e0 r h) fun r s' hq => match r, hq with
    | .error e, ⟨_, _, _, _, _, _, _, _, _, _, _, _, q⟩ => q.elim
    | .ok (.ret u), hq => hq
    | .ok .next, hq => hq
    | .ok .brk, hq => hq
    | .ok .cont, hq => hq
theorem GOk.down (G : GOk P w K mg base (L2.CX P w) k x sp) : GOk P w K mg base CX0 k x (nox sp) := let ⟨f, F, a⟩ := G; ⟨f, fnR_down F, a⟩
theorem MOk.down (G : MOk P w K mg base (L2.CX P w) k C m sp) : MOk P w K mg base CX0 k C m (nox sp) := let ⟨f, F, a⟩ := G; ⟨f, fnR_down F, a⟩
theorem KOk.down (G : KOk P w K mg base (L2.CX P w) k C sp) : KOk P w K mg base CX0 k C (nox sp) := let ⟨f, F, a⟩ := G; ⟨f, fnR_down F, a⟩
theorem COk.down (G : COk P w K mg base (L2.CX P w) k C m sp) : COk P w K mg base CX0 k C m (nox sp) := let ⟨mc, p, f, F, a⟩ := G; ⟨mc, p, f, fnR_down F, a⟩
theorem XOk.down (G : XOk P w K mg base (L2.CX P w) k R sp) : XOk P w K mg base CX0 k R (nox sp) := let ⟨f, F, a⟩ := G; ⟨f, fnR_down F, a⟩
theorem KOk.mono (G : KOk P w K mg base CX j C sp) (h : j ≤ k) : KOk P w K mg base CX k C sp := let ⟨f, F, a⟩ := G; ⟨f, F.mono h, a⟩
theorem KOk.or (F : KOk P w K mg base CX0 i C sp) (G : KOk P w K mg base CX j C sp') (hi : i ≤ k) (hj : j ≤ k) : KOk P w K mg base CX k C (fun vs H Q E => sp vs H Q E ∨ sp' vs H Q E) := by
  obtain ⟨f, a1, a2⟩ := F.mono hi
  obtain ⟨g, b1, b2⟩ := G.mono hj
  have e := a2.init.symm.trans b2.init
  simp only [Option.some.injEq, Value.ref.injEq] at e
  subst e
  exact ⟨f, fnR_or (fnR_up a1) b1, a2⟩
theorem OOk.or (F : OOk P w K mg base CX0 i C sp) (G : OOk P w K mg base CX j C sp') (hi : i ≤ k) (hj : j ≤ k) : OOk P w K mg base CX k C (fun vs H Q E => sp vs H Q E ∨ sp' vs H Q E) := by
  obtain ⟨f, a1, a2⟩ := F
  obtain ⟨g, b1, b2⟩ := G
  have e := a2.at_.symm.trans b2.at_
  simp only [Option.some.injEq, Value.ref.injEq] at e
  subst e
  exact ⟨f, fnR_or (fnR_up (a1.mono hi)) (b1.mono hj), a2⟩
end
def DefB (K : PySem.W.Frag) (C : Addr) (m qual : Str) (st : Stmt) (ps : List Str) : Prop := ∃ f fd, Fun K m qual st f fd ∧ BMeth K C m f ∧ Binds K fd ps []
def BOk (P : Program) (w : World) (K : PySem.W.Frag) (mg : Str → Option Value) (base : Heap) (CX : CXT) (k : Nat) (C : Addr) (m : Str) (sp : Sp) : Prop := ∃ f, FnR P w K mg base CX k f sp ∧ BMeth K C m f
/-- m(self, .., *v) -/
def DefBS (K : PySem.W.Frag) (C : Addr) (m qual : Str) (st : Stmt) (ps : List Str) (pv : Str) : Prop := ∃ f fd, Fun K m qual st f fd ∧ BMeth K C m f ∧
  ∀ us rest : List Value, us.length = ps.length → bindArgs fd ⟨us ++ rest, []⟩ = (newTuple rest >>= fun t => pure (ps.zip us ++ [(pv, t)]))
section
variable {P : Program} {w : World} {K : PySem.W.Frag} {mg : Str → Option Value} {base : Heap} {CX : CXT} {k : Nat} {C : Addr} {ps : List Str} {sp : Sp} {m qual : Str} {st : Stmt}
theorem BOk.down (G : BOk P w K mg base (L2.CX P w) k C m sp) : BOk P w K mg base CX0 k C m (nox sp) := let ⟨f, F, a⟩ := G; ⟨f, fnR_down F, a⟩
theorem DefB.ok {N : List Str} (D : DefB K C m qual st ps) (S : FnScope N ps (defScope st)) (len : ∀ vs H Q E, sp vs H Q E → vs.length = ps.length)
    (hbody : ∀ (f : Addr) (cdv : Value) (A : Around) (outer : List Env) (s : Shared) (H : Hp) (vs : List V) (Q : VK) (E : XK), Room k (A.deeper (envOfC qual (defScope st) s.heap.objs.size f cdv)) → sp vs H Q E →
      ∃ t, PSs (cxOf CX0 P w K mg base N qual (defScope st) f cdv A outer s H E).nox (defBody st) t ∧ t { nx := fun _ H' => Q .non H', rt := Q } (start N vs) H) : BOk P w K mg base CX0 (k + 1) C m sp := by
  obtain ⟨f, fd, F, a, b⟩ := D
  exact ⟨f, FnOk.toR (F.ok S len fun cdv A outer s H vs Q E hr h => hbody f cdv A outer s H vs Q E hr h) b, a⟩
theorem DefBS.ok {N : List Str} {pv : Str} (D : DefBS K C m qual st ps pv) (S : FnScope N (ps ++ [pv]) (defScope st))
    (hbody : ∀ (f : Addr) (cdv : Value) (A : Around) (outer : List Env) (s : Shared) (H : Hp) (vs : List V) (Q : VK) (E : XK), Room k (A.deeper (envOfC qual (defScope st) s.heap.objs.size f cdv)) → sp vs H Q E →
      ∃ t, PSs (cxOf CX0 P w K mg base N qual (defScope st) f cdv A outer s H E).nox (defBody st) t ∧ t { nx := fun _ H' => Q .non H', rt := Q } (start N vs) H) : BOk P w K mg base CX0 (k + 1) C m (spStar ps.length sp) := by
  obtain ⟨f, fd, F, M, hb⟩ := D
  obtain ⟨oc, od, kV, doc, pm, an, cdv, ct, osl, rfl, lk, hcd⟩ := F.ex
  exact ⟨f, fn_star (sp := sp) lk hcd S cxUp_none hb fun A outer s H vs Q E hr h => let ⟨t, a, b⟩ := hbody f cdv A outer s H vs Q E hr h; ⟨t, a.nox, b⟩, M⟩
theorem DefB.okX {N : List Str} (D : DefB K C m qual st ps) (S : FnScope N ps (defScope st)) (len : ∀ vs H Q E, sp vs H Q E → vs.length = ps.length)
    (hbody : ∀ (f : Addr) (cdv : Value) (A : Around) (outer : List Env) (s : Shared) (H : Hp) (vs : List V) (Q : VK) (E : XK), Room k (A.deeper (envOfC qual (defScope st) s.heap.objs.size f cdv)) → sp vs H Q E →
      ∃ t, PSs (cxOf (L2.CX P w) P w K mg base N qual (defScope st) f cdv A outer s H E) (defBody st) t ∧ t { nx := fun _ H' => Q .non H', rt := Q } (start N vs) H) : BOk P w K mg base (L2.CX P w) (k + 1) C m sp := by
  obtain ⟨f, fd, F, a, b⟩ := D
  exact ⟨f, FnOk.toR (F.okX S len fun cdv A outer s H vs Q E hr h => hbody f cdv A outer s H vs Q E hr h) b, a⟩
theorem DefBS.okX {N : List Str} {pv : Str} (D : DefBS K C m qual st ps pv) (S : FnScope N (ps ++ [pv]) (defScope st))
    (hbody : ∀ (f : Addr) (cdv : Value) (A : Around) (outer : List Env) (s : Shared) (H : Hp) (vs : List V) (Q : VK) (E : XK), Room k (A.deeper (envOfC qual (defScope st) s.heap.objs.size f cdv)) → sp vs H Q E →
      ∃ t, PSs (cxOf (L2.CX P w) P w K mg base N qual (defScope st) f cdv A outer s H E) (defBody st) t ∧ t { nx := fun _ H' => Q .non H', rt := Q } (start N vs) H) : BOk P w K mg base (L2.CX P w) (k + 1) C m (spStar ps.length sp) := by
  obtain ⟨f, fd, F, M, hb⟩ := D
  obtain ⟨oc, od, kV, doc, pm, an, cdv, ct, osl, rfl, lk, hcd⟩ := F.ex
  exact ⟨f, fn_star (sp := sp) lk hcd S cxUp hb fun A outer s H vs Q E hr h => hbody f cdv A outer s H vs Q E hr h, M⟩
end
section
variable {K : PySem.W.Frag} {CT CP CE C : Addr} {H H' H1 : Hp} {Q : VK} {E : XK} {a b d e x dx : Addr} {xs ys : List V} {z : Str} {σ : St} {td ty tx : TE} {w : World} {f : Str} {y v : V} {fs : List (Str × V)} {k : Hp → Prop}
theorem rd_edset (e : H x = some (.ins C dx fs)) (c : Cls K C) (nn : NoAttr K C f) (l : fs.length < 1000) (h : ∀ H', But x H H' → H' x = some (.ins C dx (putF f y fs)) → k H') : rSFld K f y (.ref x) H k :=
  rd_sfld_at e c nn l (h _ (But.at But.refl) upd_same)
end
section
variable {K : PySem.W.Frag} {CIS CTL CIP CIL CT CP CE C : Addr} {H H' H1 : Hp} {Q : VK} {E : XK} {e : Addr} {xs ms rs : List V} {ss : List Stp} {ds : List Ent} {p l v : V} {A B : Sp}
theorem AddOut.same (S : Same H H1) (h : AddOut K CIS CTL CT CP CE H e ss ds xs Q E) : AddOut K CIS CTL CT CP CE H1 e ss ds xs Q E := by
  rcases h with ⟨s, h1, h2, h3, h4, k⟩ | ⟨h1, k⟩ | ⟨s, h1, h2, h3, h4, k⟩
  · exact .inl ⟨s, h1, h2, h3, h4, fun H' b ed => k H' ((But.same S).trans b) ed⟩
  · exact .inr (.inl ⟨h1, fun d H' S' => k d H' (Same.trans S S')⟩)
  · exact .inr (.inr ⟨s, h1, h2, h3, h4, fun H' S' => k H' (Same.trans S S')⟩)
theorem RetOut.same (S : Same H H1) (h : RetOut K CIP CIL CT CP CE H e ss ds p l Q E) : RetOut K CIP CIL CT CP CE H1 e ss ds p l Q E := by
  rcases h with ⟨i, c, h1, h2, h3, h4, h5, k⟩ | ⟨h1, k⟩ | ⟨h1, h2, k⟩
  · exact .inl ⟨i, c, h1, h2, h3, h4, h5, fun H' b ed => k H' ((But.same S).trans b) ed⟩
  · exact .inr (.inl ⟨h1, fun H' S' => k H' (Same.trans S S')⟩)
  · exact .inr (.inr ⟨h1, h2, fun H' S' => k H' (Same.trans S S')⟩)
theorem ExOut.same (S : Same H H1) (h : ExOut K CIS CTL CIP CIL CT CP CE H e ss ds xs Q E) : ExOut K CIS CTL CIP CIL CT CP CE H1 e ss ds xs Q E := by
  unfold ExOut at h ⊢
  split
  · exact RetOut.same S h
  · rename_i hn
    split at h
    · exact absurd rfl (hn _ _ _)
    · exact AddOut.same S h
theorem rMk_l (h : rMk C A E rs H Q) : rMk C (fun vs H Q E => A vs H Q E ∨ B vs H Q E) E rs H Q := fun x dx a b c => .inl (h x dx a b c)
theorem rMk_r (h : rMk C B E rs H Q) : rMk C (fun vs H Q E => A vs H Q E ∨ B vs H Q E) E rs H Q := fun x dx a b c => .inr (h x dx a b c)
end
end L2.Px
set_option Elab.async false
set_option linter.all false
set_option maxRecDepth 100000
set_option maxHeartbeats 1000000
namespace L2.Px
open PySem PySem.Spec PyProof.Rows StX ClX
section
variable {K : PySem.W.Frag} {CT CP CE : Addr} {H H1 : Hp} {Q : VK} {E : XK} {rs ms : List V} {ss : List Stp} {os : List Op}
theorem OpsAt.mono (h : OpsAt K H ms os) (S : Same H H1) : OpsAt K H1 ms os := ⟨h.1, fun j o q => let ⟨v, a, b, c, d⟩ := h.2 j o q; ⟨v, a, b, c, Same.tup S d⟩⟩
end
end L2.Px
set_option Elab.async false
set_option linter.all false
set_option maxRecDepth 100000
set_option maxHeartbeats 1000000
namespace L2.Px
open PySem PySem.Spec PyProof.Rows StX TL
section
variable {K : PySem.W.Frag} {CIS CTL CIP CIL CT CP CE : Addr} {H H' : Hp} {Q : VK} {E : XK} {e t l : Addr} {ss tt : List Stp} {ds us d' u' : List Ent} {en : Ent} {ms rs : List V} {os : List Op} {p c : Nat} {w : Str} {f z n : Nat}
theorem OpsAt.steps (h : StepsAt K H ms ss) : OpsAt K H ms (ss.map .st) := by
  refine ⟨by rw [List.length_map]; exact h.1, fun j o hj => ?_⟩
  rw [List.getElem?_map] at hj
  cases hs : ss[j]? with
  | none => rw [hs] at hj; cases hj
  | some s =>
    rw [hs] at hj; cases hj
    obtain ⟨v, a, b, c, d⟩ := h.2 j s hs
    exact ⟨v, a, b, c, d⟩
theorem OpsAt.nil : OpsAt K H [] [] := ⟨rfl, fun _ _ h => by simp at h⟩
end
end L2.Px
set_option Elab.async false
set_option linter.all false
set_option maxRecDepth 100000
set_option maxHeartbeats 1000000
namespace L2.Px
open PySem PySem.Spec PyProof.Rows StX TL
/-- a step typed as a, b, c, z -/
def okL1 (s : Stp) : Prop := ∀ c ∈ ty1 s, c = 97 ∨ c = 98 ∨ c = 99 ∨ c = 122
theorem okLs.nil : okLs [] := fun c h => by cases h
theorem okLs.snoc {ss : List Stp} {s : Stp} (h : okLs ss) (g : okL1 s) : okLs (ss ++ [s]) := fun c hc => by
  rw [tyL_append] at hc
  rcases List.mem_append.mp hc with hc | hc
  · exact h c hc
  · exact g c (by simpa [tyL] using hc)
theorem okL1.wr {x : Str} {m : Nat} (hx : okWord x m) : okL1 (.wr x) := fun c hc => hx.2.2 c hc
theorem okL1.pa {f l t : Nat} : okL1 (.pa f l t) := fun c hc => by cases hc
theorem StepAt.wrN {K : PySem.W.Frag} {H : Hp} {p : Addr} {x : Str} (e : H p = some (.tup [.str "write", .str x])) : StepAt K H (.ref p) (.wr x) := ⟨p, rfl, SqT.of e⟩
theorem StepAt.paN {K : PySem.W.Frag} {H : Hp} {p : Addr} {f l t : Nat} (e : H p = some (.tup [.str "paste", .int (f : Nat), .int (l : Nat), .int (t : Nat)])) : StepAt K H (.ref p) (.pa f l t) := ⟨p, rfl, SqT.of e⟩
section
variable {K : PySem.W.Frag} {H : Hp} {l a : Addr} {xs ys ms : List V} {ss : List Stp} {o : HO}
theorem SqT.updL (h : SqT K H a xs) (e : H l = some (.lst ys)) : SqT K (upd H l o) a xs := by
  rcases h with (h | ⟨u, h⟩) | h
  · exact .inl (.inl (by rw [upd_ne fun z => by subst z; rw [e] at h; cases h]; exact h))
  · exact .inl (.inr ⟨u, by rw [upd_ne fun z => by subst z; rw [e] at h; cases h]; exact h⟩)
  · exact .inr h
theorem StepsAt.updL (h : StepsAt K H ms ss) (e : H l = some (.lst ys)) : StepsAt K (upd H l o) ms ss := ⟨h.1, fun j s q => let ⟨v, a, b, c, d⟩ := h.2 j s q; ⟨v, a, b, c, SqT.updL d e⟩⟩
theorem StepAt.updL {v : V} {s : Stp} (h : StepAt K H v s) (e : H l = some (.lst ys)) : StepAt K (upd H l o) v s := let ⟨b, c, d⟩ := h; ⟨b, c, SqT.updL d e⟩
end
theorem rd_mulW {H : Hp} {Q : VK} {i j : Int} {n m : Nat} (hi : i = n) (hj : j = m) (h1 : n < 1152921504606846976) (h2 : m < 1152921504606846976) (q : Q (.int (n * m : Nat)) H) : rI CMulW (fun i j => V.int (i * j)) (.int i) (.int j) H Q := by
  subst hi hj
  refine rd_I (wide_mul (a := 60) (b := 60) (by rw [Int.natAbs_natCast]; omega) (by rw [Int.natAbs_natCast]; omega) (by decide) (by decide) (by decide)) ?_
  rw [← Int.natCast_mul]; exact q
end L2.Px
set_option Elab.async false
set_option linter.all false
set_option maxRecDepth 100000
set_option maxHeartbeats 1000000
namespace L2.Px
open PySem PySem.Spec PyProof.Rows StX TL ClX
def wWr : List Nat := [119, 114, 105, 116, 101]
def wPa : List Nat := [112, 97, 115, 116, 101]
theorem mk_wr : (Str.ofString "write") = mkS wWr := by decide +kernel
theorem mk_pa : (Str.ofString "paste") = mkS wPa := by decide +kernel
theorem mk_inj47 {a b : List Nat} (h : mkS a = mkS b) : a = b := by have := congrArg tl h; rwa [tl_mkS, tl_mkS] at this
theorem mkS_eq {a b : List Nat} : decide (mkS a = mkS b) = decide (a = b) := by
  by_cases h : a = b
  · subst h; simp
  · rw [decide_eq_false h, decide_eq_false fun z => h (mk_inj47 z)]
/-- a word of letters -/
def wdB (w : List Nat) : Bool := decide (1 ≤ w.length ∧ w.length ≤ 20 ∧ ∀ c ∈ w, 97 ≤ c ∧ c ≤ 122)
/-- a number's figures -/
def figB (w : List Nat) : Bool := decide (1 ≤ w.length ∧ w.length ≤ 18 ∧ (∀ c ∈ w, 48 ≤ c ∧ c ≤ 57) ∧ (w = [48] ∨ w[0]? ≠ some 48))
theorem isWd_mk (w : List Nat) : isWd (.str (mkS w)) = wdB w := by
  show decide (1 ≤ (tl (mkS w)).length ∧ (tl (mkS w)).length ≤ 20 ∧ ∀ c ∈ tl (mkS w), 97 ≤ c ∧ c ≤ 122) = _
  rw [tl_mkS]; rfl
def numV (w : List Nat) : Nat := NumText.digitsVal w
/-- the words of a step -/
def wrdL : Stp → List (List Nat)
  | .wr w => [wWr, tl w]
  | .pa f l t => [wPa, numL f, numL l, numL t]
def rowL (ws : List (List Nat)) : List Nat := joinL [32] ws
def rowsL (rs : List (List (List Nat))) : List Nat := joinL [10] (rs.map rowL)
def fmtT (ss : List Stp) : List Nat := rowsL (ss.map wrdL)
def isW (ws : List (List Nat)) : Bool := decide (ws[0]? = some wWr)
def cntK (b : Bool) : Nat := if b then 2 else 4
def badAt (b : Bool) (ws : List (List Nat)) (k : Nat) : Bool := match ws[k]? with
  | none => true
  | some w => !(if b then wdB w else figB w)
def wrT (b : Bool) (ws : List (List Nat)) : Nat → Nat → Option Nat
  | _, 0 => none
  | k, n + 1 => if badAt b ws k = true then some k else wrT b ws (k + 1) n
/-- the first wrong word of a row -/
def wrongR (ws : List (List Nat)) : Option Nat :=
  if ws[0]? ≠ some wWr ∧ ws[0]? ≠ some wPa then some 0 else
    match wrT (isW ws) ws 1 (cntK (isW ws) - 1) with
    | some k => some k
    | none => if cntK (isW ws) < ws.length then some (cntK (isW ws)) else none
def stpOf (ws : List (List Nat)) : Stp := if isW ws = true then .wr (mkS (ws[1]?.getD [])) else .pa (numV (ws[1]?.getD [])) (numV (ws[2]?.getD [])) (numV (ws[3]?.getD []))
def fwr : Nat → List (List (List Nat)) → Option (Nat × Nat)
  | _, [] => none
  | i, r :: rs => match wrongR r with
    | some k => some (i, k)
    | none => fwr (i + 1) rs
theorem fwr_none : ∀ (i : Nat) (rs : List (List (List Nat))), (∀ r ∈ rs, wrongR r = none) → fwr i rs = none
  | _, [], _ => rfl
  | i, r :: rs, h => by
    unfold fwr
    rw [h r List.mem_cons_self]
    exact fwr_none (i + 1) rs fun x hx => h x (List.mem_cons_of_mem _ hx)
theorem fwr_at : ∀ (i : Nat) (rs : List (List (List Nat))) (j : Nat) {r : List (List Nat)} {k : Nat}, (∀ x ∈ rs.take j, wrongR x = none) → rs[j]? = some r → wrongR r = some k → fwr i rs = some (i + j, k)
  | _, [], j, _, _, _, h, _ => by simp at h
  | i, x :: rs, 0, r, k, h0, h, hk => by
    simp only [List.getElem?_cons_zero, Option.some.injEq] at h
    subst h
    unfold fwr
    rw [hk]; rfl
  | i, x :: rs, j + 1, r, k, h0, h, hk => by
    unfold fwr
    rw [h0 x (by rw [List.take_succ_cons]; exact List.mem_cons_self)]
    rw [List.getElem?_cons_succ] at h
    have := fwr_at (i + 1) rs j (fun y hy => h0 y (by rw [List.take_succ_cons]; exact List.mem_cons_of_mem _ hy)) h hk
    show fwr (i + 1) rs = _
    rw [this]
    congr 2; omega
theorem numV_numL (n : Nat) : numV (numL n) = n := numL_val n
/-- what a row without a wrong word is -/
theorem wrong_none {ws : List (List Nat)} (h : wrongR ws = none) : (∃ w, ws = [wWr, w] ∧ wdB w = true) ∨ ∃ a b c, ws = [wPa, a, b, c] ∧ figB a = true ∧ figB b = true ∧ figB c = true := by
  unfold wrongR at h
  split at h
  · cases h
  · rename_i h0
    split at h
    · cases h
    · rename_i h1
      split at h
      · cases h
      · rename_i h2
        cases ws with
        | nil => simp at h0
        | cons x ws =>
          by_cases hw : x = wWr
          · subst hw
            have ei : isW (wWr :: ws) = true := by simp [isW]
            rw [ei] at h1 h2
            match ws, h1, h2 with
            | [], h1, h2 => simp [cntK, wrT, badAt] at h1
            | [w], h1, h2 =>
              refine .inl ⟨w, rfl, ?_⟩
              simp [cntK, wrT, badAt] at h1
              exact h1
            | w :: _ :: _, h1, h2 => simp [cntK] at h2
          · have hp : x = wPa := by
              simp only [List.getElem?_cons_zero, ne_eq, Option.some.injEq, Classical.not_and_iff_not_or_not, Classical.not_not] at h0
              exact h0.resolve_left hw
            subst hp
            have ei : isW (wPa :: ws) = false := by
              unfold isW
              exact decide_eq_false (by rw [List.getElem?_cons_zero, Option.some.injEq]; exact hw)
            rw [ei] at h1 h2
            match ws, h1, h2 with
            | [], h1, h2 => simp [cntK, wrT, badAt] at h1
            | [a], h1, h2 =>
              cases ha : figB a <;> simp [cntK, wrT, badAt, ha] at h1
            | [a, b], h1, h2 =>
              cases ha : figB a <;> cases hb : figB b <;> simp [cntK, wrT, badAt, ha, hb] at h1
            | [a, b, c], h1, h2 =>
              refine .inr ⟨a, b, c, rfl, ?_⟩
              cases ha : figB a <;> cases hb : figB b <;> cases hc : figB c <;> simp [cntK, wrT, badAt, ha, hb, hc] at h1 ⊢
            | _ :: _ :: _ :: _ :: _, h1, h2 => simp [cntK] at h2
theorem wr_ne_pa : wWr ≠ wPa := by decide
theorem numL_head : ∀ {n : Nat}, n ≠ 0 → (numL n)[0]? ≠ some 48 := by
  intro n
  induction n using Nat.strongRecOn with
  | ind n ih =>
    intro h0
    by_cases h : n < 10
    · rw [numL_lt h]
      simp only [List.getElem?_cons_zero, ne_eq, Option.some.injEq]
      omega
    · rw [numL_step (by omega), List.getElem?_append_left (numL_pos _)]
      exact ih (n / 10) (by omega) (by omega)
theorem numL_fig {n : Nat} (h : n < 1000000000000000000) : figB (numL n) = true := by
  refine decide_eq_true ⟨numL_pos n, numL_len (k := 18) (by decide) (by omega), fun c hc => ?_, ?_⟩
  · have := numL_digits n c hc
    exact this
  · by_cases h0 : n = 0
    · subst h0; exact .inl (by decide +kernel)
    · refine .inr fun hz => ?_
      exact absurd hz (numL_head h0)
/-- a row of a step that fits -/
theorem wrong_wrd {s : Stp} {n : Nat} (h : okStep n s) (hn : n ≤ 1000000000000000000) : wrongR (wrdL s) = none := by
  cases s with
  | wr w =>
    have : wdB (tl w) = true := decide_eq_true (by rw [← len_tl]; exact h)
    simp [wrongR, wrdL, isW, cntK, wrT, badAt, this]
  | pa f l t =>
    obtain ⟨h1, h2, h3, h4⟩ := h
    have e1 := numL_fig (n := f) (by omega)
    have e2 := numL_fig (n := l) (by omega)
    have e3 := numL_fig (n := t) (by omega)
    have ne : wPa ≠ wWr := fun z => wr_ne_pa z.symm
    simp [wrongR, wrdL, isW, cntK, wrT, badAt, e1, e2, e3, ne]
theorem stp_wrd (s : Stp) : stpOf (wrdL s) = s := by
  cases s with
  | wr w =>
    simp [stpOf, wrdL, isW]
    exact ext_tl (tl_mkS _)
  | pa f l t =>
    have ne : wPa ≠ wWr := fun z => wr_ne_pa z.symm
    simp [stpOf, wrdL, isW, ne, numV_numL]
instance okStep_dec (n : Nat) : ∀ s : Stp, Decidable (okStep n s)
  | .wr w => inferInstanceAs (Decidable (1 ≤ w.length ∧ w.length ≤ 20 ∧ ∀ c ∈ tl w, 97 ≤ c ∧ c ≤ 122))
  | .pa f l t => inferInstanceAs (Decidable (f ≤ l ∧ l < n ∧ 1 ≤ t ∧ t ≤ 1000000000))
inductive TxD where
  | ok
  | bad (i : Nat)
  | long
deriving DecidableEq
def chkT : Nat → Nat → List Stp → TxD
  | _, _, [] => .ok
  | n, i, s :: r => if i = 30 ∨ ¬ okStep n s then .bad i else if 1000000000000000000 < n + len1 s then .long else chkT (n + len1 s) (i + 1) r
theorem chk_ok : ∀ (n i : Nat) (ss : List Stp), i ≤ 30 → (chkT n i ss = .ok ↔ okFrom n ss ∧ i + ss.length ≤ 30)
  | n, i, [], hi => by simp [chkT, okFrom, hi]
  | n, i, s :: r, hi => by
    show (if _ then _ else if _ then _ else _) = _ ↔ _
    unfold okFrom
    split
    · rename_i h
      constructor
      · intro z; cases z
      · rintro ⟨⟨h1, _⟩, h2⟩
        rw [List.length_cons] at h2
        rcases h with h | h
        · omega
        · exact absurd h1 h
    · rename_i h
      simp only [not_or, Classical.not_not] at h
      split
      · rename_i h3
        constructor
        · intro z; cases z
        · rintro ⟨⟨_, h4, _⟩, _⟩; omega
      · rename_i h3
        rw [chk_ok (n + len1 s) (i + 1) r (by omega), List.length_cons]
        constructor
        · rintro ⟨a, b⟩; exact ⟨⟨h.2, by omega, a⟩, by omega⟩
        · rintro ⟨⟨_, _, a⟩, b⟩; exact ⟨a, by omega⟩
/-- where it is not ok -/
theorem chk_split : ∀ (ss pre : List Stp), okFrom 0 pre → pre.length ≤ 30 → chkT (sz pre) pre.length ss ≠ .ok → ∃ (q : List Stp) (s : Stp) (r : List Stp), pre ++ ss = q ++ s :: r ∧ okFrom 0 q ∧ q.length ≤ 30 ∧
    ((chkT (sz pre) pre.length ss = .bad q.length ∧ (q.length = 30 ∨ ¬ okStep (sz q) s)) ∨ (chkT (sz pre) pre.length ss = .long ∧ q.length < 30 ∧ okStep (sz q) s ∧ 1000000000000000000 < sz q + len1 s))
  | [], pre, _, _, h => absurd rfl h
  | s :: r, pre, ok, hl, h => by
    by_cases h1 : pre.length = 30 ∨ ¬ okStep (sz pre) s
    · refine ⟨pre, s, r, rfl, ok, hl, .inl ⟨?_, h1⟩⟩
      show (if _ then _ else _) = _
      rw [if_pos h1]
    · by_cases h2 : 1000000000000000000 < sz pre + len1 s
      · simp only [not_or, Classical.not_not] at h1
        refine ⟨pre, s, r, rfl, ok, hl, .inr ⟨?_, by omega, h1.2, h2⟩⟩
        show (if _ then _ else if _ then _ else _) = _
        rw [if_neg (by simp only [not_or, Classical.not_not]; exact h1), if_pos h2]
      · have e : chkT (sz pre) pre.length (s :: r) = chkT (sz pre + len1 s) (pre.length + 1) r := by
          show (if _ then _ else if _ then _ else _) = _
          rw [if_neg h1, if_neg h2]
        simp only [not_or, Classical.not_not] at h1
        have ok' : okFrom 0 (pre ++ [s]) := (okFrom_append 0 pre [s]).mpr ⟨ok, by rw [Nat.zero_add]; exact h1.2, by omega, trivial⟩
        have es : sz (pre ++ [s]) = sz pre + len1 s := by rw [sz_append]; simp [sz]
        have el : (pre ++ [s]).length = pre.length + 1 := by simp
        rw [e, ← es, ← el] at h ⊢
        obtain ⟨q, s', r', e1, e2⟩ := chk_split r (pre ++ [s]) ok' (by rw [el]; omega) h
        exact ⟨q, s', r', by rw [← e1, List.append_assoc]; rfl, e2⟩
section
variable {K : PySem.W.Frag} {CIS CTL CT CP : Addr} {H : Hp} {rs : List V} {ss : List Stp} {E : XK} {n : Nat} {s : Stp} {v : V}
theorem isSt_stV (n : Nat) (s : Stp) : isSt (n : Nat) (stV s) = decide (okStep n s) := by
  cases s with
  | wr w =>
    have e : isWd (.str w) = decide (okStep n (.wr w)) := by
      show decide (1 ≤ (tl w).length ∧ (tl w).length ≤ 20 ∧ ∀ c ∈ tl w, 97 ≤ c ∧ c ≤ 122) = decide (1 ≤ w.length ∧ w.length ≤ 20 ∧ ∀ c ∈ tl w, 97 ≤ c ∧ c ≤ 122)
      simp only [len_tl]
    simp [stV, isSt, e]
  | pa f l t =>
    have e1 : isInt 0 ((n : Int) - 1) (.int l) = decide (l < n) := by
      show decide (0 ≤ (l : Int) ∧ (l : Int) ≤ (n : Int) - 1) = _
      by_cases h : l < n
      · rw [decide_eq_true h, decide_eq_true (by omega)]
      · rw [decide_eq_false h, decide_eq_false (by omega)]
    have e2 : isInt 0 (l : Int) (.int f) = decide (f ≤ l) := by
      show decide (0 ≤ (f : Int) ∧ (f : Int) ≤ (l : Int)) = _
      by_cases h : f ≤ l
      · rw [decide_eq_true h, decide_eq_true (by omega)]
      · rw [decide_eq_false h, decide_eq_false (by omega)]
    have e3 : isInt 1 1000000000 (.int t) = decide (1 ≤ t ∧ t ≤ 1000000000) := by
      show decide (1 ≤ (t : Int) ∧ (t : Int) ≤ 1000000000) = _
      by_cases h : 1 ≤ t ∧ t ≤ 1000000000
      · rw [decide_eq_true h, decide_eq_true (by omega)]
      · rw [decide_eq_false h, decide_eq_false (by omega)]
    simp only [stV, isSt, intOf, e1, e2, e3, decide_true, Bool.true_and]
    show _ = decide (f ≤ l ∧ l < n ∧ 1 ≤ t ∧ t ≤ 1000000000)
    by_cases a : f ≤ l <;> by_cases b : l < n <;> by_cases c : 1 ≤ t ∧ t ≤ 1000000000 <;> simp [a, b, c]
theorem stV_sml (hw : ∀ w, s = .wr w → w.length ≤ sizeLine) : ∀ x ∈ stV s, NoSeq x ∧ ∀ z, x = .str z → z.length ≤ sizeLine := fun x hx => ⟨stV_noseq s x hx, fun z hz => by
  subst hz
  cases s with
  | wr w =>
    simp only [stV, List.mem_cons, List.not_mem_nil, or_false, V.str.injEq] at hx
    rcases hx with rfl | rfl
    · rw [sizeLine_eq]; decide
    · exact hw _ rfl
  | pa f l t =>
    simp only [stV, List.mem_cons, List.not_mem_nil, or_false, V.str.injEq, reduceCtorEq] at hx
    subst hx
    rw [sizeLine_eq]; decide⟩
/-- steps that make no text -/
theorem rej_chk (hst : StepsAt K H rs ss) (hw : ∀ w, Stp.wr w ∈ ss → w.length ≤ sizeLine) (h : chkT 0 0 ss ≠ .ok) (hb : ∀ i, chkT 0 0 ss = .bad i → ∀ d H', Same H H' → H' d = some (.xd [("index", .int (i : Nat))]) → E (.ref CIS) (some d) H')
    (hl : chkT 0 0 ss = .long → ∀ H', Same H H' → E (.ref CTL) none H') : Rej K CIS CTL E H rs := by
  obtain ⟨q, s, r, e, ok, few, hc⟩ := chk_split ss [] trivial (by simp) h
  rw [List.nil_append] at e
  have hlen := hst.1
  rw [e, List.length_append, List.length_cons] at hlen
  have hat : ss[q.length]? = some s := by rw [e, List.getElem?_append_right (Nat.le_refl _), Nat.sub_self]; rfl
  obtain ⟨v, hv, a, rfl, hq⟩ := hst.2 q.length s hat
  refine ⟨q, .ref a, ⟨by rw [List.length_take]; omega, fun j u hj => ?_⟩, ok, hv, few, ?_⟩
  · have hj' : j < q.length := (List.getElem?_eq_some_iff.mp hj).1
    obtain ⟨v', e1, e2⟩ := hst.2 j u (by rw [e, List.getElem?_append_left hj']; exact hj)
    exact ⟨v', by rw [List.getElem?_take, if_pos hj']; exact e1, e2⟩
  · have hws : ∀ w, s = .wr w → w.length ≤ sizeLine := fun w hw' => hw w (by rw [e, hw']; simp)
    rcases hc with ⟨c1, c2⟩ | ⟨c1, c2, c3, c4⟩
    · refine .inl ⟨?_, fun d H' S ed => hb _ c1 d H' S ed⟩
      by_cases h30 : q.length = 30
      · exact .inl h30
      · have no : ¬ okStep (sz q) s := c2.resolve_left h30
        exact .inr (.inr ⟨a, stV s, rfl, stV_sml hws, .inl ⟨hq, by rw [isSt_stV, decide_eq_false no]⟩⟩)
    · exact .inr ⟨s, ⟨a, rfl, hq⟩, c3, c2, c4, fun H' S => hl c1 H' S⟩
theorem chk_text (h : chkT 0 0 ss = .ok) : okFrom 0 ss ∧ ss.length ≤ 30 := by
  have := (chk_ok 0 0 ss (by decide)).mp h
  exact ⟨this.1, by omega⟩
theorem chk_of (ok : okFrom 0 ss) (few : ss.length ≤ 30) : chkT 0 0 ss = .ok := (chk_ok 0 0 ss (by decide)).mpr ⟨ok, by omega⟩
end
def sp_format_text (K : PySem.W.Frag) (CT CP : Addr) : Sp := fun vs H Q _ => ∃ a ss, vs = [.ref a] ∧ TX K CT CP H a ss ∧ ∀ H', Same H H' → Q (.str (mkS (fmtT ss))) H'
def sp_is_number : Sp := fun vs H Q _ => ∃ w : List Nat, vs = [.str (mkS w)] ∧ w.length ≤ 100000 ∧ ∀ H', Same H H' → Q (.bl (figB w)) H'
def okWs (ws : List (List Nat)) : Prop := ws ≠ [] ∧ ∀ w ∈ ws, 32 ∉ w ∧ 10 ∉ w
def sp_step_ofR (K : PySem.W.Frag) (CNE : Addr) : Sp := fun vs H Q E => ∃ (i : Nat) (ws : List (List Nat)), vs = [.int (i : Nat), .str (mkS (rowL ws))] ∧ okWs ws ∧ (rowL ws).length ≤ 100000 ∧ ws.length ≤ 100000 ∧ i < 1000 ∧
  (wrongR ws = none → ∀ v H', Same H H' → StepAt K H' v (stpOf ws) → Q v H') ∧ (∀ k, wrongR ws = some k → ∀ d H', Same H H' → H' d = some (.xd [("word", .int (k : Nat)), ("row", .int (i : Nat))]) → E (.ref CNE) (some d) H')
/-- the rows of a text: none of the empty text -/
def RowsOf (L : List Nat) (rows : List (List (List Nat))) : Prop := (L = [] ∧ rows = []) ∨ (L ≠ [] ∧ rows ≠ [] ∧ L = rowsL rows)
def sp_parse_textR (K : PySem.W.Frag) (CNE CIS CTL CT CP : Addr) : Sp := fun vs H Q E => ∃ (L : List Nat) (rows : List (List (List Nat))), vs = [.str (mkS L)] ∧ L.length ≤ 100000 ∧ RowsOf L rows ∧ rows.length < 1000 ∧ (∀ r ∈ rows, okWs r ∧ (rowL r).length ≤ 100000 ∧ r.length ≤ 100000) ∧
  (fwr 0 rows = none → chkT 0 0 (rows.map stpOf) = .ok → ∀ x H', Same H H' → H x = none → TX K CT CP H' x (rows.map stpOf) → Q (.ref x) H') ∧
  (∀ i k, fwr 0 rows = some (i, k) → ∀ d H', Same H H' → H' d = some (.xd [("word", .int (k : Nat)), ("row", .int (i : Nat))]) → E (.ref CNE) (some d) H') ∧
  (fwr 0 rows = none → ∀ i, chkT 0 0 (rows.map stpOf) = .bad i → ∀ d H', Same H H' → H' d = some (.xd [("index", .int (i : Nat))]) → E (.ref CIS) (some d) H') ∧
  (fwr 0 rows = none → chkT 0 0 (rows.map stpOf) = .long → ∀ H', Same H H' → E (.ref CTL) none H')
/-- a conditional expression as a test -/
def tIfT (tc ta tb : TT) : TT := fun σ H R => tc σ H fun b H1 => if b = true then ta σ H1 R else tb σ H1 R
theorem pt_ifE {X : Cx} {c a b : Expr} {tc ta tb : TT} {pos : Pos} (hc : PT X c tc) (ha : PT X a ta) (hb : PT X b tb) : PT X (.IfExp c a b pos) (tIfT tc ta tb) := by
  refine ⟨fun pins s σ H Q I h => ?_⟩
  show wpAny _ _ (do if ← isTrue c X.env (eval c X.env) then isTrue a X.env (eval a X.env) else isTrue b X.env (eval b X.env)) _ _ _
  refine wpAny_bind (thn (hc.run pins s σ H _ I h) fun d s1 ⟨H1, I1, q1⟩ => ?_)
  cases d with
  | true => exact ha.run pins s1 σ H1 Q I1 q1
  | false => exact hb.run pins s1 σ H1 Q I1 q1
theorem rd_ifT {tc ta tb : TT} {σ : St} {H : Hp} {R : Bool → Hp → Prop} (h : tc σ H fun b H1 => if b = true then ta σ H1 R else tb σ H1 R) : tIfT tc ta tb σ H R := h
def rStrA : List V → Hp → VK → Prop := fun xs H Q => (∃ a, xs = [.str a] ∧ Q (.str a) H) ∨ rStrI xs H Q
theorem cStrA {X : Cx} : CallR X (.type "str") rStrA := by
  intro pins s σ H xs us Q I rs h
  rcases h with h | h
  · exact SkE.call_str_str pins s σ H xs us Q I rs h
  · exact call_str_int pins s σ H xs us Q I rs h
def rIntT : List V → Hp → VK → Prop := fun xs H Q => ∃ a n, xs = [.str a] ∧ PySem.intText? a = some n ∧ a.length ≤ 640 ∧ Q (.int n) H
theorem cIntT {X : Cx} : CallR X (.type "int") rIntT := call_int_str
section
variable {H : Hp} {Q : VK} {E : XK} {w : List Nat} {K : PySem.W.Frag}
theorem rd_intT (h : figB w = true) (q : Q (.int (numV w : Nat)) H) : rIntT [.str (mkS w)] H Q := by
  have hh := of_decide_eq_true h
  have hd : NumText.AllDigits (mkS w).cps.toList := by
    show NumText.AllDigits (tl (mkS w))
    rw [tl_mkS]
    exact fun c hc => hh.2.2.1 c hc
  have hne : (mkS w).cps.toList ≠ [] := by
    show tl (mkS w) ≠ []
    rw [tl_mkS]
    intro z
    rw [z] at hh
    simp at hh
  have hl : (mkS w).cps.toList.length ≤ 4300 := by
    show (tl (mkS w)).length ≤ 4300
    rw [tl_mkS]; omega
  have e := intText_digits hd hne hl
  refine ⟨_, _, rfl, e, by rw [mkS_len]; omega, ?_⟩
  rw [show (mkS w).cps.toList = w from tl_mkS w]
  exact q
theorem rd_strS {a : Str} (q : Q (.str a) H) : rStrA [.str a] H Q := .inl ⟨a, rfl, q⟩
theorem rd_strN {i : Int} {n : Nat} (e : i = n) (hn : n < 10 ^ 20) (q : Q (.str (mkS (numL n))) H) : rStrA [.int i] H Q := .inr (rd_strI e hn q)
end
section
variable {σ : St} {H : Hp} {ts : List TE} {acc x : Str} {RR : Str → Hp → Prop} {n : Nat}
theorem rd_jnumB {i : Nat} (hi : σ[i]? = some (some (.int (n : Nat)))) (hn : n < 1000000000) (ha : acc.length ≤ 5000) (k : ∀ y : Str, y.length ≤ 5009 → tJs ts y σ H RR) : tJs (tFmt (tVar i) :: ts) acc σ H RR := by
  refine ⟨_, hi, .inr ⟨_, rfl, nat_small hn, _, rfl, ?_, ?_⟩⟩
  · have := nat_len hn
    rw [str_len_app, sizeLine_eq]; omega
  · refine k _ ?_
    have := nat_len hn
    rw [str_len_app]; omega
theorem rd_jlitB (ha : acc.length + x.length ≤ 100000) (k : tJs ts (acc ++ x) σ H RR) : tJs (tC (.str x) :: ts) acc σ H RR := ⟨x, rfl, by rw [str_len_app, sizeLine_eq]; omega, k⟩
theorem rd_jfin {i : Nat} {y z : Str} (hn : n < 1000000000) (hy : y.length ≤ 5009) (hz : z.length = 8) (k : ∀ y2 : Str, tJs ts y2 σ H RR) (hi : σ[i]? = some (some (.int (n : Nat))) := by rfl) : tJs (tFmt (tVar i) :: ts) (y ++ z) σ H RR := by
  refine ⟨_, hi, .inr ⟨_, rfl, nat_small hn, _, rfl, ?_, k _⟩⟩
  have := nat_len hn
  rw [str_len_app, str_len_app, sizeLine_eq]; omega
end
theorem upd_swap2 {H : Hp} {a d : Addr} {o1 o2 o3 : HO} (h : d ≠ a) : upd (upd (upd H d o1) a o2) d o3 = upd (upd H d o3) a o2 := by
  funext b
  by_cases h1 : b = d
  · subst h1; rw [upd_same, upd_ne h, upd_same]
  · by_cases h2 : b = a
    · subst h2; rw [upd_ne h1, upd_same, upd_same]
    · rw [upd_ne h1, upd_ne h2, upd_ne h1, upd_ne h2, upd_ne h1]
section
variable {K : PySem.W.Frag} {H : Hp} {Q : VK} {E : XK} {l : Addr} {ws : List (List Nat)} {w : List Nat}
theorem txV_len (ws : List (List Nat)) : (txV ws).length = ws.length := List.length_map ..
theorem txV_at {j : Nat} (h : ws[j]? = some w) : (txV ws)[j]? = some (.str (mkS w)) := by unfold txV; rw [List.getElem?_map, h]; rfl
theorem rd_tyS {x : Str} {q : Prop} (hq : q) : tyV K "str" (.str x) H ∧ q := ⟨rfl, hq⟩
theorem rd_split {sep : Str} {s : Nat} (es : tl sep = [s]) (hk : sep.cps.all (· < 256) = true) (hne : ws ≠ []) (hp : ∀ w ∈ ws, s ∉ w) (hz : (joinL [s] ws).length ≤ 1000000) (q : ∀ p H', Same H H' → H p = none → H' p = some (.lst (txV ws)) → Q (.ref p) H') :
    ∃ a b, V.str (mkS (joinL [s] ws)) = V.str a ∧ [V.str sep] = [V.str b] ∧ (b.length == 0) = false ∧ a.length + 2 ≤ sizeLine ∧ rNewStrs (Txt.split a b) H Q := by
  have hs : sep.length = 1 := by rw [len_tl, es]; rfl
  refine ⟨_, _, rfl, rfl, by rw [hs]; rfl, by rw [mkS_len, sizeLine_eq]; omega, fun p hp' => ?_⟩
  have e := join_texts sep ws
  rw [es] at e
  rw [← e, split_join es hk (fun z => hne (List.map_eq_nil_iff.mp z)) fun x hx => by
    obtain ⟨y, hy, rfl⟩ := List.mem_map.mp hx
    rw [tl_mkS]; exact hp y hy]
  refine q p _ (Same.new (Same.refl _) hp') hp' ?_
  rw [upd_same, List.map_map]
  rfl
theorem sp_tl : tl (Str.ofString " ") = [32] := by decide +kernel
theorem nl_tl : tl (Str.ofString "\n") = [10] := by decide +kernel
theorem rd_ixW {j : Nat} (h : H l = some (.lst (txV ws))) (e : ws[j]? = some w) (q : Q (.str (mkS w)) H) : rIx K (.ref l) (.int (j : Nat)) H Q := rd_ixLn (SqL.of h) (txV_at e) q
theorem inV_str (w : List Nat) : inV (.str (mkS w)) [.str (Str.ofString "write"), .str (Str.ofString "paste")] = decide (w = wWr ∨ w = wPa) := by
  have h1 : ((mkS wWr == mkS w : Bool)) = decide (w = wWr) := by
    rw [Bool.eq_iff_iff, beq_iff_eq, decide_eq_true_iff]
    exact ⟨fun z => (mk_inj47 z).symm, fun z => by rw [z]⟩
  have h2 : ((mkS wPa == mkS w : Bool)) = decide (w = wPa) := by
    rw [Bool.eq_iff_iff, beq_iff_eq, decide_eq_true_iff]
    exact ⟨fun z => (mk_inj47 z).symm, fun z => by rw [z]⟩
  show (((Str.ofString "write" == mkS w : Bool)) || (((Str.ofString "paste" == mkS w : Bool)) || false)) = _
  rw [mk_wr, mk_pa, h1, h2, Bool.or_false]
  by_cases a : w = wWr <;> by_cases b : w = wPa <;> simp [a, b]
theorem rd_notInWP {p : Addr} (h : H p = some (.tup [.str (Str.ofString "write"), .str (Str.ofString "paste")])) (q : Q (.bl (!decide (w = wWr ∨ w = wPa))) H) : rIn K true (.str (mkS w)) (.ref p) H Q :=
  ⟨p, _, rfl, .inr (SqT.of h), rfl, rfl, by rw [if_pos rfl, inV_str]; exact q⟩
theorem rd_isWord (hz : w.length ≤ 100000) (q : ∀ H', Same H H' → Q (.bl (wdB w)) H') : sp_is_word [.str (mkS w)] H Q E :=
  ⟨_, rfl, trivial, fun x e => by cases e; rw [mkS_len, sizeLine_eq]; omega, fun H' S => by rw [isWd_mk]; exact q H' S⟩
theorem rd_isNumber (hz : w.length ≤ 100000) (q : ∀ H', Same H H' → Q (.bl (figB w)) H') : sp_is_number [.str (mkS w)] H Q E := ⟨w, rfl, hz, q⟩
theorem digs_tl : (Str.ofString "0123456789").cps.toList = [48, 49, 50, 51, 52, 53, 54, 55, 56, 57] := by decide +kernel
theorem figs_all (w : List Nat) : ((List.range w.length).map fun i => decide (w[i]?.getD 0 ∈ (Str.ofString "0123456789").cps.toList)).all id = decide (∀ c ∈ w, 48 ≤ c ∧ c ≤ 57) := by
  rw [Bool.eq_iff_iff, List.all_map, List.all_eq_true, decide_eq_true_iff, digs_tl]
  have key : ∀ c : Nat, c ∈ [48, 49, 50, 51, 52, 53, 54, 55, 56, 57] ↔ 48 ≤ c ∧ c ≤ 57 := fun c => by simp only [List.mem_cons, List.not_mem_nil, or_false]; omega
  constructor
  · intro h c hc
    obtain ⟨i, hi, rfl⟩ := List.mem_iff_getElem.mp hc
    have := h i (List.mem_range.mpr hi)
    simp only [Function.comp, id, List.getElem?_eq_getElem hi, Option.getD_some, decide_eq_true_eq] at this
    exact (key _).mp this
  · intro h i hi
    have hi := List.mem_range.mp hi
    simp only [Function.comp, id, List.getElem?_eq_getElem hi, Option.getD_some, decide_eq_true_eq]
    exact (key _).mpr (h _ (List.getElem_mem hi))
theorem fig_yes (h1 : 1 ≤ w.length) (h2 : w.length ≤ 18) (h3 : ∀ c ∈ w, 48 ≤ c ∧ c ≤ 57) : figB w = decide (w = [48] ∨ w[0]? ≠ some 48) := by
  unfold figB
  by_cases a : w = [48] ∨ w[0]? ≠ some 48
  · rw [decide_eq_true a, decide_eq_true ⟨h1, h2, h3, a⟩]
  · rw [decide_eq_false a, decide_eq_false fun z => a z.2.2.2]
theorem fig_len (h : ¬ (1 ≤ w.length ∧ w.length ≤ 18)) : figB w = false := decide_eq_false fun z => h ⟨z.1, z.2.1⟩
theorem fig_no (h : ¬ ∀ c ∈ w, 48 ≤ c ∧ c ≤ 57) : figB w = false := decide_eq_false fun z => h z.2.2.1
theorem joinL_mem {s : Nat} : ∀ {ws : List (List Nat)} {w : List Nat}, w ∈ ws → w.length ≤ (joinL [s] ws).length
  | [x], w, h => by
    rw [List.mem_singleton.mp h]; exact Nat.le_refl _
  | x :: y :: r, w, h => by
    show _ ≤ (x ++ ([s] ++ joinL [s] (y :: r))).length
    rw [List.length_append, List.length_append]
    rcases List.mem_cons.mp h with rfl | h
    · omega
    · have := joinL_mem (s := s) h; omega
theorem joinL_no {s c : Nat} (hc : c ≠ s) : ∀ {ws : List (List Nat)}, (∀ w ∈ ws, c ∉ w) → c ∉ joinL [s] ws
  | [], _ => by simp [joinL]
  | [x], h => by
    show c ∉ x
    exact h x (List.mem_singleton.mpr rfl)
  | x :: y :: r, h => by
    show c ∉ x ++ ([s] ++ joinL [s] (y :: r))
    simp only [List.mem_append, List.mem_singleton, not_or]
    exact ⟨h x List.mem_cons_self, hc, joinL_no hc fun w hw => h w (List.mem_cons_of_mem _ hw)⟩
theorem wrd_len {s : Stp} {n : Nat} (h : okStep n s) (hn : n ≤ 1000000000000000000) : (rowL (wrdL s)).length ≤ 100 := by
  cases s with
  | wr w =>
    have : (tl w).length ≤ 20 := by rw [← len_tl]; exact h.2.1
    show (wWr ++ ([32] ++ tl w)).length ≤ 100
    rw [List.length_append, List.length_append]
    have e : wWr.length = 5 := rfl
    have e2 : [32].length = 1 := rfl
    omega
  | pa f l t =>
    obtain ⟨h1, h2, h3, h4⟩ := h
    have e1 := numL_len (n := f) (k := 18) (by decide) (by omega)
    have e2 := numL_len (n := l) (k := 18) (by decide) (by omega)
    have e3 := numL_len (n := t) (k := 18) (by decide) (by omega)
    show (wPa ++ ([32] ++ (numL f ++ ([32] ++ (numL l ++ ([32] ++ numL t)))))).length ≤ 100
    simp only [List.length_append]
    have e : wPa.length = 5 := rfl
    have e4 : [32].length = 1 := rfl
    omega
end
section
variable {K : PySem.W.Frag} {H : Hp} {Q : VK}
theorem stV_wrd (s : Stp) : (stV s).length = (wrdL s).length := by cases s <;> rfl
theorem stV_len4 (s : Stp) : (stV s).length ≤ 4 := by cases s <;> simp [stV]
theorem rd_strPart {s : Stp} {n j : Nat} (ok : okStep n s) (hn : n ≤ 1000000000000000000) (hj : j < (stV s).length) (q : Q (.str (mkS ((wrdL s)[j]?.getD []))) H) : rStrA [(stV s)[j]?.getD .non] H Q := by
  cases s with
  | wr w =>
    match j, hj with
    | 0, _ => exact rd_strS (a := Str.ofString "write") (by rw [mk_wr]; exact q)
    | 1, _ => exact rd_strS (a := w) (by rw [show w = mkS (tl w) from (ext_tl (tl_mkS _)).symm]; exact q)
    | j + 2, hj => exact absurd hj (by simp [stV])
  | pa f l t =>
    obtain ⟨h1, h2, h3, h4⟩ := ok
    match j, hj with
    | 0, _ => exact rd_strS (a := Str.ofString "paste") (by rw [mk_pa]; exact q)
    | 1, _ => exact rd_strN (n := f) rfl (by omega) q
    | 2, _ => exact rd_strN (n := l) rfl (by omega) q
    | 3, _ => exact rd_strN (n := t) rfl (by omega) q
    | j + 4, hj => exact absurd hj (by simp [stV])
theorem map_range_get {α β : Type} (f : Option α → β) (g : α → β) (hg : ∀ a, f (some a) = g a) (L : List α) {n : Nat} (hn : n = L.length) : (List.range n).map (fun j => f L[j]?) = L.map g := by
  subst hn
  apply List.ext_getElem?
  intro i
  rw [List.getElem?_map, List.getElem?_map]
  by_cases h : i < L.length
  · rw [List.getElem?_range h, List.getElem?_eq_getElem h]
    simp [hg, List.getElem?_eq_getElem h]
  · rw [List.getElem?_eq_none (by rw [List.length_range]; omega), List.getElem?_eq_none (by omega)]; rfl
theorem txV_words (s : Stp) : (List.range (stV s).length).map (fun j => V.str (mkS ((wrdL s)[j]?.getD []))) = txV (wrdL s) := by
  rw [stV_wrd]
  exact map_range_get (fun o => V.str (mkS (o.getD []))) (fun x => V.str (mkS x)) (fun _ => rfl) (wrdL s) rfl
theorem txV_rows {ss : List Stp} {n : Nat} (hn : n = ss.length) (d : Stp) : (List.range n).map (fun i => V.str (mkS (rowL (wrdL (ss[i]?.getD d))))) = txV (ss.map fun s => rowL (wrdL s)) := by
  rw [map_range_get (fun o => V.str (mkS (rowL (wrdL (o.getD d))))) (fun s => V.str (mkS (rowL (wrdL s)))) (fun _ => rfl) ss hn]
  unfold txV
  rw [List.map_map]; rfl
theorem wrd_sum {s : Stp} {n : Nat} (ok : okStep n s) (hn : n ≤ 1000000000000000000) : ((wrdL s).map List.length).sum ≤ 1000 := by
  cases s with
  | wr w =>
    have h : (tl w).length ≤ 20 := by rw [← len_tl]; exact ok.2.1
    show (wWr.length + ((tl w).length + 0)) ≤ 1000
    have e : wWr.length = 5 := rfl
    omega
  | pa f l t =>
    obtain ⟨h1, h2, h3, h4⟩ := ok
    have e1 := numL_len (n := f) (k := 18) (by decide) (by omega)
    have e2 := numL_len (n := l) (k := 18) (by decide) (by omega)
    have e3 := numL_len (n := t) (k := 18) (by decide) (by omega)
    show wPa.length + ((numL f).length + ((numL l).length + ((numL t).length + 0))) ≤ 1000
    have e : wPa.length = 5 := rfl
    omega
theorem fmt_sum {ss : List Stp} (ok : okFrom 0 ss) : ((ss.map fun s => rowL (wrdL s)).map List.length).sum ≤ ss.length * 100 := by
  have := sum_le_rows (L := ss.map fun s => rowL (wrdL s)) (B := 100) (fun x hx => by
    obtain ⟨s, hs, rfl⟩ := List.mem_map.mp hx
    obtain ⟨i, hi, rfl⟩ := List.mem_iff_getElem.mp hs
    have o := ok_at ok (List.getElem?_eq_getElem hi)
    exact wrd_len o.1 (by omega)) List.length 0 (fun _ => rfl)
  rw [List.length_map] at this
  omega
theorem fmt_eq (ss : List Stp) : joinL [10] (ss.map fun s => rowL (wrdL s)) = fmtT ss := by unfold fmtT rowsL; rw [List.map_map]; rfl
theorem rd_cntK {b : Bool} {σ : St} (q : Q (.int (cntK b : Nat)) H) : if b = true then tC (.int 2) σ H Q else tC (.int 4) σ H Q := by
  cases b
  · exact q
  · exact q
theorem one48 {w : List Nat} (h1 : 1 ≤ w.length) : decide (w = [48] ∨ w[0]? ≠ some 48) = (decide (mkS w = mkS [48]) || !decide ((⟨#[w[0]?.getD 0]⟩ : Str) = mkS [48])) := by
  rw [mkS_eq]
  have e : decide ((⟨#[w[0]?.getD 0]⟩ : Str) = mkS [48]) = decide (w[0]? = some 48) := by
    match w, h1 with
    | c :: r, _ =>
      have : ((⟨#[c]⟩ : Str) = mkS [48]) ↔ (c = 48) := ⟨fun z => by have := congrArg tl z; rw [tl_mkS] at this; simpa [tl] using this, fun z => by subst z; rfl⟩
      by_cases h : c = 48
      · simp [h]; rfl
      · simp only [List.getElem?_cons_zero, Option.getD_some, Option.some.injEq]
        rw [decide_eq_false h, decide_eq_false fun z => h (this.mp z)]
  rw [e]
  by_cases a : w = [48] <;> by_cases b : w[0]? = some 48 <;> simp [a, b]
end
/-- [e for a, b in ..], related answers; an error may leave at the first that is not good -/
theorem lc_pairR {K : PySem.W.Frag} {J : It} {n m : Nat} {it : Nat → List V} {H1 : Hp} {te : TE} {vs : List Nat} {σ : St} {D : Addr} {Qd : Hp → Prop} {j1 j2 : Nat} (x y : Nat → V) (P : Pairy J n it H1) (hD : H1 D = none) (hn : n ≤ sizeLine) (h2 : m = 2) (hit : ∀ i, i < n → it i = [x i, y i])
    (hj : ∀ v u, wipe (((wipe σ vs).set j1 (some v)).set j2 (some u)) vs = wipe σ vs) (good : Nat → Prop) (Rl : Nat → V → Hp → Prop) (mono : ∀ i y H H' l, H D = some (.lst l) → But D H H' → Rl i y H → Rl i y H')
    (hs : ∀ i H (Q : VK), i < n → Same H1 H → (∀ k, k < i → good k) → (good i → ∀ v H', Same H H' → Rl i v H' → Q v H') → te (((wipe σ vs).set j1 (some (x i))).set j2 (some (y i))) H Q)
    (hd : ∀ H ys, Same H1 H → H D = some (.lst ys) → ys.length = n → (∀ i, i < n → good i) → (∀ i, i < n → ∃ v, ys[i]? = some v ∧ Rl i v H) → Qd H) : LcW J (gTup K m (gCons (gName j1) (gCons (gName j2) gNil))) tYes te vs σ H1 D Qd := by
  refine ⟨fun i m H => m = n - i ∧ i ≤ n ∧ Same H1 H ∧ (∀ k, k < i → good k) ∧ ∃ ys, H D = some (.lst ys) ∧ ys.length = i ∧ ∀ k, k < i → ∃ v, ys[k]? = some v ∧ Rl k v H, ⟨_, rfl, Nat.zero_le _, Same.new (Same.refl _) hD, fun k hk => absurd hk (Nat.not_lt_zero _), [], upd_same, rfl, fun k hk => absurd hk (Nat.not_lt_zero _)⟩, ?_⟩
  rintro i m H ⟨rfl, hi, S, gd, ys, eD, hl, hr⟩
  by_cases hlt : i < n
  · refine .inr ⟨P.go i H S hlt, fun H' => i + 1 ≤ n ∧ Same H1 H' ∧ (∀ k, k < i + 1 → good k) ∧ ∃ ys, H' D = some (.lst ys) ∧ ys.length = i + 1 ∧ ∀ k, k < i + 1 → ∃ v, ys[k]? = some v ∧ Rl k v H', fun H' z => ⟨n - (i + 1), by omega, rfl, z⟩, fun z H' q => ?_⟩
    obtain ⟨T, hT, e1, e2⟩ := P.yld i H z H' S hlt q
    subst e1 e2
    rw [hit i hlt]
    refine rd_gtup (SqT.of upd_same) h2.symm (rd_gcons (rd_name (rd_gcons (rd_name (rd_gnil ⟨hj _ _, rd_yes (iteT ?_)⟩)))))
    have S1 : Same H (upd H T (.tup [x i, y i])) := Same.new (Same.refl _) hT
    refine hs i _ _ hlt (S.trans S1) gd fun gi y2 H2 S2 r => ⟨ys, S2 _ _ (S1 _ _ eD), by omega, hlt, Same.mut ((S.trans S1).trans S2) hD, fun k hk => ?_, ys ++ [y2], upd_same, by simp [hl], fun k hk => ?_⟩
    · by_cases hki : k < i
      · exact gd k hki
      · have ek : k = i := by omega
        subst ek; exact gi
    · by_cases hki : k < i
      · obtain ⟨y', h1, h2⟩ := hr k hki
        exact ⟨y', by rw [List.getElem?_append_left (by omega)]; exact h1, mono _ _ _ _ _ eD (But.at (But.same (S1.trans S2))) h2⟩
      · have ek : k = i := by omega
        subst ek
        exact ⟨y2, by rw [List.getElem?_append_right (by omega), hl]; simp, mono _ _ _ _ _ (S2 _ _ (S1 _ _ eD)) (But.at But.refl) r⟩
  · have e : i = n := by omega
    subst e
    exact .inl ⟨P.stop H S, hd H ys S eD hl gd hr⟩
theorem rd_asgIf {tt : TT} {ta tb : TE} {g : TG} {σ : St} {H : Hp} {nx ct bk : St → Hp → Prop} {rt : VK} (P : V → Hp → Prop) (h : ∀ Q' : VK, (∀ v H', P v H' → Q' v H') → tIf tt ta tb σ H Q') (k : ∀ v H', P v H' → g v σ H' nx) : tAsg (tIf tt ta tb) g ⟨nx, rt, bk, ct⟩ σ H := h _ k
theorem wrT_step {b : Bool} {ws : List (List Nat)} {i c : Nat} (hi : i < c) : wrT b ws (1 + i) (c - i) = if badAt b ws (1 + i) = true then some (1 + i) else wrT b ws (1 + (i + 1)) (c - (i + 1)) := by
  obtain ⟨d, hd⟩ : ∃ d, c - i = d + 1 := ⟨c - i - 1, by omega⟩
  rw [hd, show c - (i + 1) = d by omega]
  rfl
theorem wrong_at {ws : List (List Nat)} {k : Nat} (nW : ¬ (ws[0]? ≠ some wWr ∧ ws[0]? ≠ some wPa)) (h : wrT (isW ws) ws 1 (cntK (isW ws) - 1) = some k) : wrongR ws = some k := by
  unfold wrongR
  rw [if_neg nW, h]
theorem wrong_end {ws : List (List Nat)} (nW : ¬ (ws[0]? ≠ some wWr ∧ ws[0]? ≠ some wPa)) (h : wrT (isW ws) ws 1 (cntK (isW ws) - 1) = none) : wrongR ws = if cntK (isW ws) < ws.length then some (cntK (isW ws)) else none := by
  unfold wrongR
  rw [if_neg nW, h]
theorem okWs_rows {rows : List (List (List Nat))} (h : ∀ r ∈ rows, okWs r) : ∀ w ∈ rows.map rowL, 10 ∉ w := fun w hw => by
  obtain ⟨r, hr, rfl⟩ := List.mem_map.mp hw
  exact joinL_no (by decide) fun x hx => ((h r hr).2 x hx).2
theorem bad_none {b : Bool} {ws : List (List Nat)} {k : Nat} (h : k = ws.length) : badAt b ws k = true := by
  unfold badAt
  rw [List.getElem?_eq_none (by omega)]
theorem bad_some {b : Bool} {ws : List (List Nat)} {k : Nat} {w : List Nat} (h : ws[k]? = some w) : badAt b ws k = !(if b then wdB w else figB w) := by
  unfold badAt
  rw [h]
theorem stp_small {rows : List (List (List Nat))} (h : ∀ r ∈ rows, wrongR r = none) : ∀ w, Stp.wr w ∈ rows.map stpOf → w.length ≤ sizeLine := fun w hw => by
  obtain ⟨r, hr, e⟩ := List.mem_map.mp hw
  rcases wrong_none (h r hr) with ⟨x, rfl, hx⟩ | ⟨a, b, c, rfl, _⟩
  · simp [stpOf, isW] at e
    subst e
    have := (of_decide_eq_true hx).2.1
    rw [mkS_len, sizeLine_eq]; omega
  · have ne : wPa ≠ wWr := fun z => wr_ne_pa z.symm
    simp [stpOf, isW, ne] at e
theorem stp_wr {w : List Nat} : stpOf [wWr, w] = .wr (mkS w) := by simp [stpOf, isW]
theorem stp_pa {a b c : List Nat} : stpOf [wPa, a, b, c] = .pa (numV a) (numV b) (numV c) := by
  have ne : wPa ≠ wWr := fun z => wr_ne_pa z.symm
  simp [stpOf, isW, ne]
theorem same_back {H H1 : Hp} {a : Addr} (S : Same H H1) (h : H1 a = none) : H a = none := by
  cases e : H a with
  | none => rfl
  | some o => rw [S a o e] at h; cases h
end L2.Px
set_option Elab.async false
set_option linter.all false
set_option maxRecDepth 100000
set_option maxHeartbeats 1000000
namespace L2.Px
open PySem PySem.Spec PyProof.Rows StX TL ClX
/-- a number in groups of seven bits -/
def grpN (n : Nat) : List Nat := if n < 128 then [n] else (128 + n % 128) :: grpN (n / 128)
termination_by n
decreasing_by omega
theorem grpN_lt {n : Nat} (h : n < 128) : grpN n = [n] := by rw [grpN, if_pos h]
theorem grpN_ge {n : Nat} (h : 128 ≤ n) : grpN n = (128 + n % 128) :: grpN (n / 128) := by rw [grpN, if_neg (by omega)]
theorem grpN_255 : ∀ (n : Nat), ∀ v ∈ grpN n, v ≤ 255 := by
  intro n
  induction n using Nat.strongRecOn with
  | ind n ih =>
    intro v hv
    by_cases h : n < 128
    · rw [grpN_lt h, List.mem_singleton] at hv; omega
    · rw [grpN_ge (by omega)] at hv
      rcases List.mem_cons.mp hv with rfl | hv
      · omega
      · exact ih (n / 128) (by omega) v hv
theorem grpN_len : ∀ (k n : Nat), 0 < k → n < 128 ^ k → (grpN n).length ≤ k
  | 0, _, h, _ => absurd h (by decide)
  | k + 1, n, _, hn => by
    by_cases h : n < 128
    · rw [grpN_lt h]; simp
    · rw [grpN_ge (by omega), List.length_cons]
      rcases Nat.eq_zero_or_pos k with rfl | hk
      · simp at hn; omega
      · have := grpN_len k (n / 128) hk (by rw [Nat.pow_succ] at hn; omega)
        omega
theorem grpN_pos (n : Nat) : 1 ≤ (grpN n).length := by
  by_cases h : n < 128
  · rw [grpN_lt h]; simp
  · rw [grpN_ge (by omega)]; simp
/-- the checksum -/
def ckS (l : List Nat) : Nat := l.foldl (fun r v => (r * 7 + v) % 227) 3
theorem ckS_snoc (l : List Nat) (v : Nat) : ckS (l ++ [v]) = (ckS l * 7 + v) % 227 := by unfold ckS; rw [List.foldl_append]; rfl
theorem ckS_lt : ∀ (l : List Nat), ckS l < 227 := by
  intro l
  rcases List.eq_nil_or_concat l with rfl | ⟨m, v, rfl⟩
  · decide
  · rw [List.concat_eq_append, ckS_snoc]; omega
def encS : Stp → List Nat
  | .wr w => 0 :: (tl w).length :: (tl w).map (· - 97)
  | .pa f l t => 1 :: (grpN f ++ grpN l ++ grpN t)
def encV (ss : List Stp) : List Nat := 80 :: ss.length :: (ss.map encS).flatten
def encT (ss : List Stp) : List Nat := encV ss ++ [ckS (encV ss)]
theorem encS_255 {s : Stp} {n : Nat} (h : okStep n s) : ∀ v ∈ encS s, v ≤ 255 := by
  intro v hv
  cases s with
  | wr w =>
    have hl : (tl w).length ≤ 20 := by rw [← len_tl]; exact h.2.1
    simp only [encS, List.mem_cons, List.mem_map] at hv
    rcases hv with rfl | rfl | ⟨c, hc, rfl⟩
    · decide
    · omega
    · have := h.2.2 c hc; omega
  | pa f l t =>
    simp only [encS, List.mem_cons, List.mem_append] at hv
    rcases hv with rfl | (hv | hv) | hv
    · decide
    · exact grpN_255 _ v hv
    · exact grpN_255 _ v hv
    · exact grpN_255 _ v hv
theorem encS_len {s : Stp} {n : Nat} (h : okStep n s) (hn : n ≤ 1000000000000000000) : (encS s).length ≤ 40 := by
  cases s with
  | wr w =>
    have hl : (tl w).length ≤ 20 := by rw [← len_tl]; exact h.2.1
    show ((tl w).map (· - 97)).length + 1 + 1 ≤ 40
    rw [List.length_map]; omega
  | pa f l t =>
    obtain ⟨h1, h2, h3, h4⟩ := h
    have e1 := grpN_len 9 f (by decide) (Nat.lt_of_lt_of_le (show f < 1000000000000000000 by omega) (by decide))
    have e2 := grpN_len 9 l (by decide) (Nat.lt_of_lt_of_le (show l < 1000000000000000000 by omega) (by decide))
    have e3 := grpN_len 9 t (by decide) (Nat.lt_of_lt_of_le (show t < 1000000000000000000 by omega) (by decide))
    show (grpN f ++ grpN l ++ grpN t).length + 1 ≤ 40
    rw [List.length_append, List.length_append]; omega
theorem encF_255 : ∀ {ss : List Stp} {n : Nat}, okFrom n ss → ∀ v ∈ (ss.map encS).flatten, v ≤ 255
  | [], _, _, v, hv => by simp at hv
  | s :: r, n, ok, v, hv => by
    rw [List.map_cons, List.flatten_cons] at hv
    rcases List.mem_append.mp hv with hv | hv
    · exact encS_255 ok.1 v hv
    · exact encF_255 ok.2.2 v hv
theorem encF_len : ∀ {ss : List Stp} {n : Nat}, okFrom n ss → n ≤ 1000000000000000000 → ((ss.map encS).flatten).length ≤ ss.length * 40
  | [], _, _, _ => by simp
  | s :: r, n, ok, hn => by
    rw [List.map_cons, List.flatten_cons, List.length_append, List.length_cons]
    have := encS_len ok.1 hn
    have := encF_len ok.2.2 ok.2.1
    omega
theorem encV_255 {ss : List Stp} (ok : okFrom 0 ss) (few : ss.length ≤ 30) : ∀ v ∈ encV ss, v ≤ 255 := fun v hv => by
  rcases List.mem_cons.mp hv with rfl | hv
  · decide
  · rcases List.mem_cons.mp hv with rfl | hv
    · omega
    · exact encF_255 ok v hv
theorem encV_len {ss : List Stp} (ok : okFrom 0 ss) (few : ss.length ≤ 30) : (encV ss).length ≤ 1300 := by
  have := encF_len ok (by decide)
  show ((ss.map encS).flatten).length + 1 + 1 ≤ 1300
  omega
theorem encT_255 {ss : List Stp} (ok : okFrom 0 ss) (few : ss.length ≤ 30) : ∀ v ∈ encT ss, v ≤ 255 := fun v hv => by
  rcases List.mem_append.mp hv with hv | hv
  · exact encV_255 ok few v hv
  · rw [List.mem_singleton.mp hv]; have := ckS_lt (encV ss); omega
theorem encT_len {ss : List Stp} (ok : okFrom 0 ss) (few : ss.length ≤ 30) : (encT ss).length ≤ 1301 := by
  have := encV_len ok few
  unfold encT
  rw [List.length_append]
  simpa using this
inductive DR (α : Type) where
  | ok (v : α) (o : Nat)
  | er (k : Nat)
def DR.bind {α β : Type} : DR α → (α → Nat → DR β) → DR β
  | .ok v o, f => f v o
  | .er k, _ => .er k
theorem DR.bind_ok {α β : Type} {v : α} {o : Nat} {f : α → Nat → DR β} : (DR.ok v o).bind f = f v o := rfl
theorem DR.inv {α β : Type} {r : DR α} {f : α → Nat → DR β} {v : β} {o : Nat} (h : r.bind f = .ok v o) : ∃ x q, r = .ok x q ∧ f x q = .ok v o := by
  cases r with
  | ok x q => exact ⟨x, q, rfl, h⟩
  | er k => cases h
def tkD (b : List Nat) (o lo hi : Nat) : DR Nat := match b[o]? with
  | some v => if lo ≤ v ∧ v ≤ hi then .ok v (o + 1) else .er o
  | none => .er o
/-- the groups from a place on, o + fuel = the number of bytes -/
def nmL (b : List Nat) : Nat → Nat → Nat → Nat → DR Nat
  | 0, o, _, _ => .er o
  | n + 1, o, acc, fac => match b[o]? with
    | none => .er o
    | some v => if v = 0 ∧ 1 < fac then .er o else if v < 128 then .ok (acc + v % 128 * fac) (o + 1) else nmL b n (o + 1) (acc + v % 128 * fac) (fac * 128)
/-- a number, at least lo, less than hi -/
def nmD (b : List Nat) (o lo hi : Nat) : DR Nat := (nmL b (b.length - o) o 0 1).bind fun n o' => if lo ≤ n ∧ n < hi then .ok n o' else .er o
def ltD (b : List Nat) : Nat → Nat → List Nat → DR (List Nat)
  | 0, o, acc => .ok acc o
  | n + 1, o, acc => (tkD b o 0 25).bind fun v o' => ltD b n o' (acc ++ [97 + v])
def wrD (b : List Nat) (o : Nat) : DR Stp := (tkD b o 1 20).bind fun n o2 => (ltD b n o2 []).bind fun L o3 => .ok (.wr (mkS L)) o3
def paD (b : List Nat) (o tot : Nat) : DR Stp := (nmD b o 0 tot).bind fun f o2 => (nmD b o2 f tot).bind fun l o3 => (nmD b o3 1 1000000001).bind fun t o4 => .ok (.pa f l t) o4
/-- a step as it is read -/
def spD (b : List Nat) (o tot : Nat) : DR Stp := (tkD b o 0 1).bind fun v o1 => if v = 0 then wrD b o1 else paD b o1 tot
/-- a step, the text not too long behind it -/
def stpD (b : List Nat) (o tot : Nat) : DR Stp := (spD b o tot).bind fun s o' => if 1000000000000000000 < tot + len1 s then .er o else .ok s o'
def ssD (b : List Nat) : Nat → Nat → Nat → List Stp → DR (List Stp)
  | 0, o, _, acc => .ok acc o
  | n + 1, o, tot, acc => (stpD b o tot).bind fun s o' => ssD b n o' (tot + len1 s) (acc ++ [s])
def finD (b : List Nat) (o : Nat) : DR Unit := (tkD b o (ckS (b.take o)) (ckS (b.take o))).bind fun _ o4 => if o4 < b.length then .er o4 else .ok () o4
def decD (b : List Nat) : DR (List Stp) := (tkD b 0 80 80).bind fun _ o1 => (tkD b o1 0 30).bind fun n o2 => (ssD b n o2 0 []).bind fun ss o3 => (finD b o3).bind fun _ o4 => .ok ss o4
theorem tkD_ok {b : List Nat} {o lo hi v o' : Nat} (h : tkD b o lo hi = .ok v o') : b[o]? = some v ∧ lo ≤ v ∧ v ≤ hi ∧ o' = o + 1 ∧ o' ≤ b.length := by
  unfold tkD at h
  cases e : b[o]? with
  | none => rw [e] at h; cases h
  | some x =>
    rw [e] at h
    have hl := (List.getElem?_eq_some_iff.mp e).1
    by_cases hx : lo ≤ x ∧ x ≤ hi
    · have h : (if lo ≤ x ∧ x ≤ hi then DR.ok x (o + 1) else .er o) = .ok v o' := h
      rw [if_pos hx] at h
      cases h
      exact ⟨rfl, hx.1, hx.2, rfl, hl⟩
    · have h : (if lo ≤ x ∧ x ≤ hi then DR.ok x (o + 1) else .er o) = .ok v o' := h
      rw [if_neg hx] at h
      cases h
theorem nmL_le {b : List Nat} : ∀ (n o acc fac : Nat) {v o' : Nat}, nmL b n o acc fac = .ok v o' → o < o' ∧ o' ≤ b.length
  | 0, o, acc, fac, v, o', h => by cases h
  | n + 1, o, acc, fac, v, o', h => by
    unfold nmL at h
    cases e : b[o]? with
    | none => rw [e] at h; cases h
    | some x =>
      rw [e] at h
      have hl := (List.getElem?_eq_some_iff.mp e).1
      have h : (if x = 0 ∧ 1 < fac then DR.er o else if x < 128 then .ok (acc + x % 128 * fac) (o + 1) else nmL b n (o + 1) (acc + x % 128 * fac) (fac * 128)) = .ok v o' := h
      split at h
      · cases h
      · split at h
        · cases h; omega
        · have := nmL_le n _ _ _ h; omega
theorem nmD_ok {b : List Nat} {o lo hi v o' : Nat} (h : nmD b o lo hi = .ok v o') : lo ≤ v ∧ v < hi ∧ o < o' ∧ o' ≤ b.length := by
  obtain ⟨n, q, e, h⟩ := DR.inv h
  have hq := nmL_le _ _ _ _ e
  split at h
  · rename_i hx
    cases h
    exact ⟨hx.1, hx.2, hq.1, hq.2⟩
  · cases h
theorem ltD_ok {b : List Nat} : ∀ (n o : Nat) (acc : List Nat) {L : List Nat} {o' : Nat}, ltD b n o acc = .ok L o' → o ≤ b.length → (∀ c ∈ acc, 97 ≤ c ∧ c ≤ 122) → L.length = acc.length + n ∧ (∀ c ∈ L, 97 ≤ c ∧ c ≤ 122) ∧ o' ≤ b.length ∧ o' = o + n
  | 0, o, acc, L, o', h, ho, ha => by cases h; exact ⟨rfl, ha, ho, rfl⟩
  | n + 1, o, acc, L, o', h, ho, ha => by
    obtain ⟨v, q, e, h⟩ := DR.inv h
    obtain ⟨_, _, h2, rfl, h4⟩ := tkD_ok e
    obtain ⟨a, b', c, d⟩ := ltD_ok n (o + 1) (acc ++ [97 + v]) h h4 fun c hc => by
      rcases List.mem_append.mp hc with hc | hc
      · exact ha c hc
      · rw [List.mem_singleton.mp hc]; omega
    exact ⟨by rw [a, List.length_append]; simp; omega, b', c, by omega⟩
theorem wrD_ok {b : List Nat} {o tot o' : Nat} {s : Stp} (h : wrD b o = .ok s o') : okStep tot s ∧ o < o' ∧ o' ≤ b.length := by
  obtain ⟨n, o2, e2, h⟩ := DR.inv h
  obtain ⟨_, n1, n2, rfl, h2⟩ := tkD_ok e2
  obtain ⟨L, o3, e3, h⟩ := DR.inv h
  cases h
  obtain ⟨a, c, d, q⟩ := ltD_ok n _ [] e3 h2 (fun c hc => by cases hc)
  refine ⟨⟨?_, ?_, ?_⟩, by omega, d⟩
  · rw [mkS_len, a]; simpa using n1
  · rw [mkS_len, a]; simpa using n2
  · rw [tl_mkS]; exact c
theorem paD_ok {b : List Nat} {o tot o' : Nat} {s : Stp} (h : paD b o tot = .ok s o') : okStep tot s ∧ o < o' ∧ o' ≤ b.length := by
  obtain ⟨f, o2, e2, h⟩ := DR.inv h
  obtain ⟨l, o3, e3, h⟩ := DR.inv h
  obtain ⟨t, o4, e4, h⟩ := DR.inv h
  cases h
  have a1 := nmD_ok e2
  have a2 := nmD_ok e3
  have a3 := nmD_ok e4
  exact ⟨⟨a2.1, a2.2.1, a3.1, by omega⟩, by omega, a3.2.2.2⟩
theorem spD_ok {b : List Nat} {o tot o' : Nat} {s : Stp} (h : spD b o tot = .ok s o') : okStep tot s ∧ o < o' ∧ o' ≤ b.length := by
  obtain ⟨v, o1, e, h⟩ := DR.inv h
  obtain ⟨_, _, _, rfl, h1⟩ := tkD_ok e
  split at h
  · obtain ⟨a, c, d⟩ := wrD_ok (tot := tot) h
    exact ⟨a, by omega, d⟩
  · obtain ⟨a, c, d⟩ := paD_ok h
    exact ⟨a, by omega, d⟩
theorem stpD_ok {b : List Nat} {o tot o' : Nat} {s : Stp} (h : stpD b o tot = .ok s o') : okStep tot s ∧ tot + len1 s ≤ 1000000000000000000 ∧ o < o' ∧ o' ≤ b.length := by
  obtain ⟨t, q, e, h⟩ := DR.inv h
  split at h
  · cases h
  · cases h
    obtain ⟨a, b', c⟩ := spD_ok e
    exact ⟨a, by omega, b', c⟩
theorem at_pre {p q : List Nat} {v : Nat} : (p ++ v :: q)[p.length]? = some v := by rw [List.getElem?_append_right (Nat.le_refl _), Nat.sub_self]; rfl
theorem tkD_at {p q : List Nat} {v lo hi : Nat} (h : lo ≤ v ∧ v ≤ hi) : tkD (p ++ v :: q) p.length lo hi = .ok v (p ++ [v]).length := by
  unfold tkD
  rw [at_pre]
  show (if _ then _ else _) = _
  rw [if_pos h, List.length_append]; rfl
theorem nmL_at : ∀ (n : Nat) (p q : List Nat) (f acc fac : Nat), (grpN n).length ≤ f → (1 < fac → n ≠ 0) → nmL (p ++ (grpN n ++ q)) f p.length acc fac = .ok (acc + n * fac) (p ++ grpN n).length := by
  intro n
  induction n using Nat.strongRecOn with
  | ind n ih =>
    intro p q f acc fac hf h0
    obtain ⟨f, rfl⟩ : ∃ g, f = g + 1 := ⟨f - 1, by have := grpN_pos n; omega⟩
    by_cases h : n < 128
    · rw [grpN_lt h]
      unfold nmL
      rw [show p ++ ([n] ++ q) = p ++ n :: q from rfl, at_pre]
      show (if _ then _ else if _ then _ else _) = _
      rw [if_neg (by intro z; exact h0 z.2 z.1), if_pos h, Nat.mod_eq_of_lt h, List.length_append]; rfl
    · have hg := grpN_ge (n := n) (by omega)
      rw [hg] at hf ⊢
      unfold nmL
      rw [List.cons_append, at_pre]
      show (if _ then _ else if _ then _ else _) = _
      rw [if_neg (by omega), if_neg (by omega)]
      have e : p ++ (128 + n % 128) :: (grpN (n / 128) ++ q) = (p ++ [128 + n % 128]) ++ (grpN (n / 128) ++ q) := by simp
      have el : p.length + 1 = (p ++ [128 + n % 128]).length := by simp
      rw [e, el, ih (n / 128) (by omega) _ _ _ _ _ (by simp at hf; exact hf) (by omega)]
      congr 1
      · have e1 : (128 + n % 128) % 128 = n % 128 := by omega
        have e2 := Nat.div_add_mod n 128
        rw [e1, Nat.mul_comm fac 128, ← Nat.mul_assoc, Nat.add_assoc, ← Nat.add_mul]
        congr 2
        omega
      · simp
theorem nmD_at {n lo hi : Nat} {p q : List Nat} (h : lo ≤ n ∧ n < hi) : nmD (p ++ (grpN n ++ q)) p.length lo hi = .ok n (p ++ grpN n).length := by
  unfold nmD
  rw [nmL_at n p q _ 0 1 (by simp) (by omega), DR.bind_ok, show 0 + n * 1 = n by omega, if_pos h]
theorem ltD_at : ∀ (M : List Nat) (p q : List Nat) (acc : List Nat), (∀ c ∈ M, 97 ≤ c ∧ c ≤ 122) → ltD (p ++ (M.map (· - 97) ++ q)) M.length p.length acc = .ok (acc ++ M) (p ++ M.map (· - 97)).length
  | [], p, q, acc, _ => by simp [ltD]
  | c :: M, p, q, acc, h => by
    have hc := h c List.mem_cons_self
    rw [List.length_cons, List.map_cons, List.cons_append]
    unfold ltD
    rw [tkD_at (p := p) (q := M.map (· - 97) ++ q) (v := c - 97) (by omega), DR.bind_ok]
    have e : p ++ (c - 97) :: (M.map (· - 97) ++ q) = (p ++ [c - 97]) ++ (M.map (· - 97) ++ q) := by simp
    rw [e, ltD_at M _ q _ fun d hd => h d (List.mem_cons_of_mem _ hd)]
    congr 1
    · rw [show 97 + (c - 97) = c by omega]; simp
    · simp
theorem spD_at {s : Stp} {tot : Nat} {p q : List Nat} (h : okStep tot s) : spD (p ++ (encS s ++ q)) p.length tot = .ok s (p ++ encS s).length := by
  cases s with
  | wr w =>
    have hl : 1 ≤ (tl w).length ∧ (tl w).length ≤ 20 := by rw [← len_tl]; exact ⟨h.1, h.2.1⟩
    have b0 : p ++ (encS (.wr w) ++ q) = p ++ 0 :: ((tl w).length :: (tl w).map (· - 97) ++ q) := by simp [encS]
    have b1 : p ++ (encS (.wr w) ++ q) = (p ++ [0]) ++ (tl w).length :: ((tl w).map (· - 97) ++ q) := by simp [encS]
    have b2 : p ++ (encS (.wr w) ++ q) = (p ++ [0] ++ [(tl w).length]) ++ ((tl w).map (· - 97) ++ q) := by simp [encS]
    unfold spD
    rw [show tkD (p ++ (encS (.wr w) ++ q)) p.length 0 1 = .ok 0 (p ++ [0]).length by rw [b0]; exact tkD_at (by decide), DR.bind_ok, if_pos rfl]
    unfold wrD
    have t1 : tkD (p ++ (encS (.wr w) ++ q)) (p ++ [0]).length 1 20 = .ok (tl w).length (p ++ [0] ++ [(tl w).length]).length := by rw [b1]; exact tkD_at hl
    rw [t1, DR.bind_ok, b2, ltD_at (tl w) _ _ _ h.2.2, DR.bind_ok]
    rw [List.nil_append, show mkS (tl w) = w from ext_tl (tl_mkS _)]
    congr 1
    simp [encS]
  | pa f l t =>
    obtain ⟨h1, h2, h3, h4⟩ := h
    have b0 : p ++ (encS (.pa f l t) ++ q) = p ++ 1 :: (grpN f ++ grpN l ++ grpN t ++ q) := by simp [encS]
    have b1 : p ++ (encS (.pa f l t) ++ q) = (p ++ [1]) ++ (grpN f ++ (grpN l ++ (grpN t ++ q))) := by simp [encS]
    have b2 : p ++ (encS (.pa f l t) ++ q) = (p ++ [1] ++ grpN f) ++ (grpN l ++ (grpN t ++ q)) := by simp [encS]
    have b3 : p ++ (encS (.pa f l t) ++ q) = (p ++ [1] ++ grpN f ++ grpN l) ++ (grpN t ++ q) := by simp [encS]
    unfold spD
    rw [show tkD (p ++ (encS (.pa f l t) ++ q)) p.length 0 1 = .ok 1 (p ++ [1]).length by rw [b0]; exact tkD_at (by decide), DR.bind_ok, if_neg (by decide)]
    unfold paD
    have t1 : nmD (p ++ (encS (.pa f l t) ++ q)) (p ++ [1]).length 0 tot = .ok f (p ++ [1] ++ grpN f).length := by rw [b1]; exact nmD_at (by omega)
    rw [t1, DR.bind_ok]
    have t2 : nmD (p ++ (encS (.pa f l t) ++ q)) (p ++ [1] ++ grpN f).length f tot = .ok l (p ++ [1] ++ grpN f ++ grpN l).length := by rw [b2]; exact nmD_at (by omega)
    rw [t2, DR.bind_ok]
    have t3 : nmD (p ++ (encS (.pa f l t) ++ q)) (p ++ [1] ++ grpN f ++ grpN l).length 1 1000000001 = .ok t (p ++ [1] ++ grpN f ++ grpN l ++ grpN t).length := by rw [b3]; exact nmD_at (by omega)
    rw [t3, DR.bind_ok]
    congr 1
    simp [encS]
theorem ssD_at : ∀ (r : List Stp) (p q : List Nat) (tot : Nat) (acc : List Stp), okFrom tot r → ssD (p ++ ((r.map encS).flatten ++ q)) r.length p.length tot acc = .ok (acc ++ r) (p ++ (r.map encS).flatten).length
  | [], p, q, tot, acc, _ => by simp [ssD]
  | s :: r, p, q, tot, acc, ok => by
    rw [List.length_cons, List.map_cons, List.flatten_cons, List.append_assoc]
    unfold ssD stpD
    rw [spD_at ok.1, DR.bind_ok, if_neg (by have := ok.2.1; omega), DR.bind_ok]
    rw [show p ++ (encS s ++ ((r.map encS).flatten ++ q)) = (p ++ encS s) ++ ((r.map encS).flatten ++ q) by simp, ssD_at r _ q _ _ ok.2.2]
    congr 1 <;> simp
/-- the bytes of a text lead back -/
theorem dec_enc {ss : List Stp} (ok : okFrom 0 ss) (few : ss.length ≤ 30) : decD (encT ss) = .ok ss (encT ss).length := by
  have e0 : encT ss = [] ++ 80 :: (ss.length :: ((ss.map encS).flatten ++ [ckS (encV ss)])) := by simp [encT, encV]
  have e1 : encT ss = [80] ++ ss.length :: ((ss.map encS).flatten ++ [ckS (encV ss)]) := by simp [encT, encV]
  have e2 : encT ss = [80, ss.length] ++ ((ss.map encS).flatten ++ [ckS (encV ss)]) := by simp [encT, encV]
  have e3 : encT ss = encV ss ++ ckS (encV ss) :: [] := rfl
  have t0 : tkD (encT ss) 0 80 80 = .ok 80 1 := by rw [e0]; exact tkD_at (p := []) (by decide)
  have t1 : tkD (encT ss) 1 0 30 = .ok ss.length 2 := by rw [e1]; exact tkD_at (p := [80]) ⟨Nat.zero_le _, few⟩
  have t2 : ssD (encT ss) ss.length 2 0 [] = .ok ss (encV ss).length := by
    rw [e2]
    exact ssD_at ss [80, ss.length] _ 0 [] ok
  have t3 : (encT ss).take (encV ss).length = encV ss := by rw [e3]; exact List.take_left
  have t4 : tkD (encT ss) (encV ss).length (ckS (encV ss)) (ckS (encV ss)) = .ok (ckS (encV ss)) (encT ss).length := by
    conv => lhs; rw [e3]
    exact tkD_at ⟨Nat.le_refl _, Nat.le_refl _⟩
  unfold decD
  rw [t0, DR.bind_ok, t1, DR.bind_ok, t2, DR.bind_ok]
  unfold finD
  rw [t3, t4, DR.bind_ok, if_neg (Nat.lt_irrefl _)]
  rfl
end L2.Px
set_option Elab.async false
set_option linter.all false
set_option maxRecDepth 100000
set_option maxHeartbeats 1000000
namespace L2.Px
open PySem PySem.Spec PyProof.Rows StX TL ClX LamX
def kvM (ls : List (Nat × Nat)) : List (Key × V) := ls.map fun c => ((Sum.inl ((c.1 : Nat) : Int) : Key), V.str ⟨#[c.2]⟩)
/-- the letters are letters, the keys unlike and below n -/
structure LsOk (n : Nat) (ls : List (Nat × Nat)) : Prop where
  ok : ∀ p ∈ ls, p.1 < n ∧ 97 ≤ p.2 ∧ p.2 ≤ 122
  nd : (ls.map (·.1)).Nodup
theorem LsOk.nil {n : Nat} : LsOk n [] := ⟨fun p h => absurd h (List.not_mem_nil), List.Pairwise.nil⟩
theorem LsOk.len {n : Nat} {ls : List (Nat × Nat)} (h : LsOk n ls) : ls.length ≤ n := by
  have := nodup_len (m := List.range n) h.nd fun k hk => by
    obtain ⟨p, hp, rfl⟩ := List.mem_map.mp hk
    exact List.mem_range.mpr (h.ok p hp).1
  simpa using this
inductive Obs where
  | see (p c : Nat)
  | word (p : Nat) (w : List Nat)
  | alike (p o : Nat)
deriving DecidableEq
def obsV : Obs → List V
  | .see p c => [.str "see", .int (p : Nat), .str ⟨#[c]⟩]
  | .word p w => [.str "see_word", .int (p : Nat), .str (mkS w)]
  | .alike p o => [.str "hear_alike", .int (p : Nat), .int (o : Nat)]
def ObsAt (K : PySem.W.Frag) (H : Hp) (ms : List V) (ob : List Obs) : Prop := ms.length = ob.length ∧ ∀ (j : Nat) o, ob[j]? = some o → ∃ a, ms[j]? = some (V.ref a) ∧ SqT K H a (obsV o)
def Bt (A : List Addr) (H H' : Hp) : Prop := ∀ b o, b ∉ A → H b = some o → H' b = some o
def Kh (C : Addr) (H H' : Hp) : Prop := ∀ b o, (∀ dx fs, o ≠ .ins C dx fs) → (∀ kvs, o ≠ .dK kvs) → (∀ y L, o ≠ .lst (natV (y :: L))) → H b = some o → H' b = some o
section
variable {K : PySem.W.Frag} {CT CP CE CK C : Addr} {T : List (Addr × Str)} {A B : List Addr} {H H' H1 : Hp} {a b x h d t l r e : Addr} {o : HO} {v : V} {xs ms ps : List V} {s : Stp} {ss : List Stp} {n y : Nat} {ob : List Obs} {os : List Op} {ds us : List Ent}
theorem Bt.refl : Bt A H H := fun _ _ _ h => h
theorem Bt.trans (e : Bt A H H1) (g : Bt A H1 H') : Bt A H H' := fun b o hb h => g b o hb (e b o hb h)
theorem Bt.same (S : Same H H') : Bt A H H' := fun b o _ h => S b o h
theorem Bt.but (e : But x H H') (hx : x ∈ A) : Bt A H H' := fun b o hb h => e b o (fun z => hb (z ▸ hx)) h
/-- what is new is changed -/
theorem Bt.fresh (S : Same H H1) (e : Bt A H1 H') (n : ∀ a ∈ A, H a = none) : Same H H' := fun b o q => e b o (fun z => by rw [n b z] at q; cases q) (S b o q)
theorem Kh.refl : Kh C H H := fun _ _ _ _ _ h => h
theorem Kh.trans (e : Kh C H H1) (g : Kh C H1 H') : Kh C H H' := fun b o h1 h2 h3 h => g b o h1 h2 h3 (e b o h1 h2 h3 h)
theorem Kh.same (S : Same H H') : Kh C H H' := fun b o _ _ _ h => S b o h
theorem nn_refs (h : ∀ v ∈ xs, isRef v = true) : ∀ y L, HO.lst xs ≠ .lst (natV (y :: L)) := by
  intro y L e
  cases e
  have := h (.int (y : Nat)) (by unfold natV; exact List.mem_cons_self)
  cases this
theorem Kh.tup (e : Kh C H H') (h : SqT K H a xs) : SqT K H' a xs := by
  rcases h with (h | ⟨o, h⟩) | h
  · exact .inl (.inl (e _ _ (fun _ _ z => nomatch z) (fun _ z => nomatch z) (fun _ _ z => nomatch z) h))
  · exact .inl (.inr ⟨o, e _ _ (fun _ _ z => nomatch z) (fun _ z => nomatch z) (fun _ _ z => nomatch z) h⟩)
  · exact .inr h
theorem Kh.tu (e : Kh C H H') (h : H a = some (.tup xs)) : H' a = some (.tup xs) := e _ _ (fun _ _ z => nomatch z) (fun _ z => nomatch z) (fun _ _ z => nomatch z) h
theorem Kh.li (e : Kh C H H') (n : ∀ v ∈ xs, isRef v = true) (h : H a = some (.lst xs)) : H' a = some (.lst xs) := e _ _ (fun _ _ z => nomatch z) (fun _ z => nomatch z) (nn_refs n) h
theorem Kh.lst (e : Kh C H H') (n : ∀ v ∈ xs, isRef v = true) (h : SqL K H a xs) : SqL K H' a xs := by
  rcases h with (h | ⟨o, h⟩) | h
  · exact .inl (.inl (e.li n h))
  · exact .inl (.inr ⟨o, e _ _ (fun _ _ z => nomatch z) (fun _ z => nomatch z) (fun _ _ z => nomatch z) h⟩)
  · exact .inr h
theorem Kh.tabs (e : Kh C H H') (t : Tabs T H) : Tabs T H' := by
  intro p hp
  obtain ⟨ps, h1, h2, h3⟩ := t p hp
  refine ⟨ps, e _ _ (fun _ _ z => nomatch z) (fun _ z => nomatch z) (fun _ _ z => nomatch z) h1, h2, fun pos cv hc => ?_⟩
  obtain ⟨c, h4, h5⟩ := h3 pos cv hc
  exact ⟨c, h4, e _ _ (fun _ _ z => nomatch z) (fun _ z => nomatch z) (fun _ _ z => nomatch z) h5⟩
theorem StepsAt.kh (h : StepsAt K H ms ss) (e : Kh C H H') : StepsAt K H' ms ss := ⟨h.1, fun j s q => let ⟨v, a, b, c, z⟩ := h.2 j s q; ⟨v, a, b, c, e.tup z⟩⟩
theorem PartAt.kh (hn : CP ≠ C) (h : PartAt CP H v n y s) (e : Kh C H H') : PartAt CP H' v n y s := by
  cases s with
  | wr w => obtain ⟨p, dx, ev, q⟩ := h; exact ⟨p, dx, ev, e _ _ (ins_ne hn) (fun _ z => nomatch z) (fun _ _ z => nomatch z) q⟩
  | pa f l t => obtain ⟨p, dx, ev, q⟩ := h; exact ⟨p, dx, ev, e _ _ (ins_ne hn) (fun _ z => nomatch z) (fun _ _ z => nomatch z) q⟩
theorem PartsAt.kh (hn : CP ≠ C) (h : PartsAt CP H ps ss) (e : Kh C H H') : PartsAt CP H' ps ss := ⟨h.1, fun j s q => let ⟨v, a, b⟩ := h.2 j s q; ⟨v, a, b.kh hn e⟩⟩
theorem TX.kh (h : TX K CT CP H a ss) (hT : CT ≠ C) (hP : CP ≠ C) (e : Kh C H H') : TX K CT CP H' a ss :=
  let ⟨t, x, y⟩ := h; ⟨t, ⟨e _ _ (ins_ne hT) (fun _ z => nomatch z) (fun _ _ z => nomatch z) x.ins, e.tup x.made, x.stp.kh e, e.li x.prt.refs x.pls, x.prt.kh hP e, x.ok, x.few⟩, y⟩
theorem TS'.kh (h : TS' K H a ss) (e : Kh C H H') : TS' K H' a ss := let ⟨ms, x, y⟩ := h; ⟨ms, e.tup x, y.kh e⟩
theorem OpAt.kh {o : Op} (h : OpAt K H v o) (e : Kh C H H') : OpAt K H' v o := let ⟨a, b, c⟩ := h; ⟨a, b, e.tup c⟩
theorem OpsAt.kh (h : OpsAt K H ms os) (e : Kh C H H') : OpsAt K H' ms os := ⟨h.1, fun j s q => let ⟨v, a, b⟩ := h.2 j s q; ⟨v, a, b.kh e⟩⟩
theorem EntsAt.kh {es : List Ent} (hT : CT ≠ C) (hP : CP ≠ C) (h : EntsAt K CT CP H ms es) (k : Kh C H H') : EntsAt K CT CP H' ms es :=
  ⟨h.1, fun j s q => let ⟨v, a, t, o, b, c, ev, q0, h1, h2, h3⟩ := h.2 j s q; ⟨v, a, t, o, b, c, ev, k.tup q0, h1.kh k, h2.kh hT hP k, h3.kh hT hP k⟩⟩
theorem EdAt.kh (hT : CT ≠ C) (hP : CP ≠ C) (hE : CE ≠ C) (h : EdAt K CT CP CE H e ss ds us) (k : Kh C H H') : EdAt K CT CP CE H' e ss ds us := by
  obtain ⟨i, a, b⟩ := h
  exact ⟨i, ⟨k _ _ (ins_ne hE) (fun _ z => nomatch z) (fun _ _ z => nomatch z) a.ins, a.tx.kh hT hP k, k.tup a.dn, a.de.kh hT hP k, k.tup a.un, a.ue.kh hT hP k⟩, b⟩
theorem ObsAt.kh (h : ObsAt K H ms ob) (e : Kh C H H') : ObsAt K H' ms ob := ⟨h.1, fun j s q => let ⟨a, b, c⟩ := h.2 j s q; ⟨a, b, e.tup c⟩⟩
theorem ObsAt.kl (h : ObsAt K H ms ob) (e : Kl T H H') : ObsAt K H' ms ob := ⟨h.1, fun j s q => let ⟨a, b, c⟩ := h.2 j s q; ⟨a, b, e.tup c⟩⟩
theorem ObsAt.mono (h : ObsAt K H ms ob) (e : Same H H') : ObsAt K H' ms ob := ⟨h.1, fun j s q => let ⟨a, b, c⟩ := h.2 j s q; ⟨a, b, Same.tup e c⟩⟩
theorem ObsAt.nil : ObsAt K H [] [] := ⟨rfl, fun _ _ h => by simp at h⟩
theorem ObsAt.snoc {o : Obs} (h : ObsAt K H ms ob) (q : SqT K H a (obsV o)) : ObsAt K H (ms ++ [.ref a]) (ob ++ [o]) := by
  refine ⟨by simp [h.1], fun j s hj => ?_⟩
  rcases Nat.lt_or_ge j ob.length with z | z
  · rw [List.getElem?_append_left z] at hj
    obtain ⟨v', a, b⟩ := h.2 j s hj
    exact ⟨v', by rw [List.getElem?_append_left (by rw [h.1]; exact z)]; exact a, b⟩
  · have e : j = ob.length := by
      have := (List.getElem?_eq_some_iff.mp hj).1
      rw [List.length_append, List.length_singleton] at this; omega
    subst e
    rw [List.getElem?_append_right (Nat.le_refl _), Nat.sub_self] at hj
    cases hj
    exact ⟨a, by rw [← h.1, List.getElem?_append_right (Nat.le_refl _), Nat.sub_self]; rfl, q⟩
end
def rdF (t h d s : V) : List (Str × V) := [("source_text", t), ("heads", h), ("letters", d), ("seen", s)]
section
variable {t h d s v : V} {f : Str}
theorem rdF_no (h' : f ≠ "source_text" ∧ f ≠ "heads" ∧ f ≠ "letters" ∧ f ≠ "seen") : (rdF t h d s).lookup f = none := by
  unfold rdF
  simp only [List.lookup_cons, beq_false_of_ne h'.1, beq_false_of_ne h'.2.1, beq_false_of_ne h'.2.2.1, beq_false_of_ne h'.2.2.2, List.lookup_nil]
end
structure RdI where
  dx : Addr
  t : Addr
  s : Addr
  sm : List V
  hs : List Nat
/-- the reader at x, its heads at h, its dict at d: its text, the roots, the letters of roots, the observations -/
structure RdAt (K : PySem.W.Frag) (CT CP CK : Addr) (H : Hp) (x h d : Addr) (ss : List Stp) (f : Nat → Nat) (ls : List (Nat × Nat)) (ob : List Obs) (i : RdI) : Prop where
  ins : H x = some (.ins CK i.dx (rdF (.ref i.t) (.ref h) (.ref d) (.ref i.s)))
  tx : TX K CT CP H i.t ss
  hl : H h = some (.lst (natV i.hs))
  dl : H d = some (.dK (kvM ls))
  sn : SqT K H i.s i.sm
  obs : ObsAt K H i.sm ob
  rt : Rt i.hs f
  len : i.hs.length = (tyL ss).length
  lok : LsOk (tyL ss).length ls
def Reader (K : PySem.W.Frag) (CT CP CK : Addr) (H : Hp) (x h d : Addr) (ss : List Stp) (f : Nat → Nat) (ls : List (Nat × Nat)) (ob : List Obs) : Prop := ∃ i, RdAt K CT CP CK H x h d ss f ls ob i
section
variable {K : PySem.W.Frag} {CT CP CE CK : Addr} {H H' : Hp} {x h d l p : Addr} {ss : List Stp} {f : Nat → Nat} {ls : List (Nat × Nat)} {ob : List Obs} {i : RdI} {Q : VK} {E : XK}
theorem RdAt.same (r : RdAt K CT CP CK H x h d ss f ls ob i) (S : Same H H') : RdAt K CT CP CK H' x h d ss f ls ob i :=
  ⟨S _ _ r.ins, r.tx.kp (.same S), S _ _ r.hl, S _ _ r.dl, Same.tup S r.sn, r.obs.kh (C := x) (.same S), r.rt, r.len, r.lok⟩
theorem Reader.same (r : Reader K CT CP CK H x h d ss f ls ob) (S : Same H H') : Reader K CT CP CK H' x h d ss f ls ob := let ⟨i, a⟩ := r; ⟨i, a.same S⟩
theorem Reader.kl {T : List (Addr × Str)} (r : Reader K CT CP CK H x h d ss f ls ob) (k : Kl T H H') : Reader K CT CP CK H' x h d ss f ls ob := let ⟨i, a⟩ := r
  ⟨i, k.keep _ _ nr_ins (fun _ z => nomatch z) a.ins, a.tx.kl k, k.keep _ _ nr_natV (fun _ z => nomatch z) a.hl, k.keep _ _ id (fun _ z => nomatch z) a.dl, k.tup a.sn, a.obs.kl k, a.rt, a.len, a.lok⟩
theorem Reader.kp (r : Reader K CT CP CK H x h d ss f ls ob) (k : Kp H H') : Reader K CT CP CK H' x h d ss f ls ob := r.kl (T := []) (.kp k)
/-- an editor changes -/
theorem Reader.km {T : List (Addr × Str)} (hT : CT ≠ CE) (hP : CP ≠ CE) (hK : CK ≠ CE) (r : Reader K CT CP CK H x h d ss f ls ob) (k : Km CE T H H') : Reader K CT CP CK H' x h d ss f ls ob := let ⟨i, a⟩ := r
  ⟨i, k.keep _ _ nr_ins (fun _ z => nomatch z) (ins_ne hK) a.ins, a.tx.km hT hP k, k.li nr_natV a.hl, k.keep _ _ id (fun _ z => nomatch z) (fun _ _ z => nomatch z) a.dl, k.tup a.sn, ⟨a.obs.1, fun j o q => let ⟨b, e, g⟩ := a.obs.2 j o q; ⟨b, e, k.tup g⟩⟩, a.rt, a.len, a.lok⟩
theorem Reader.insM {m : Str} (r : Reader K CT CP CK H x h d ss f ls ob) (hm : m ≠ "source_text" ∧ m ≠ "heads" ∧ m ≠ "letters" ∧ m ≠ "seen" := by decide +kernel) : InsM H x CK m := let ⟨_, a⟩ := r; ⟨_, _, a.ins, rdF_no hm⟩
theorem Reader.insA (r : Reader K CT CP CK H x h d ss f ls ob) : InsA H x CK := let ⟨_, a⟩ := r; ⟨_, _, a.ins⟩
/-- the reader changes: texts, rows, tables, editors stay -/
theorem Reader.kh (r : Reader K CT CP CK H x h d ss f ls ob) (h0 : 0 < (tyL ss).length) (e : Bt [x, h, d] H H') : Kh CK H H' := by
  obtain ⟨i, a⟩ := r
  refine fun b o h1 h2 h3 q => e b o ?_ q
  intro hb
  simp only [List.mem_cons, List.not_mem_nil, or_false] at hb
  rcases hb with rfl | rfl | rfl
  · rw [a.ins] at q; cases q; exact h1 _ _ rfl
  · rw [a.hl] at q
    cases q
    have hl := a.len
    cases hh : i.hs with
    | nil => rw [hh] at hl; simp at hl; omega
    | cons y L => exact h3 y L (by rw [hh])
  · rw [a.dl] at q; cases q; exact h2 _ rfl
variable (K CT CP CK)
end
end L2.Px
set_option Elab.async false
set_option linter.all false
set_option maxRecDepth 100000
set_option maxHeartbeats 4000000
namespace L2.Px
open PySem PySem.Spec PyProof.Rows
end L2.Px
set_option Elab.async false
set_option linter.all false
set_option maxRecDepth 100000
set_option maxHeartbeats 2000000
namespace L2.Px
open PySem PySem.Spec PyProof.Rows StX TL
end L2.Px
namespace L2.Px
open PySem PySem.Spec PyProof.Rows StX TL
end L2.Px
set_option Elab.async false
set_option linter.all false
set_option maxRecDepth 100000
set_option maxHeartbeats 1000000
namespace L2.Px
open PySem PySem.Spec PyProof.Rows StX TL ClX LamX
section
variable {K : PySem.W.Frag} {CT CP CE CK C : Addr} {H H' : Hp} {x h d l p : Addr} {ss : List Stp} {f : Nat → Nat} {ls : List (Nat × Nat)} {ob : List Obs} {i : RdI} {Q : VK} {E : XK} {m : Str} {P : Prop} {k c : Nat} {L : List Nat}
theorem RdAt.ok (r : RdAt K CT CP CK H x h d ss f ls ob i) : (tyL ss).length ≤ 600 := by
  have h1 := tyL_small r.tx.ok
  have h2 := r.tx.few
  omega
end
end L2.Px
set_option Elab.async false
set_option linter.all false
set_option maxRecDepth 100000
set_option maxHeartbeats 1000000
namespace L2.Px
open PySem PySem.Spec PyProof.Rows StX TL ClX LamX
theorem ip_mul {X : Cx} : PIp X .Mult (rI CMul fun i j => .int (i * j)) := iop_mul
end L2.Px
set_option Elab.async false
set_option linter.all false
set_option maxRecDepth 100000
set_option maxHeartbeats 1000000
namespace L2.Px
open PySem PySem.Spec PyProof.Rows StX TL ClX
def byA (L : List Nat) : Array UInt8 := byteArr (L.map fun n : Nat => (n : Int))
/-- the bytes of values -/
def byV (L : List Nat) : V := .byt (byA L)
def Byt (L : List Nat) : Prop := L.length ≤ 100000 ∧ ∀ v ∈ L, v ≤ 255
theorem byA_size (L : List Nat) : (byA L).size = L.length := by unfold byA; rw [byteArr_size, List.length_map]
theorem byt_B8 {L : List Nat} (h : ∀ v ∈ L, v ≤ 255) : B8 (L.map fun n : Nat => (n : Int)) := fun n hn => by
  obtain ⟨v, hv, rfl⟩ := List.mem_map.mp hn
  have := h v hv
  omega
theorem ip_fdiv {X : Cx} : PIp X .FloorDiv (rI CDiv fun i j => .int (i / j)) := iop_fdiv
def rBytesL (K : PySem.W.Frag) : List V → Hp → VK → Prop := fun xs H Q => ∃ p ns, xs = [.ref p] ∧ SqL K H p (ns.map V.int) ∧ B8 ns ∧ Q (.byt (byteArr ns)) H
theorem bytesK {X : Cx} {K : PySem.W.Frag} (hk : X.K = K) (hc : X.calm = true) : CallR X (.type "bytes") (rBytesL K) := hk ▸ call_bytes_list hc
def rListB : List V → Hp → VK → Prop := r1 kLstB
theorem listB {X : Cx} (hc : X.calm = true) : CallR X (.type "list") rListB := call_r1 (rl_listB hc)
def rItB : R2 := fun x y H Q => ∃ (z : List UInt8) (i : Int), x = .byt z.toArray ∧ y = .int i ∧ z.length ≤ sizeLine ∧ 0 ≤ i ∧ i < z.length ∧ Q (.int ((z.getD i.toNat 0).toNat : Nat)) H
theorem pe_itemB {X : Cx} {a b : Expr} {pos : Pos} {ta tb : TE} (ha : PE X a ta) (hb : PE X b tb) (hs : PlainIxT b) : PE X (.Subscript a b pos) (tOp rItB ta tb) := pe_item_byt ha hb hs
def rSIndex : V → List V → Hp → VK → Prop := fun x xs H Q => ∃ a b i rest, x = .str a ∧ xs = [.str b] ∧ Builtin.Str.occurrences a b 0 a.length 1 = i :: rest ∧ Q (.int (i : Nat)) H
theorem mt_sindexA {X : Cx} : MtR X "str.index" rSIndex := mt_sindex
theorem occ_low : ∀ j, j < 26 → Builtin.Str.occurrences (Str.ofString "abcdefghijklmnopqrstuvwxyz") ⟨#[97 + j]⟩ 0 (Str.ofString "abcdefghijklmnopqrstuvwxyz").length 1 = [j] := by decide +kernel
def dcF (b : List Nat) (o t : Nat) : List (Str × V) := putF "total" (.int (t : Nat)) (putF "offset" (.int (o : Nat)) (putF "data" (byV b) []))
theorem dcF_lookD {b : List Nat} {o t : Nat} : (dcF b o t).lookup ("data" : Str) = some (byV b) := by rfl
theorem dcF_lookO {b : List Nat} {o t : Nat} : (dcF b o t).lookup ("offset" : Str) = some (.int (o : Nat)) := by rfl
theorem dcF_lookT {b : List Nat} {o t : Nat} : (dcF b o t).lookup ("total" : Str) = some (.int (t : Nat)) := by rfl
theorem dcF_len {b : List Nat} {o t : Nat} : (dcF b o t).length < 1000 := Nat.lt_of_le_of_lt (putF_len (k := 2) (putF_len (k := 1) (putF_len (k := 0) (by decide)))) (by decide)
theorem dcF_o {b : List Nat} {o t o' : Nat} : putF "offset" (.int (o' : Nat)) (dcF b o t) = dcF b o' t := by rfl
theorem dcF_t {b : List Nat} {o t t' : Nat} : putF "total" (.int (t' : Nat)) (dcF b o t) = dcF b o t' := by rfl
/-- the decoder at x: its bytes, how many are read, the size of the text so far -/
def DcAt (CD : Addr) (H : Hp) (x : Addr) (b : List Nat) (o t : Nat) : Prop := ∃ dx, H x = some (.ins CD dx (dcF b o t))
section
variable (K : PySem.W.Frag) (CDE CIC CD CT CP : Addr)
/-- what is answered, or raised at which byte -/
def Rd8 {α : Type} (H : Hp) (x : Addr) (r : DR α) (E : XK) (k : α → Nat → Hp → Prop) : Prop := match r with
  | .ok v o => ∀ H', But x H H' → k v o H'
  | .er o => ∀ d H', But x H H' → H' d = some (.xd [("offset", .int (o : Nat))]) → E (.ref CDE) (some d) H'
def sp_checksum_of : Sp := fun vs H Q _ => ∃ l L, vs = [.ref l] ∧ H l = some (.lst (natV L)) ∧ ∀ H', Same H H' → Q (.int (ckS L : Nat)) H'
def sp_number_values : Sp := fun vs H Q _ => ∃ n : Nat, vs = [.int (n : Nat)] ∧ n ≤ 1000000000000000000 ∧ ∀ l H', Same H H' → H l = none → H' l = some (.lst (natV (grpN n))) → Q (.ref l) H'
def sp_encode_text : Sp := fun vs H Q _ => ∃ a ss, vs = [.ref a] ∧ TX K CT CP H a ss ∧ ∀ H', Same H H' → Q (byV (encT ss)) H'
def sp_unpack_bytes : Sp := fun vs H Q _ => ∃ b, vs = [byV b] ∧ Byt b ∧ ∀ l H', Same H H' → H l = none → H' l = some (.lst (natV b)) → Q (.ref l) H'
/-- what pack_bytes refuses -/
def BadPk (H : Hp) (v : V) : Prop := v = .non ∨ (∃ a xs, v = .ref a ∧ SqT K H a xs) ∨ ∃ a xs, v = .ref a ∧ H a = some (.lst xs) ∧ xs.length ≤ 1000 ∧ (∀ x ∈ xs, NoSeq x) ∧ ∃ x ∈ xs, isInt 0 255 x = false
def sp_pack_bytesR : Sp := fun vs H Q E => ∃ v, vs = [v] ∧ ((∃ l L, v = .ref l ∧ H l = some (.lst (natV L)) ∧ Byt L ∧ ∀ H', Same H H' → Q (byV L) H') ∨ (BadPk K H v ∧ ∀ H', Same H H' → E (.ref CIC) none H'))
def sp_Decoder_init : Sp := fun vs H Q _ => ∃ x dx b, vs = [.ref x, byV b] ∧ H x = some (.ins CD dx []) ∧ ∀ H', But x H H' → DcAt CD H' x b 0 0 → Q .non H'
def sp_Decoder_takeR : Sp := fun vs H Q E => ∃ (x : Addr) (b : List Nat) (o t lo hi : Nat), vs = [.ref x, .int (lo : Nat), .int (hi : Nat)] ∧ DcAt CD H x b o t ∧ Byt b ∧ o ≤ b.length ∧ Rd8 CDE H x (tkD b o lo hi) E fun v o' H' => DcAt CD H' x b o' t → Q (.int (v : Nat)) H'
def sp_Decoder_take_numberR : Sp := fun vs H Q E => ∃ (x : Addr) (b : List Nat) (o t lo hi : Nat), vs = [.ref x, .int (lo : Nat), .int ((hi : Nat) - 1)] ∧ DcAt CD H x b o t ∧ Byt b ∧ o ≤ b.length ∧ Rd8 CDE H x (nmD b o lo hi) E fun v o' H' => DcAt CD H' x b o' t → Q (.int (v : Nat)) H'
def sp_Decoder_take_stepR : Sp := fun vs H Q E => ∃ (x : Addr) (b : List Nat) (o t : Nat), vs = [.ref x] ∧ DcAt CD H x b o t ∧ Byt b ∧ o ≤ b.length ∧ t ≤ 1000000000000000000 ∧ Rd8 CDE H x (stpD b o t) E fun s o' H' => ∀ v, DcAt CD H' x b o' (t + len1 s) → StepAt K H' v s → Q v H'
def sp_Decoder_finishR : Sp := fun vs H Q E => ∃ (x : Addr) (b : List Nat) (o t : Nat), vs = [.ref x] ∧ DcAt CD H x b o t ∧ Byt b ∧ o ≤ b.length ∧ Rd8 CDE H x (finD b o) E fun _ _ H' => Q .non H'
def sp_decode_textR : Sp := fun vs H Q E => ∃ b : List Nat, vs = [byV b] ∧ Byt b ∧ (∀ ss o, decD b = .ok ss o → ∀ y H', Same H H' → H y = none → TX K CT CP H' y ss → Q (.ref y) H') ∧
  (∀ k, decD b = .er k → ∀ d H', Same H H' → H' d = some (.xd [("offset", .int (k : Nat))]) → E (.ref CDE) (some d) H')
end
section
variable {K : PySem.W.Frag} {CDE CIC CD CT CP : Addr} {H H' H1 : Hp} {Q : VK} {E : XK} {x l p a : Addr} {b L : List Nat} {o t : Nat} {ss : List Stp}
theorem rd_bytesN (h : H l = some (.lst (natV L))) (h8 : ∀ v ∈ L, v ≤ 255) (q : Q (byV L) H) : rBytesL K [.ref l] H Q := ⟨l, _, rfl, SqL.of (by rw [h, natV_ints]), byt_B8 h8, q⟩
theorem rd_listBy (h8 : Byt L) (q : ∀ p H', Same H H' → H p = none → H' p = some (.lst (natV L)) → Q (.ref p) H') : rListB [byV L] H Q := by
  show kLstB (byV L) H Q
  refine ⟨byA L, rfl, by rw [byA_size, sizeLine_eq]; have := h8.1; omega, fun p hp => q p _ (Same.new (Same.refl _) hp) hp ?_⟩
  rw [upd_same, natV_ints, show bi (byA L) = L.map fun n : Nat => (n : Int) from bInts_of (byt_B8 h8.2)]
theorem rd_itB {i : Int} {v : Nat} (h8 : Byt L) (h : L[i.toNat]? = some v) (h0 : 0 ≤ i) (q : Q (.int (v : Nat)) H) : rItB (byV L) (.int i) H Q := by
  have hl := (List.getElem?_eq_some_iff.mp h).1
  refine ⟨(L.map fun n : Nat => (n : Int)).map fun n => n.toNat.toUInt8, i, rfl, rfl, by rw [List.length_map, List.length_map, sizeLine_eq]; have := h8.1; omega, h0, by rw [List.length_map, List.length_map]; omega, ?_⟩
  have e := byte_at (ns := L.map fun n : Nat => (n : Int)) (j := i.toNat) (n := (v : Nat)) (byt_B8 h8.2) (by rw [List.getElem?_map, h]; rfl)
  rw [e]; exact q
theorem rd_lenBy (h8 : Byt L) (q : Q (.int (L.length : Nat)) H) : rLenA K [byV L] H Q := ⟨_, _, rfl, ⟨by rw [byA_size, sizeLine_eq]; have := h8.1; omega, (byA_size L).symm ▸ rfl⟩, q⟩
theorem rd_slByTo {j : Nat} (h8 : Byt L) (hj : j ≤ L.length) (q : Q (byV (L.take j)) H) : rSlB (byV L) none (some (j : Nat)) H Q := by
  refine ⟨_, rfl, by rw [byA_size]; have := h8.1; omega, ?_⟩
  have e : PySem.W.KBy.picked (byA L) none (some (j : Nat)) = byA (L.take j) := by
    unfold byA byteArr
    rw [pk_to (by simpa using hj), List.map_take, List.map_take]
  rw [e]; exact q
theorem rd_sindexLow {c : Nat} (h1 : 97 ≤ c) (h2 : c ≤ 122) (q : Q (.int ((c - 97 : Nat) : Nat)) H) : rSIndex (.str "abcdefghijklmnopqrstuvwxyz") [.str ⟨#[c]⟩] H Q := by
  have := occ_low (c - 97) (by omega)
  rw [show 97 + (c - 97) = c by omega] at this
  exact ⟨_, _, _, _, rfl, rfl, this, q⟩
theorem Byt.take (h : Byt L) (j : Nat) : Byt (L.take j) := ⟨by rw [List.length_take]; have := h.1; omega, fun v hv => h.2 v (List.mem_of_mem_take hv)⟩
theorem DcAt.same (h : DcAt CD H x b o t) (S : Same H H') : DcAt CD H' x b o t := let ⟨dx, e⟩ := h; ⟨dx, S _ _ e⟩
theorem rd_checksum (h : H l = some (.lst (natV L))) (q : ∀ H', Same H H' → Q (.int (ckS L : Nat)) H') : sp_checksum_of [.ref l] H Q E := ⟨l, L, rfl, h, q⟩
theorem rd_numVals {n : Nat} (hn : n ≤ 1000000000000000000) (q : ∀ l H', Same H H' → H l = none → H' l = some (.lst (natV (grpN n))) → Q (.ref l) H') : sp_number_values [.int (n : Nat)] H Q E := ⟨n, rfl, hn, q⟩
theorem rd_take {i j : Int} {lo hi : Nat} (h : DcAt CD H x b o t) (h8 : Byt b) (ho : o ≤ b.length) (ei : i = lo) (ej : j = hi) (q : Rd8 CDE H x (tkD b o lo hi) E fun v o' H' => DcAt CD H' x b o' t → Q (.int (v : Nat)) H') : sp_Decoder_takeR CDE CD [.ref x, .int i, .int j] H Q E := by
  subst ei ej
  exact ⟨x, b, o, t, lo, hi, rfl, h, h8, ho, q⟩
theorem rd_takeN {i j : Int} {lo hi : Nat} (h : DcAt CD H x b o t) (h8 : Byt b) (ho : o ≤ b.length) (ei : i = lo) (ej : j = (hi : Nat) - 1) (q : Rd8 CDE H x (nmD b o lo hi) E fun v o' H' => DcAt CD H' x b o' t → Q (.int (v : Nat)) H') : sp_Decoder_take_numberR CDE CD [.ref x, .int i, .int j] H Q E := by
  subst ei ej
  exact ⟨x, b, o, t, lo, hi, rfl, h, h8, ho, q⟩
/-- first one thing is read, then what follows -/
theorem Rd8.step {α β : Type} {r : DR α} {f : α → Nat → DR β} {k : β → Nat → Hp → Prop} {m : α → Nat → Hp → Prop} (h : Rd8 CDE H x (r.bind f) E k) (g : ∀ v o H', r = .ok v o → But x H H' → Rd8 CDE H' x (f v o) E k → m v o H') : Rd8 CDE H x r E m := by
  cases r with
  | ok v o =>
    refine fun H' B => g v o H' rfl B ?_
    have h : Rd8 CDE H x (f v o) E k := h
    cases e : f v o with
    | ok w q => rw [e] at h; exact fun H2 B2 => h H2 (B.trans B2)
    | er q => rw [e] at h; exact fun d H2 B2 hd => h d H2 (B.trans B2) hd
  | er o => exact h
theorem Rd8.but {α : Type} {r : DR α} {k : α → Nat → Hp → Prop} (h : Rd8 CDE H x r E k) (B : But x H H') : Rd8 CDE H' x r E k := by
  cases r with
  | ok w q => exact fun H2 B2 => h H2 (B.trans B2)
  | er q => exact fun d H2 B2 hd => h d H2 (B.trans B2) hd
theorem sqT_butL {xs ys : List V} (h : SqT K H a xs) (e : H l = some (.lst ys)) (B : But l H H') : SqT K H' a xs := by
  rcases h with (h | ⟨o, h⟩) | h
  · exact .inl (.inl (B _ _ (fun z => by subst z; rw [e] at h; cases h) h))
  · exact .inl (.inr ⟨o, B _ _ (fun z => by subst z; rw [e] at h; cases h) h⟩)
  · exact .inr h
theorem rd_extend {xs zs : List V} (e : H l = some (.lst xs)) (g : H p = some (.lst zs)) (hz : xs.length + zs.length ≤ sizeLine) (q : Q .non (upd H l (.lst (xs ++ zs)))) : rExtend (.ref l) [.ref p] H Q := ⟨l, p, xs, zs, rfl, rfl, e, g, hz, q⟩
theorem natV_app8 (a b : List Nat) : natV a ++ natV b = natV (a ++ b) := by unfold natV; rw [List.map_append]
theorem encW_natV {w : Str} : V.int 0 :: V.int (w.length : Nat) :: ((List.range (tl w).length).map fun i => V.int (((tl w)[i]?.getD 0 - 97 : Nat) : Nat)) = natV (encS (.wr w)) := by
  rw [map_range_get (fun o => V.int ((o.getD 0 - 97 : Nat) : Nat)) (fun c => V.int ((c - 97 : Nat) : Nat)) (fun _ => rfl) (tl w) rfl]
  show _ = V.int ((0 : Nat) : Nat) :: V.int ((tl w).length : Nat) :: ((tl w).map (· - 97)).map fun m : Nat => V.int (m : Nat)
  rw [List.map_map, ← len_tl]
  rfl
theorem take_sn {α : Type} {l : List α} {i : Nat} {a : α} (h : l[i]? = some a) : l.take (i + 1) = l.take i ++ [a] := by rw [List.take_add_one, h]; rfl
theorem rd_slA1b {z : V} {xs : List V} (h : SqT K H a (z :: xs)) (hx : xs.length ≤ 1000) (q : ∀ p H', Same H H' → SqT K H' p xs → Q (.ref p) H') : rSlA K (.ref a) (some 1) none H Q := by
  refine ⟨a, z :: xs, rfl, h, fun hw => ?_, fun hw p hp => ?_⟩
  · have hz : HT.sIx (z :: xs).length 0 (some ((1 : Nat) : Int)) = 0 := hw.1
    rw [sIx_le _ _ _ (by simp)] at hz
    cases hz
  · refine q p _ (Same.new (Same.refl _) hp) ?_
    have e : cutV (z :: xs) (some ((1 : Nat) : Int)) none = (z :: xs).drop 1 := cutV_from _ _
    rw [show (1 : Int) = ((1 : Nat) : Int) from rfl, e]
    exact SqT.of upd_same
theorem rd_mkOff {C : Addr} (ho : o < 1000000000) (h : ∀ d H', Same H H' → H' d = some (.xd [("offset", .int (o : Nat))]) → E (.ref C) (some d) H') : rMkO C (sp_xi1 C "offset") E [.int (o : Nat)] H :=
  rd_mk1 ho fun d hd => h d _ (Same.new (Same.refl _) hd) upd_same
/-- what is left of self.f += y, the field's value v -/
def rAugK (CD x : Addr) (f : Str) (v : V) (nx : Hp → Prop) : V → Hp → Prop := fun y H2 => rAdd v y H2 fun z H3 => ∃ dx' fs', H3 x = some (.ins CD dx' fs') ∧ fs'.length < 1000 ∧ nx (upd H3 x (.ins CD dx' (putF f z fs')))
theorem rd_augO {tv : TE} {σ : St} {nx bk ct : St → Hp → Prop} {rt : VK} (c : Cls K CD) (na : NoAttr K CD "offset") (hx : σ[0]? = some (some (.ref x))) (h : DcAt CD H x b o t) (hv : tv σ H (rAugK CD x "offset" (.int (o : Nat)) (nx σ))) :
    sFldAug K (tVar 0) tv rAdd "offset" ⟨nx, rt, bk, ct⟩ σ H := by
  obtain ⟨dx, e⟩ := h
  exact ⟨_, hx, x, CD, dx, _, _, rfl, e, c, na, dcF_lookO, hv⟩
theorem rd_augT {tv : TE} {σ : St} {nx bk ct : St → Hp → Prop} {rt : VK} (c : Cls K CD) (na : NoAttr K CD "total") (hx : σ[0]? = some (some (.ref x))) (h : DcAt CD H x b o t) (hv : tv σ H (rAugK CD x "total" (.int (t : Nat)) (nx σ))) :
    sFldAug K (tVar 0) tv rAdd "total" ⟨nx, rt, bk, ct⟩ σ H := by
  obtain ⟨dx, e⟩ := h
  exact ⟨_, hx, x, CD, dx, _, _, rfl, e, c, na, dcF_lookT, hv⟩
theorem rd_augO1 {nx : Hp → Prop} {j : Int} {n : Nat} (h : DcAt CD H x b o t) (ej : j = n) (q : ∀ H', But x H H' → DcAt CD H' x b (o + n) t → nx H') : rAugK CD x "offset" (.int (o : Nat)) nx (.int j) H := by
  obtain ⟨dx, e⟩ := h
  subst ej
  refine ⟨_, _, rfl, rfl, dx, _, e, dcF_len, q _ (But.at But.refl) ⟨dx, ?_⟩⟩
  rw [upd_same, show ((o : Nat) : Int) + ((n : Nat) : Int) = ((o + n : Nat) : Int) by omega, dcF_o]
theorem rd_augT1 {nx : Hp → Prop} {j : Int} {n : Nat} (h : DcAt CD H x b o t) (ej : j = n) (q : ∀ H', But x H H' → DcAt CD H' x b o (t + n) → nx H') : rAugK CD x "total" (.int (t : Nat)) nx (.int j) H := by
  obtain ⟨dx, e⟩ := h
  subst ej
  refine ⟨_, _, rfl, rfl, dx, _, e, dcF_len, q _ (But.at But.refl) ⟨dx, ?_⟩⟩
  rw [upd_same, show ((t : Nat) : Int) + ((n : Nat) : Int) = ((t + n : Nat) : Int) by omega, dcF_t]
theorem tk_byte {v : Nat} (h8 : Byt b) (hv : b[o]? = some v) : tkD b o 0 255 = .ok v (o + 1) := by
  unfold tkD
  rw [hv]
  show (if _ then _ else _) = _
  rw [if_pos ⟨Nat.zero_le _, h8.2 _ (List.mem_of_getElem? hv)⟩]
theorem tk_none {lo hi : Nat} (h : b.length ≤ o) : tkD b o lo hi = .er o := by unfold tkD; rw [List.getElem?_eq_none h]
theorem nmL_end {acc fac : Nat} (h : o = b.length) : nmL b (b.length - o) o acc fac = .er o := by subst h; rw [Nat.sub_self]; rfl
theorem nmL_step {acc fac v : Nat} (hv : b[o]? = some v) : nmL b (b.length - o) o acc fac = if v = 0 ∧ 1 < fac then .er o else if v < 128 then .ok (acc + v % 128 * fac) (o + 1) else nmL b (b.length - (o + 1)) (o + 1) (acc + v % 128 * fac) (fac * 128) := by
  have hl := (List.getElem?_eq_some_iff.mp hv).1
  obtain ⟨n, hn⟩ : ∃ n, b.length - o = n + 1 := ⟨b.length - o - 1, by omega⟩
  rw [hn, show b.length - (o + 1) = n by omega]
  show (match b[o]? with | none => _ | some v => _) = _
  rw [hv]
theorem DcAt.insM {m : Str} (h : DcAt CD H x b o t) (hm : ((dcF [] 0 0).map (·.1)).contains m = false := by decide +kernel) : InsM H x CD m := by
  obtain ⟨dx, e⟩ := h
  refine ⟨dx, _, e, ?_⟩
  have k : (dcF b o t).map (·.1) = (dcF [] 0 0).map (·.1) := rfl
  rw [← k] at hm
  exact List.lookup_eq_none_iff.mpr fun p hp => by
    have h2 : ((dcF b o t).map (·.1)).contains m = false := hm
    rw [List.contains_eq_mem, decide_eq_false_iff_not] at h2
    have : p.1 ≠ m := fun z => h2 (List.mem_map.mpr ⟨p, hp, z⟩)
    simpa using fun z => this z.symm
theorem rd_ifAndJ8 {t u : TT} {st su : TS} {D : Ends} {σ : St} {H : Hp} (P : Hp → Prop) (hb : ∀ Hc, P Hc → su D σ Hc) (h : (∀ Hc, P Hc → su D σ Hc) → tAnd t u σ H fun b H1 => if b = true then st D σ H1 else su D σ H1) : tIfS (tAnd t u) st su D σ H := h hb
theorem DR.assoc {α β γ : Type} (r : DR α) (f : α → Nat → DR β) (g : β → Nat → DR γ) : (r.bind f).bind g = r.bind fun v o => (f v o).bind g := by cases r <;> rfl
/-- the letters read from a place on -/
def letB (b : List Nat) (o i : Nat) : List Nat := (List.range i).map fun j => 97 + b[o + j]?.getD 0
theorem letB_snoc (b : List Nat) (o i : Nat) : letB b o (i + 1) = letB b o i ++ [97 + b[o + i]?.getD 0] := by unfold letB; rw [List.range_succ, List.map_append]; rfl
theorem low_at8 {v : Nat} (h : v ≤ 25) : (tl (Str.ofString "abcdefghijklmnopqrstuvwxyz"))[v]? = some (97 + v) := (by decide +kernel : ∀ v, v ≤ 25 → (tl (Str.ofString "abcdefghijklmnopqrstuvwxyz"))[v]? = some (97 + v)) v h
theorem letB_sgV (b : List Nat) (o n : Nat) : (List.range n).map (fun i => V.str ⟨#[97 + b[o + i]?.getD 0]⟩) = sgV (letB b o n) := by unfold sgV letB; rw [List.map_map]; rfl
theorem stpD_eq : stpD b o t = (tkD b o 0 1).bind fun v o1 => (if v = 0 then wrD b o1 else paD b o1 t).bind fun s o' => if 1000000000000000000 < t + len1 s then .er o else .ok s o' := DR.assoc _ _ _
theorem ltD_step {n o1 : Nat} {acc : List Nat} {v : Nat} (h : tkD b o1 0 25 = .ok v (o1 + 1)) : ltD b (n + 1) o1 acc = ltD b n (o1 + 1) (acc ++ [97 + v]) := by
  show (tkD b o1 0 25).bind _ = _
  rw [h]; rfl
theorem ltD_bad {n o1 : Nat} {acc : List Nat} {q : Nat} (h : tkD b o1 0 25 = .er q) : ltD b (n + 1) o1 acc = .er q := by
  show (tkD b o1 0 25).bind _ = _
  rw [h]; rfl
theorem rd_ifSJ8 {t : TT} {st su : TS} {nx bk ct : St → Hp → Prop} {rt : VK} {σ : St} {H : Hp} (P : St → Hp → Prop) (hj : ∀ σ' Hc, P σ' Hc → nx σ' Hc) (h : ∀ nx' : St → Hp → Prop, (∀ σ' Hc, P σ' Hc → nx' σ' Hc) → tIfS t st su ⟨nx', rt, bk, ct⟩ σ H) : tIfS t st su ⟨nx, rt, bk, ct⟩ σ H := h nx hj
theorem But.mutN {D : Addr} {u : HO} (B : But x H H') (hD : H D = none) : But x H (upd H' D u) := fun c v hc e => by rw [upd_ne (ne_of_none e hD)]; exact B c v hc e
theorem DcAt.upd {D : Addr} {u : HO} (h : DcAt CD H x b o t) (ne : x ≠ D) : DcAt CD (L2.upd H D u) x b o t := let ⟨dx, e⟩ := h; ⟨dx, by rw [upd_ne ne]; exact e⟩
theorem rd_mkDc (q : ∀ x H', Same H H' → H x = none → DcAt CD H' x b 0 0 → Q (.ref x) H') : rMk CD (sp_Decoder_init CD) E [byV b] H Q := by
  intro x dx nx nd ne
  have S1 : Same H (L2.upd (L2.upd H dx (.own x)) x (.ins CD dx [])) := Same.mut (Same.mut (Same.refl _) nd) nx
  exact ⟨x, dx, b, rfl, upd_same, fun H' B D => ⟨rfl, q x H' (fun c o e => B _ _ (ne_of_none e nx) (S1 _ _ e)) nx D⟩⟩
theorem sqT_butI {xs : List V} (h : SqT K H a xs) (D : DcAt CD H x b o t) (B : But x H H') : SqT K H' a xs := by
  obtain ⟨dx, e⟩ := D
  rcases h with (h | ⟨u, h⟩) | h
  · exact .inl (.inl (B _ _ (fun z => by rw [z, e] at h; cases h) h))
  · exact .inl (.inr ⟨u, B _ _ (fun z => by rw [z, e] at h; cases h) h⟩)
  · exact .inr h
theorem steps_butI {ms : List V} (h : StepsAt K H ms ss) (D : DcAt CD H x b o t) (B : But x H H') : StepsAt K H' ms ss := ⟨h.1, fun j s q => let ⟨v, a, c, d, f⟩ := h.2 j s q; ⟨v, a, c, d, sqT_butI f D B⟩⟩
theorem But.sameN (S : Same H H1) (n : H x = none) (B : But x H1 H') : Same H H' := fun c u e => B c u (ne_of_none e n) (S c u e)
theorem ssD_step {n o1 t1 : Nat} {acc : List Stp} : ssD b (n + 1) o1 t1 acc = (stpD b o1 t1).bind fun s o' => ssD b n o' (t1 + len1 s) (acc ++ [s]) := rfl
end
section
variable {J : It} {n : Nat} {it : Nat → V} {H1 : Hp} {te : TE} {vs : List Nat} {σ : St} {D : Addr} {Qd : Hp → Prop} {j : Nat}
/-- a comprehension whose state tells the answers so far -/
theorem lc_stL (Ps : Nat → List V → Hp → Prop) (P : ∀ i ys H, Ps i ys H → Plain J n it H) (h0 : Ps 0 [] (upd H1 D (.lst []))) (hn : n ≤ sizeLine) (hj : ∀ v, wipe ((wipe σ vs).set j (some v)) vs = wipe σ vs)
    (hput : ∀ i ys ws zs H, Ps i ys H → H D = some (.lst ws) → Ps i ys (upd H D (.lst zs)))
    (hs : ∀ i ys H (Q : VK), i < n → Ps i ys H → H D = some (.lst ys) → (∀ v H', Ps (i + 1) (ys ++ [v]) H' → H' D = some (.lst ys) → Q v H') → te ((wipe σ vs).set j (some (it i))) H Q)
    (hd : ∀ ys H, Ps n ys H → H D = some (.lst ys) → Qd H) : LcW J (gName j) tYes te vs σ H1 D Qd := by
  refine ⟨fun i m H => m = n - i ∧ i ≤ n ∧ ∃ ys, Ps i ys H ∧ H D = some (.lst ys) ∧ ys.length = i, ⟨_, rfl, Nat.zero_le _, [], h0, upd_same, rfl⟩, ?_⟩
  rintro i m H ⟨rfl, hi, ys, S, eD, hl⟩
  have PP := P i ys H S
  by_cases hlt : i < n
  · refine .inr ⟨PP.go i H (Same.refl _) hlt, fun H' => i + 1 ≤ n ∧ ∃ ys, Ps (i + 1) ys H' ∧ H' D = some (.lst ys) ∧ ys.length = i + 1, fun H' z => ⟨n - (i + 1), by omega, rfl, z⟩, fun x H' y => ?_⟩
    obtain ⟨e1, e2⟩ := PP.yld i H x H' (Same.refl _) hlt y
    subst e1 e2
    refine ⟨hj _, ?_⟩
    refine rd_yes (iteT ?_)
    refine hs i ys H' _ hlt S eD fun v H2 S2 e2 => ⟨ys, e2, by omega, hlt, ys ++ [v], hput _ _ _ _ _ S2 e2, upd_same, by simp [hl]⟩
  · have e : i = n := by omega
    subst e
    exact .inl ⟨PP.stop H (Same.refl _), hd ys H S eD⟩
end
end L2.Px
set_option Elab.async false
set_option linter.all false
set_option maxRecDepth 100000
set_option maxHeartbeats 1000000
namespace L2.Px
open PySem PySem.Spec PyProof.Rows StX
end L2.Px
set_option Elab.async false
set_option linter.all false
set_option maxRecDepth 100000
set_option maxHeartbeats 4000000
namespace L2.Px
open PySem PySem.Spec PyProof.Rows PySem.Froz
end L2.Px
set_option Elab.async false
set_option linter.all false
set_option maxRecDepth 100000
set_option maxHeartbeats 2000000
namespace L2.Px
open PySem PySem.Spec PyProof.Rows StX TL
end L2.Px
namespace L2.Px
open PySem PySem.Spec PyProof.Rows StX TL
end L2.Px
namespace L2.Px
open PySem PySem.Spec PyProof.Rows StX TL
end L2.Px
set_option Elab.async false
set_option linter.all false
set_option maxRecDepth 100000
set_option maxHeartbeats 2000000
namespace L2.Px
open PySem PySem.Spec PyProof.Rows StX TL
/-- the list at l holds lists, all of them new since H0 -/
structure ClsN (H0 H : Hp) (l : Addr) (cs : List (List Nat)) : Prop where
  new : H0 l = none
  at_ : ∃ as : List Addr, H l = some (.lst (as.map V.ref)) ∧ as.length = cs.length ∧ ∀ (i : Nat) c, cs[i]? = some c → ∃ a, as[i]? = some a ∧ H a = some (.lst (natV c)) ∧ H0 a = none
section
variable {K : PySem.W.Frag} {CI CT CP : Addr} {H H' H0 H1 : Hp} {a b l r p D : Addr} {L M : List Nat} {Q : VK} {E : XK} {cs : List (List Nat)} {n : Nat} {f : Nat → Nat} {cl : Nat → Addr} {i j : Int} {ss tt : List Stp} {ch : List (Nat × Nat)}
theorem ClsN.cls (h : ClsN H0 H l cs) : ClsAt H l cs := let ⟨_, as, e, n, g⟩ := h; ⟨as, e, n, fun i c hc => let ⟨a, x, y, _⟩ := g i c hc; ⟨a, x, y⟩⟩
theorem ClsN.mono (h : ClsN H0 H l cs) (S : Same H H') : ClsN H0 H' l cs := let ⟨z, as, e, n, g⟩ := h; ⟨z, as, S _ _ e, n, fun i c hc => let ⟨a, x, y, w⟩ := g i c hc; ⟨a, x, S _ _ y, w⟩⟩
variable (K CI CT CP)
variable {K CI CT CP}
end
end L2.Px
set_option Elab.async false
set_option linter.all false
set_option maxRecDepth 100000
set_option maxHeartbeats 2000000
namespace L2.Px
open PySem PySem.Spec PyProof.Rows StX TL
/-- a list of these four items could be taken for a row only if its first item is a number -/
def goodL (ds : List PyData) : Prop := ∀ d0 i j k, ds = [d0, .int i, .int j, .int k] → ∃ n, d0 = .int n
/-- v is the data d, to a depth; made of numbers, texts, tuples, lists -/
def Dd (K : PySem.W.Frag) (H : Hp) : Nat → V → PyData → Prop
  | 0, _, _ => False
  | n + 1, v, d => (∃ i, v = .int i ∧ d = .int i) ∨ (∃ x, v = .str x ∧ d = .str x ∧ x.length ≤ sizeLine) ∨
    (∃ a xs ds, v = .ref a ∧ d = .tuple ds ∧ SqT K H a xs ∧ xs.length = ds.length ∧ xs.length ≤ sizeLine ∧ ∀ (i : Nat) x e, xs[i]? = some x → ds[i]? = some e → Dd K H n x e) ∨
    ∃ a xs ds, v = .ref a ∧ d = .list ds ∧ H a = some (.lst xs) ∧ goodL ds ∧ xs.length = ds.length ∧ xs.length ≤ sizeLine ∧ ∀ (i : Nat) x e, xs[i]? = some x → ds[i]? = some e → Dd K H n x e
section
variable {K : PySem.W.Frag} {H H' : Hp} {a b : Addr} {xs : List V} {ds : List PyData} {Q : VK} {E : XK}
theorem Dd.mono (S : Same H H') : ∀ {n : Nat} {v : V} {d : PyData}, Dd K H n v d → Dd K H' n v d
  | 0, _, _, h => h.elim
  | n + 1, _, _, h => by
    rcases h with h | h | ⟨a, xs, ds, h1, h2, h3, h4, h5, h6⟩ | ⟨a, xs, ds, h1, h2, h3, h4, h5, h6, h7⟩
    · exact .inl h
    · exact .inr (.inl h)
    · exact .inr (.inr (.inl ⟨a, xs, ds, h1, h2, Same.tup S h3, h4, h5, fun i x e p q => Dd.mono S (h6 i x e p q)⟩))
    · exact .inr (.inr (.inr ⟨a, xs, ds, h1, h2, S _ _ h3, h4, h5, h6, fun i x e p q => Dd.mono S (h7 i x e p q)⟩))
theorem Dd.ref_no {n : Nat} {i : Int} (h : Dd K H n (.ref a) (.int i)) : False := by
  cases n with
  | zero => exact h
  | succ n => rcases h with ⟨_, z, _⟩ | ⟨_, z, _⟩ | ⟨_, _, _, _, z, _⟩ | ⟨_, _, _, _, z, _⟩ <;> cases z
theorem Dd.int_at {n : Nat} {i : Int} {d : PyData} (h : Dd K H n (.int i) d) : d = .int i := by
  cases n with
  | zero => exact h.elim
  | succ n => rcases h with ⟨_, z, e⟩ | ⟨_, z, _⟩ | ⟨_, _, _, z, _⟩ | ⟨_, _, _, z, _⟩ <;> cases z; exact e
theorem dd_norow {n : Nat} (g : goodL ds) (hl : xs.length = ds.length) (h : ∀ (i : Nat) x e, xs[i]? = some x → ds[i]? = some e → Dd K H n x e) : ¬ isRow (.lst xs) := by
  intro z
  unfold isRow at z
  split at z
  · rename_i e1
    cases e1
    match ds, hl with
    | [d0, d1, d2, d3], _ =>
      have h0 := h 0 _ _ rfl rfl
      have h1 := h 1 _ _ rfl rfl
      have h2 := h 2 _ _ rfl rfl
      have h3 := h 3 _ _ rfl rfl
      have e1 := h1.int_at
      have e2 := h2.int_at
      have e3 := h3.int_at
      subst e1 e2 e3
      obtain ⟨m, rfl⟩ := g _ _ _ _ rfl
      exact h0.ref_no
  · exact z
theorem Dd.kp (k : Kp H H') : ∀ {n : Nat} {v : V} {d : PyData}, Dd K H n v d → Dd K H' n v d
  | 0, _, _, h => h.elim
  | n + 1, _, _, h => by
    rcases h with h | h | ⟨a, xs, ds, h1, h2, h3, h4, h5, h6⟩ | ⟨a, xs, ds, h1, h2, h3, h4, h5, h6, h7⟩
    · exact .inl h
    · exact .inr (.inl h)
    · exact .inr (.inr (.inl ⟨a, xs, ds, h1, h2, k.tup h3, h4, h5, fun i x e p q => Dd.kp k (h6 i x e p q)⟩))
    · exact .inr (.inr (.inr ⟨a, xs, ds, h1, h2, k _ _ (dd_norow h4 h5 h7) h3, h4, h5, h6, fun i x e p q => Dd.kp k (h7 i x e p q)⟩))
end
end L2.Px
set_option Elab.async false
set_option linter.all false
set_option maxRecDepth 100000
set_option maxHeartbeats 2000000
namespace L2.Px
open PySem PySem.Spec PyProof.Rows StX TL
section
variable {K : PySem.W.Frag} {CI CT CP : Addr} {H H' H0 H1 : Hp} {a b l r p D T : Addr} {L M : List Nat} {Q : VK} {E : XK} {cs : List (List Nat)} {n m : Nat} {f : Nat → Nat} {ss tt : List Stp} {ch : List (Nat × Nat)} {v w : V} {d e : PyData} {xs : List V} {ds : List PyData}
theorem Dd.int (i : Int) : Dd K H (n + 1) (.int i) (.int i) := .inl ⟨i, rfl, rfl⟩
theorem Dd.str {x : Str} (h : x.length ≤ sizeLine) : Dd K H (n + 1) (.str x) (.str x) := .inr (.inl ⟨x, rfl, rfl, h⟩)
theorem Dd.lst (h : H l = some (.lst xs)) (g : goodL ds) (hl : xs.length = ds.length) (hz : xs.length ≤ 16777216) (q : ∀ (i : Nat) x e, xs[i]? = some x → ds[i]? = some e → Dd K H n x e) : Dd K H (n + 1) (.ref l) (.list ds) :=
  .inr (.inr (.inr ⟨l, xs, ds, rfl, rfl, h, g, hl, by rw [sizeLine_eq]; exact hz, q⟩))
theorem Dd.tup (h : SqT K H l xs) (hl : xs.length = ds.length) (hz : xs.length ≤ 16777216) (q : ∀ (i : Nat) x e, xs[i]? = some x → ds[i]? = some e → Dd K H n x e) : Dd K H (n + 1) (.ref l) (.tuple ds) :=
  .inr (.inr (.inl ⟨l, xs, ds, rfl, rfl, h, hl, by rw [sizeLine_eq]; exact hz, q⟩))
end
end L2.Px
namespace L2.Px
open PySem PySem.Spec PyProof.Rows StX TL
/-- a new list, not p -/
def FrL (p : Addr) (H0 H : Hp) (l : Addr) : Prop := H0 l = none ∧ l ≠ p ∧ ∃ xs : List V, H l = some (.lst xs) ∧ xs.length ≤ 10000
/-- a new list of new lists -/
def FrC (p : Addr) (H0 H : Hp) (l : Addr) : Prop := FrL p H0 H l ∧ ∃ ms : List Addr, H l = some (.lst (ms.map V.ref)) ∧ ms.length ≤ 10000 ∧ ∀ m ∈ ms, FrL p H0 H m
section
variable {K : PySem.W.Frag} {CI CT CP : Addr} {H H' H0 H1 : Hp} {a b l r p D T : Addr} {L M : List Nat} {Q : VK} {E : XK} {cs : List (List Nat)} {n m : Nat} {f : Nat → Nat} {ss tt : List Stp} {ch : List (Nat × Nat)} {σ : St}
theorem FrL.mono (h : FrL p H0 H l) (S : Same H H') : FrL p H0 H' l := let ⟨a, b, xs, e, z⟩ := h; ⟨a, b, xs, S _ _ e, z⟩
theorem FrC.mono (h : FrC p H0 H l) (S : Same H H') : FrC p H0 H' l := let ⟨a, ms, e, z, g⟩ := h; ⟨a.mono S, ms, S _ _ e, z, fun m hm => (g m hm).mono S⟩
theorem FrL.mk {Hx : Hp} {xs : List V} (S : Same H Hx) (np : Hx p = none) (n : H0 l = none) (h : H l = some (.lst xs)) (hz : xs.length ≤ 10000) : FrL p H0 H l := ⟨n, ne_of_none (S _ _ h) np, xs, h, hz⟩
theorem FrL.nat {Hx : Hp} (S : Same H Hx) (np : Hx p = none) (n : H0 l = none) (h : H l = some (.lst (natV L))) (hz : L.length ≤ 10000) : FrL p H0 H l := .mk S np n h (by rw [natV_len]; exact hz)
theorem ClsN.fr {Hx : Hp} (h : ClsN H0 H l cs) (S : Same H Hx) (np : Hx p = none) (hz : cs.length ≤ 10000) (hc : ∀ c ∈ cs, c.length ≤ 10000) : FrC p H0 H l := by
  obtain ⟨n, as, e, hl, g⟩ := h
  refine ⟨.mk S np n e (by rw [List.length_map]; omega), as, e, by omega, fun m hm => ?_⟩
  obtain ⟨i, hi⟩ := List.mem_iff_getElem?.mp hm
  have hlt := (List.getElem?_eq_some_iff.mp hi).1
  have hc0 : cs[i]? = some (cs[i]'(by omega)) := List.getElem?_eq_getElem _
  obtain ⟨a, h1, h2, h3⟩ := g i _ hc0
  rw [hi] at h1
  cases h1
  exact .nat S np h3 h2 (hc _ (List.mem_of_getElem? hc0))
variable (K CT CP)
end
end L2.Px
set_option Elab.async false
set_option linter.all false
set_option maxRecDepth 100000
set_option maxHeartbeats 1000000
namespace L2.Px
open PySem PySem.Spec PyProof.Rows StX TL ClX LamX
end L2.Px
namespace L2.Px
open PySem PySem.Spec PyProof.Rows StX TL ClX LamX
section
variable {K : PySem.W.Frag} {CT CP : Addr} {H : Hp} {Q : VK} {l : Addr} {σ : St} {L M : List Nat} {ss : List Stp}
/-- a list of new pairs (text of one sign, number) -/
def PrsAt (H : Hp) (l : Addr) (cs : List Nat) (g : Nat → Nat) : Prop := ∃ xs, H l = some (.lst xs) ∧ xs.length = cs.length ∧ ∀ (i : Nat) (c : Nat), cs[i]? = some c → ∃ T, xs[i]? = some (V.ref T) ∧ H T = some (.tup [.str ⟨#[c]⟩, .int (g c : Nat)])
theorem PrsAt.mono {H' : Hp} {cs : List Nat} {g : Nat → Nat} (h : PrsAt H l cs g) (S : Same H H') : PrsAt H' l cs g :=
  let ⟨xs, e, hl, hx⟩ := h; ⟨xs, S _ _ e, hl, fun i c hc => let ⟨T, a, b⟩ := hx i c hc; ⟨T, a, S _ _ b⟩⟩
end
end L2.Px
namespace L2.Px
open PySem PySem.Spec PyProof.Rows StX TL ClX LamX
end L2.Px
namespace L2.Px
open PySem PySem.Spec PyProof.Rows StX TL ClX LamX
end L2.Px
namespace L2.Px
open PySem PySem.Spec PyProof.Rows StX TL ClX LamX
/-- v is a pair that is no range -/
def BadR (K : PySem.W.Frag) (H : Hp) (ss : List Stp) (v : V) : Prop := ∃ b x y, v = .ref b ∧ SqT K H b [x, y] ∧ NoSeq x ∧ NoSeq y ∧ NoRng ss x y
section
variable {K : PySem.W.Frag} {H H' : Hp} {b : Addr} {ss : List Stp} {v x y : V} {T : List (Addr × Str)}
theorem BadR.mono (h : BadR K H ss v) (S : Same H H') : BadR K H' ss v := let ⟨b, x, y, e, q, r⟩ := h; ⟨b, x, y, e, Same.tup S q, r⟩
end
end L2.Px
set_option Elab.async false
set_option linter.all false
set_option maxRecDepth 100000
set_option maxHeartbeats 1000000
namespace L2.Px
open PySem PySem.Spec PyProof.Rows StX TL ClX LamX
end L2.Px
set_option Elab.async false
set_option linter.all false
set_option maxRecDepth 100000
set_option maxHeartbeats 1000000
namespace L2.Px
open PySem PySem.Spec PyProof.Rows StX TL
theorem ChAt.kp {K : PySem.W.Frag} {H H' : Hp} {l : Addr} {cs : List (Nat × Nat)} {n : Nat} (h : ChAt K H l cs n) (k : Kp H H') : ChAt K H' l cs n := by
  obtain ⟨xs, e, hl, hx⟩ := h
  refine ⟨xs, k.keep _ _ (fun hr => ?_) e, hl, fun i c hc => ?_⟩
  · match xs, hr with
    | [.ref _, .int _, .int _, .int _], _ =>
      obtain ⟨_, _, _, T, eT, _⟩ := hx 1 (cs[1]'(by simp at hl; omega)) (List.getElem?_eq_getElem _)
      cases eT
  · obtain ⟨a, b, d, T, eT, q⟩ := hx i c hc
    exact ⟨a, b, d, T, eT, k.keep _ _ nr_tup q⟩
end L2.Px
set_option Elab.async false
set_option linter.all false
set_option maxRecDepth 100000
set_option maxHeartbeats 1000000
namespace L2.Px
open PySem PySem.Spec PyProof.Rows StX TL
theorem filt_sg (L : List Nat) (g : Nat → Bool) : ((List.range L.length).filter fun i => g (L[i]?.getD 0)).map (fun i => V.str ⟨#[L[i]?.getD 0]⟩) = sgV (L.filter g) := by
  have e : (List.range L.length).map (fun i => L[i]?.getD 0) = L := List.ext_getElem (by simp) fun i h1 h2 => by simp [h2]
  unfold sgV
  conv => rhs; rw [← e, List.filter_map, List.map_map]
  rfl
/-- a word or None -/
def WV (v : V) : Prop := (∃ z : Str, v = .str z ∧ z.length ≤ 100 ∧ ∀ c ∈ tl z, c ≤ 122) ∨ v = .non
/-- a number or a bool -/
def NB (v : V) : Prop := (∃ i : Int, v = .int i) ∨ ∃ b : Bool, v = .bl b
def StF (xs : List V) : Prop := (∃ v, xs = [.str "write", v] ∧ WV v) ∨ ∃ a b c, xs = [.str "paste", a, b, c] ∧ NB a ∧ NB b ∧ NB c
theorem StF.head {xs : List V} (h : StF xs) : ∃ z r, xs = .str z :: r ∧ z ≠ "retype" := by
  rcases h with ⟨v, rfl, _⟩ | ⟨a, b, c, rfl, _⟩
  · exact ⟨_, _, rfl, by decide +kernel⟩
  · exact ⟨_, _, rfl, by decide +kernel⟩
inductive Due where
  | num (n : Nat)
  | step (n : Nat)
  | place
  | letter
def dueL : Due → List V
  | .num _ => []
  | .step n => [.str "error", .str "InvalidStep", .int (n : Nat)]
  | .place => [.str "error", .str "InvalidPlace"]
  | .letter => [.str "error", .str "InvalidLetter"]
def dueAt (K : PySem.W.Frag) (H : Hp) (v : V) : Due → Prop
  | .num n => v = .int (n : Nat)
  | d => ∃ p, v = .ref p ∧ H p = some (.tup (dueL d))
/-- what is due of an operation, its values xs, on the text of ss; the steps behind it; the operation in effect -/
inductive AftR (ss : List Stp) (xs : List V) : Due → List Stp → List Op → Prop
  | ok (o : Op) (eo : xs = opV o) (h : okOp ss o) : AftR ss xs (.num (opN ss o)) (aft ss o) [o]
  | step (f : StF xs) (h : ss.length = 30 ∨ isSt (sz ss : Nat) xs = false) : AftR ss xs (.step ss.length) ss []
  | place (p l : V) (eo : xs = [.str "retype", p, l]) (hp : NB p ∨ p = .non) (hl : WV l) (h : isInt 0 ((sz ss : Int) - 1) p = false) : AftR ss xs .place ss []
  | letter (p l : V) (eo : xs = [.str "retype", p, l]) (hp : NB p ∨ p = .non) (hl : WV l) (h : isInt 0 ((sz ss : Int) - 1) p = true) (g : isLet l = false) : AftR ss xs .letter ss []
section
variable {K : PySem.W.Frag} {CT CP CE : Addr} {H H' : Hp} {Q : VK} {E : XK} {r l a b : Addr} {i j : Int} {ms ns xs : List V} {ss ss' : List Stp} {d : Due} {os : List Op} {v : V}
theorem dueAt.mono (h : dueAt K H v d) (S : Same H H') : dueAt K H' v d := by
  cases d with
  | num n => exact h
  | step n => obtain ⟨p, e, q⟩ := h; exact ⟨p, e, S _ _ q⟩
  | place => obtain ⟨p, e, q⟩ := h; exact ⟨p, e, S _ _ q⟩
  | letter => obtain ⟨p, e, q⟩ := h; exact ⟨p, e, S _ _ q⟩
theorem OpsAt.refs41 (h : OpsAt K H ms os) : ∀ v ∈ ms, isRef v = true := by
  intro v hv
  obtain ⟨j, hj⟩ := List.getElem?_of_mem hv
  have hl : j < os.length := by rw [← h.1]; exact (List.getElem?_eq_some_iff.mp hj).1
  obtain ⟨u, e, a, rfl, _⟩ := h.2 j _ (List.getElem?_eq_getElem hl)
  rw [hj] at e
  cases e
  rfl
end
section
variable {K : PySem.W.Frag} {CT CP CE C : Addr} {T : List (Addr × Str)} {H H' : Hp} {r le ld : Addr} {ms ns : List V} {ss : List Stp} {os : List Op}
/-- what the law holds: its dice, the names, its steps and its operations -/
structure LiS (K : PySem.W.Frag) (T : List (Addr × Str)) (H : Hp) (r le ld : Addr) (ms ns : List V) (ss : List Stp) (os : List Op) : Prop where
  row : RowAt K H r
  tab : LamX.Tabs T H
  el : H le = some (.lst ms)
  st : StepsAt K H ms ss
  dl : H ld = some (.lst ns)
  ops : OpsAt K H ns os
theorem LiS.km (h : LiS K T H r le ld ms ns ss os) (k : Km C T H H') (row : RowAt K H' r) : LiS K T H' r le ld ms ns ss os :=
  ⟨row, k.tabs h.tab, k.li (nr_refs h.st.refs) h.el, h.st.km k, k.li (nr_refs h.ops.refs41) h.dl, h.ops.1, fun j o q => let ⟨v, a, b, c, e⟩ := h.ops.2 j o q; ⟨v, a, b, c, k.tup e⟩⟩
theorem LiS.same (h : LiS K T H r le ld ms ns ss os) (k : Same H H') : LiS K T H' r le ld ms ns ss os := h.km (C := r) (.same k) (h.row.mono k)
theorem LiS.kp (h : LiS K T H r le ld ms ns ss os) (k : Kp H H') (row : RowAt K H' r) : LiS K T H' r le ld ms ns ss os := h.km (C := r) (.kp k) row
theorem LiS.but {x dx : Addr} {fs : List (Str × V)} (h : LiS K T H r le ld ms ns ss os) (b : But x H H') (e : H x = some (.ins CE dx fs)) : LiS K T H' r le ld ms ns ss os := h.km (Km.but (C := CE) b e) (h.row.but b e)
end
theorem dueAt.km {K : PySem.W.Frag} {C : Addr} {T : List (Addr × Str)} {H H' : Hp} {v : V} {d : Due} (h : dueAt K H v d) (k : Km C T H H') : dueAt K H' v d := by
  cases d with
  | num n => exact h
  | step n => obtain ⟨p, e, q⟩ := h; exact ⟨p, e, k.tu q⟩
  | place => obtain ⟨p, e, q⟩ := h; exact ⟨p, e, k.tu q⟩
  | letter => obtain ⟨p, e, q⟩ := h; exact ⟨p, e, k.tu q⟩
theorem dueAt.ref {K : PySem.W.Frag} {H : Hp} {v : V} {d : Due} (h : dueAt K H v d) (hd : ∀ n, d ≠ .num n) : ∃ p, v = .ref p ∧ SqT K H p (dueL d) := by
  cases d with
  | num n => exact absurd rfl (hd n)
  | step n => obtain ⟨p, e, q⟩ := h; exact ⟨p, e, SqT.of q⟩
  | place => obtain ⟨p, e, q⟩ := h; exact ⟨p, e, SqT.of q⟩
  | letter => obtain ⟨p, e, q⟩ := h; exact ⟨p, e, SqT.of q⟩
theorem AftR.ops {ss ss' : List Stp} {xs : List V} {d : Due} {os : List Op} (h : AftR ss xs d ss' os) : ((∃ n, d = .num n) ∧ ∃ o, os = [o] ∧ xs = opV o ∧ okOp ss o) ∨ ((∀ n, d ≠ .num n) ∧ os = []) := by
  cases h with
  | ok o eo h => exact .inl ⟨⟨_, rfl⟩, o, rfl, eo, h⟩
  | step f h => exact .inr ⟨fun n z => (by cases z), rfl⟩
  | place p l eo hp hl h => exact .inr ⟨fun n z => (by cases z), rfl⟩
  | letter p l eo hp hl h g => exact .inr ⟨fun n z => (by cases z), rfl⟩
end L2.Px
set_option Elab.async false
set_option linter.all false
set_option maxRecDepth 100000
set_option maxHeartbeats 1000000
namespace L2.Px
open PySem PySem.Spec PyProof.Rows StX TL
theorem take_add {os : List Op} {k j : Nat} {o : Op} (hk : k ≤ os.length) (hj : j ≤ k) : (os.take k ++ [o]).take j = os.take j := by
  rw [List.take_append_of_le_length (by rw [List.length_take]; omega), List.take_take, Nat.min_eq_left hj]
/-- the rows: each text's steps -/
def RowsAt (K : PySem.W.Frag) (H : Hp) (rs : List V) (ss0 : List Stp) (os : List Op) : Prop := rs.length = os.length + 1 ∧ ∀ j, j ≤ os.length → ∃ l ms, rs[j]? = some (V.ref l) ∧ H l = some (.lst ms) ∧ StepsAt K H ms (runB ss0 (os.take j))
section
variable {K : PySem.W.Frag} {CE C : Addr} {T : List (Addr × Str)} {H H' : Hp} {r lr ld l : Addr} {rs ns ms : List V} {ss0 : List Stp} {os : List Op} {k : Nat} {o : Op}
theorem RowsAt.refs (h : RowsAt K H rs ss0 os) : ∀ v ∈ rs, isRef v = true := by
  intro v hv
  obtain ⟨j, hj⟩ := List.getElem?_of_mem hv
  have hl : j ≤ os.length := by have := (List.getElem?_eq_some_iff.mp hj).1; have := h.1; omega
  obtain ⟨l, ms, e, _⟩ := h.2 j hl
  rw [hj] at e
  cases e
  rfl
theorem RowsAt.km (h : RowsAt K H rs ss0 os) (e : Km C T H H') : RowsAt K H' rs ss0 os := ⟨h.1, fun j hj => let ⟨l, ms, a, b, c⟩ := h.2 j hj; ⟨l, ms, a, e.li (nr_refs c.refs) b, c.km e⟩⟩
/-- what the law of undo and redo holds -/
structure RoS (K : PySem.W.Frag) (T : List (Addr × Str)) (H : Hp) (r lr ld : Addr) (rs ns : List V) (ss0 : List Stp) (os : List Op) : Prop where
  row : RowAt K H r
  tab : LamX.Tabs T H
  rl : H lr = some (.lst rs)
  rows : RowsAt K H rs ss0 os
  dl : H ld = some (.lst ns)
  ops : OpsAt K H ns os
theorem RoS.km (h : RoS K T H r lr ld rs ns ss0 os) (e : Km C T H H') (row : RowAt K H' r) : RoS K T H' r lr ld rs ns ss0 os :=
  ⟨row, e.tabs h.tab, e.li (nr_refs h.rows.refs) h.rl, h.rows.km e, e.li (nr_refs h.ops.refs41) h.dl, h.ops.1, fun j o q => let ⟨v, a, b, c, d⟩ := h.ops.2 j o q; ⟨v, a, b, c, e.tup d⟩⟩
theorem RoS.same (h : RoS K T H r lr ld rs ns ss0 os) (e : Same H H') : RoS K T H' r lr ld rs ns ss0 os := h.km (C := r) (.same e) (h.row.mono e)
theorem RoS.kp (h : RoS K T H r lr ld rs ns ss0 os) (e : Kp H H') (row : RowAt K H' r) : RoS K T H' r lr ld rs ns ss0 os := h.km (C := r) (.kp e) row
theorem RoS.but {x dx : Addr} {fs : List (Str × V)} (h : RoS K T H r lr ld rs ns ss0 os) (b : But x H H') (e : H x = some (.ins CE dx fs)) : RoS K T H' r lr ld rs ns ss0 os := h.km (Km.but (C := CE) b e) (h.row.but b e)
end
end L2.Px
set_option Elab.async false
set_option linter.all false
set_option maxRecDepth 100000
set_option maxHeartbeats 1000000
namespace L2.Px
open PySem PySem.Spec PyProof.Rows StX TL
end L2.Px
set_option Elab.async false
set_option linter.all false
set_option maxRecDepth 100000
set_option maxHeartbeats 1000000
namespace L2.Px
open PySem PySem.Spec PyProof.Rows StX TL ClX LamX
def Er49 (H : Hp) (v : V) (k : Nat) : Prop := ∃ l p, v = .ref l ∧ H l = some (.lst [.ref p]) ∧ H p = some (.tup [.str "error", .str "DecodeError", .int (k : Nat)])
def Tk49 (H : Hp) (v : V) (r : DR Nat) : Prop := match r with
  | .ok n o => ∃ p, v = .ref p ∧ H p = some (.tup [.int (n : Nat), .int (o : Nat)])
  | .er k => Er49 H v k
def Du49 (K : PySem.W.Frag) (H : Hp) (v : V) (r : DR (List Stp)) : Prop := match r with
  | .ok ss _ => ∃ p, v = .ref p ∧ TS' K H p ss
  | .er k => ∃ p, v = .ref p ∧ H p = some (.tup [.str "error", .str "DecodeError", .int (k : Nat)])
section
variable {K : PySem.W.Frag} {H H' H1 : Hp} {Q : VK} {E : XK} {l p : Addr} {b L : List Nat} {o t lo hi : Nat} {ss : List Stp} {v u : V} {T : List (Addr × Str)}
theorem Er49.mono {k : Nat} (h : Er49 H v k) (S : Same H H') : Er49 H' v k := let ⟨l, p, a, c, d⟩ := h; ⟨l, p, a, S _ _ c, S _ _ d⟩
theorem Tk49.mono {r : DR Nat} (h : Tk49 H v r) (S : Same H H') : Tk49 H' v r := by
  cases r with
  | ok n o => obtain ⟨p, a, c⟩ := h; exact ⟨p, a, S _ _ c⟩
  | er k => exact Er49.mono h S
theorem Du49.mono {r : DR (List Stp)} (h : Du49 K H v r) (S : Same H H') : Du49 K H' v r := by
  cases r with
  | ok n o => obtain ⟨p, a, c⟩ := h; exact ⟨p, a, c.kp (.same S)⟩
  | er k => obtain ⟨p, a, c⟩ := h; exact ⟨p, a, S _ _ c⟩
theorem Du49.kl {r : DR (List Stp)} (h : Du49 K H v r) (S : Kl T H H') : Du49 K H' v r := by
  cases r with
  | ok n o => obtain ⟨p, a, c⟩ := h; exact ⟨p, a, c.kl S⟩
  | er k => obtain ⟨p, a, c⟩ := h; exact ⟨p, a, S.keep _ _ id (fun _ z => nomatch z) c⟩
theorem rd_ixNn {n : Nat} (h : H l = some (.lst (natV L))) (e : L[o]? = some n) (q : Q (.int (n : Nat)) H) : rIx K (.ref l) (.int (o : Nat)) H Q := rd_ixLn (SqL.of h) (by unfold natV; rw [List.getElem?_map, e]; rfl) q
theorem rd_pack0 {CIC : Addr} (e : H l = some (.lst (natV b))) (h8 : Byt b) (q : ∀ H', Same H H' → Q (byV b) H') : nox (sp_pack_bytesR K CIC) [.ref l] H Q E := ⟨.ref l, rfl, .inl ⟨l, b, rfl, e, h8, q⟩⟩
theorem rd_encode {CT CP a : Addr} (h : TX K CT CP H a ss) (q : ∀ H', Same H H' → Q (byV (encT ss)) H') : sp_encode_text K CT CP [.ref a] H Q E := ⟨a, ss, rfl, h, q⟩
theorem rd_unpack (h8 : Byt b) (q : ∀ p H', Same H H' → H p = none → H' p = some (.lst (natV b)) → Q (.ref p) H') : sp_unpack_bytes [byV b] H Q E := ⟨b, rfl, h8, q⟩
theorem encT_Byt (ok : okFrom 0 ss) (few : ss.length ≤ 30) : Byt (encT ss) := ⟨by have := encT_len ok few; omega, encT_255 ok few⟩
theorem rd_decode0 {CDE CT CP : Addr} (ok : okFrom 0 ss) (few : ss.length ≤ 30) (q : ∀ y H', Same H H' → H y = none → TX K CT CP H' y ss → Q (.ref y) H') : nox (sp_decode_textR K CDE CT CP) [byV (encT ss)] H Q E :=
  ⟨encT ss, rfl, encT_Byt ok few, fun ss' o h y H' S n t => by rw [dec_enc ok few] at h; cases h; exact q y H' S n t, fun k h => by rw [dec_enc ok few] at h; cases h⟩
end
end L2.Px
set_option Elab.async false
set_option linter.all false
set_option maxRecDepth 100000
set_option maxHeartbeats 1000000
namespace L2.Px
open PySem PySem.Spec PyProof.Rows StX TL ClX LamX
def W47 (w : List Nat) : Prop := w.length ≤ 30 ∧ ∀ c ∈ w, 33 ≤ c ∧ c ≤ 122
def R47 (r : List (List Nat)) : Prop := r ≠ [] ∧ r.length ≤ 10 ∧ ∀ w ∈ r, W47 w
/-- a list of lists of words -/
def RLL (H : Hp) (l : Addr) (rows : List (List (List Nat))) : Prop := ∃ rs, H l = some (.lst rs) ∧ rs.length = rows.length ∧ ∀ (i : Nat) r, rows[i]? = some r → ∃ p, rs[i]? = some (.ref p) ∧ H p = some (.lst (txV r))
inductive PD where
  | wrong (i k : Nat)
  | bad (i : Nat)
  | long
  | steps (ss : List Stp)
def DueP (K : PySem.W.Frag) (H : Hp) (v : V) : PD → Prop
  | .wrong i k => ∃ p, v = .ref p ∧ H p = some (.tup [.str "error", .str "NotationError", .int (i : Nat), .int (k : Nat)])
  | .bad i => ∃ p, v = .ref p ∧ H p = some (.tup [.str "error", .str "InvalidStep", .int (i : Nat)])
  | .long => ∃ p, v = .ref p ∧ H p = some (.tup [.str "error", .str "TooLong"])
  | .steps ss => ∃ p, v = .ref p ∧ TS' K H p ss
section
variable {K : PySem.W.Frag} {H H' : Hp} {Q : VK} {E : XK} {l p q : Addr} {rows : List (List (List Nat))} {r ws : List (List Nat)} {w : List Nat} {v u : V} {d : PD}
theorem R47.ok (h : R47 r) : okWs r ∧ (rowL r).length ≤ 100000 ∧ r.length ≤ 100000 := by
  refine ⟨⟨h.1, fun w hw => ⟨fun z => ?_, fun z => ?_⟩⟩, ?_, by have := h.2.1; omega⟩
  · have := ((h.2.2 w hw).2 _ z).1; omega
  · have := ((h.2.2 w hw).2 _ z).1; omega
  · have h1 := joinL_len [32] r
    have h2 := sum_le_rows (L := r) (B := 30) (fun x hx => (h.2.2 x hx).1) (fun x => x.length + [32].length) 1 (fun x => rfl)
    have h3 := h.2.1
    have : r.length * (30 + 1) ≤ 10 * 31 := Nat.mul_le_mul h3 (Nat.le_refl _)
    unfold rowL
    omega
theorem RLL.mono (h : RLL H l rows) (S : Same H H') : RLL H' l rows := let ⟨rs, e, hl, hr⟩ := h; ⟨rs, S _ _ e, hl, fun i r hi => let ⟨p, a, b⟩ := hr i r hi; ⟨p, a, S _ _ b⟩⟩
theorem RLL.len (h : RLL H l rows) (q : Q (.int (rows.length : Nat)) H) : rLenA K [.ref l] H Q := by
  obtain ⟨rs, e, hl, _⟩ := h
  exact rd_lenL e (by rw [hl]; exact q)
theorem RLL.at {i : Nat} (h : RLL H l rows) (hi : rows[i]? = some r) (q : ∀ p, H p = some (.lst (txV r)) → Q (.ref p) H) : rIx K (.ref l) (.int (i : Nat)) H Q := by
  obtain ⟨rs, e, hl, hr⟩ := h
  obtain ⟨p, a, b⟩ := hr i r hi
  exact rd_ixLn (SqL.of e) a (q p b)
theorem RLL.ne {p : Addr} (h : RLL H l rows) (h0 : rows ≠ []) (e : H p = some (.lst (txV r))) (hr : r ≠ []) : p ≠ l := fun z => by
  subst z
  obtain ⟨rs, e2, hl, hh⟩ := h
  rw [e] at e2
  cases e2
  match rows, h0 with
  | x :: rows, _ =>
    obtain ⟨p', a, _⟩ := hh 0 x rfl
    match r, hr with
    | y :: r, _ => exact absurd a (by simp [txV])
/-- a row is put in another's place -/
theorem RLL.set {i : Nat} {p : Addr} (h : RLL H l rows) (hok : ∀ r ∈ rows, r ≠ []) (e : H p = some (.lst (txV r))) (hp : p ≠ l) (hi : i < rows.length) : ∃ rs j, H l = some (.lst rs) ∧ ixN rs.length (i : Nat) = some j ∧ RLL (upd H l (.lst (rs.set j (.ref p)))) l (rows.set i r) := by
  obtain ⟨rs, e1, hl, hr⟩ := h
  have h0 : rows ≠ [] := by intro z; subst z; simp at hi
  refine ⟨rs, i, e1, by unfold ixN; simp; omega, rs.set i (.ref p), upd_same, by simp [hl], fun k x hk => ?_⟩
  by_cases hki : i = k
  · subst hki
    rw [List.getElem?_set_self (by omega)] at hk
    cases hk
    exact ⟨p, by rw [List.getElem?_set_self (by omega)], by rw [upd_ne hp]; exact e⟩
  · rw [List.getElem?_set_ne hki] at hk
    obtain ⟨p', a, b⟩ := hr k x hk
    have hx : x ≠ [] := hok x (List.mem_of_getElem? hk)
    exact ⟨p', by rw [List.getElem?_set_ne hki]; exact a, by rw [upd_ne (RLL.ne ⟨rs, e1, hl, hr⟩ h0 b hx)]; exact b⟩
theorem DueP.mono (S : Same H H') (h : DueP K H v d) : DueP K H' v d := by
  cases d with
  | wrong i k => obtain ⟨p, a, b⟩ := h; exact ⟨p, a, S _ _ b⟩
  | bad i => obtain ⟨p, a, b⟩ := h; exact ⟨p, a, S _ _ b⟩
  | long => obtain ⟨p, a, b⟩ := h; exact ⟨p, a, S _ _ b⟩
  | steps ss => obtain ⟨p, a, b⟩ := h; exact ⟨p, a, b.kp (.same S)⟩
theorem DueP.kl {T : List (Addr × Str)} (S : Kl T H H') (h : DueP K H v d) : DueP K H' v d := by
  cases d with
  | wrong i k => obtain ⟨p, a, b⟩ := h; exact ⟨p, a, S.keep _ _ id (fun _ z => nomatch z) b⟩
  | bad i => obtain ⟨p, a, b⟩ := h; exact ⟨p, a, S.keep _ _ id (fun _ z => nomatch z) b⟩
  | long => obtain ⟨p, a, b⟩ := h; exact ⟨p, a, S.keep _ _ id (fun _ z => nomatch z) b⟩
  | steps ss => obtain ⟨p, a, b⟩ := h; exact ⟨p, a, b.kl S⟩
end
end L2.Px
set_option Elab.async false
set_option linter.all false
set_option maxRecDepth 100000
set_option maxHeartbeats 1000000
namespace L2.Px
open PySem PySem.Spec PyProof.Rows StX TL ClX LamX
theorem nr_txV {r : List (List Nat)} : ¬ isRow (.lst (txV r)) := nr_vals fun v hv => by obtain ⟨w, _, rfl⟩ := List.mem_map.mp hv; rfl
/-- references to lists of words -/
def RL2 (H : Hp) (rs : List V) (rows : List (List (List Nat))) : Prop := rs.length = rows.length ∧ ∀ (i : Nat) r, rows[i]? = some r → ∃ p, rs[i]? = some (.ref p) ∧ H p = some (.lst (txV r))
section
variable {K : PySem.W.Frag} {H H' : Hp} {Q : VK} {E : XK} {l D p : Addr} {rows rows' : List (List (List Nat))} {r : List (List Nat)} {ss : List Stp} {ys rs rs' : List V} {k : Nat} {L : List Nat} {T : List (Addr × Str)}
theorem RLL.two (h : RLL H l rows) : ∃ rs, H l = some (.lst rs) ∧ RL2 H rs rows := let ⟨rs, e, a, b⟩ := h; ⟨rs, e, a, b⟩
theorem RL2.mk' (h : RL2 H rs rows) (e : H l = some (.lst rs)) : RLL H l rows := ⟨rs, e, h.1, h.2⟩
theorem RL2.mono (h : RL2 H rs rows) (S : Same H H') : RL2 H' rs rows := ⟨h.1, fun i r hi => let ⟨p, a, b⟩ := h.2 i r hi; ⟨p, a, S _ _ b⟩⟩
theorem RL2.nr (h : RL2 H rs rows) : ¬ isRow (.lst rs) := nr_refs fun v hv => by
  obtain ⟨i, hi⟩ := List.getElem?_of_mem hv
  have hlt : i < rows.length := by rw [← h.1]; exact (List.getElem?_eq_some_iff.mp hi).1
  obtain ⟨p, h1, _⟩ := h.2 i _ (List.getElem?_eq_getElem hlt)
  rw [hi] at h1; cases h1; rfl
theorem RL2.kp (h : RL2 H rs rows) (k : Kp H H') : RL2 H' rs rows := ⟨h.1, fun i r hi => let ⟨p, a, b⟩ := h.2 i r hi; ⟨p, a, k _ _ nr_txV b⟩⟩
theorem RL2.take (h : RL2 H rs rows) (k : Nat) : RL2 H (rs.take k) (rows.take k) := ⟨by rw [List.length_take, List.length_take, h.1], fun i r hi => by
  have hk : i < k := by have := (List.getElem?_eq_some_iff.mp hi).1; rw [List.length_take] at this; omega
  rw [List.getElem?_take, if_pos hk] at hi ⊢
  exact h.2 i r hi⟩
theorem RL2.drop (h : RL2 H rs rows) (k : Nat) : RL2 H (rs.drop k) (rows.drop k) := ⟨by rw [List.length_drop, List.length_drop, h.1], fun i r hi => by
  rw [List.getElem?_drop] at hi ⊢
  exact h.2 _ r hi⟩
theorem RL2.one (e : H p = some (.lst (txV r))) : RL2 H [.ref p] [r] := ⟨rfl, fun i x hi => by
  match i, hi with
  | 0, hi => cases hi; exact ⟨p, rfl, e⟩
  | i + 1, hi => simp at hi⟩
theorem RLL.kp (h : RLL H l rows) (k : Kp H H') : RLL H' l rows := let ⟨rs, e, g⟩ := h.two; (RL2.kp g k).mk' (k _ _ (RL2.nr g) e)
theorem W47.nil : W47 [] := ⟨by decide, fun c hc => by cases hc⟩
theorem w47_wrd {s : Stp} {n : Nat} (ok : okStep n s) (hn : n ≤ 1000000000000000000) : ∀ w ∈ wrdL s, W47 w := by
  intro w hw
  cases s with
  | wr x =>
    simp only [wrdL, List.mem_cons, List.not_mem_nil, or_false] at hw
    rcases hw with rfl | rfl
    · exact ⟨by decide, by decide⟩
    · have h : (tl x).length ≤ 20 := by rw [← len_tl]; exact ok.2.1
      exact ⟨by omega, fun c hc => by have := ok.2.2 c hc; omega⟩
  | pa f l t =>
    obtain ⟨h1, h2, h3, h4⟩ := ok
    have num : ∀ n : Nat, n < 1000000000000000000 → W47 (numL n) := fun n hn => ⟨by have := numL_len (n := n) (k := 18) (by decide) (by omega); omega, fun c hc => by have := numL_digits n c hc; omega⟩
    simp only [wrdL, List.mem_cons, List.not_mem_nil, or_false] at hw
    rcases hw with rfl | rfl | rfl | rfl
    · exact ⟨by decide, by decide⟩
    · exact num _ (by omega)
    · exact num _ (by omega)
    · exact num _ (by omega)
theorem wrd_len24 (s : Stp) : 2 ≤ (wrdL s).length ∧ (wrdL s).length ≤ 4 := by cases s <;> simp [wrdL]
theorem RL2.refs (h : RL2 H rs rows) : ∀ v ∈ rs, isRef v = true := fun v hv => by
  obtain ⟨i, hi⟩ := List.getElem?_of_mem hv
  have hlt : i < rows.length := by rw [← h.1]; exact (List.getElem?_eq_some_iff.mp hi).1
  obtain ⟨p, h1, _⟩ := h.2 i _ (List.getElem?_eq_getElem hlt)
  rw [hi] at h1; cases h1; rfl
theorem dp_txV : ∀ {r : List (List Nat)}, DpAll K H (txV r) (r.map fun w => PyData.str (mkS w))
  | [] => .nil
  | w :: r => .cons (.str _) dp_txV
end
end L2.Px
set_option Elab.async false
set_option linter.all false
set_option maxRecDepth 100000
set_option maxHeartbeats 1000000
namespace L2.Px
open PySem PySem.Spec PyProof.Rows StX TL ClX
def isDg (c : Nat) : Bool := decide (48 ≤ c ∧ c ≤ 57)
def digF (L : List Nat) : List Nat := L.filter isDg
theorem digF_app (a b : List Nat) : digF (a ++ b) = digF a ++ digF b := List.filter_append ..
theorem digF_all {l : List Nat} (h : ∀ c ∈ l, 48 ≤ c ∧ c ≤ 57) : digF l = l := List.filter_eq_self.mpr fun c hc => decide_eq_true (h c hc)
theorem digF_num (n : Nat) : digF (numL n) = numL n := digF_all fun c hc => by have := numL_digits n c hc; omega
theorem digF_rep : ∀ k : Nat, digF (List.replicate k 32) = []
  | 0 => rfl
  | k + 1 => by rw [List.replicate_succ]; exact digF_rep k
theorem digF_grp : ∀ (n : Nat) (l : List Nat), l.length ≤ n → (∀ c ∈ l, 48 ≤ c ∧ c ≤ 57) → digF (grp l) = l
  | 0, l, hn, h => by rw [grp_short (by omega)]; exact digF_all h
  | n + 1, l, hn, h => by
    by_cases h3 : 3 < l.length
    · have lt : (l.take (l.length - 3)).length = l.length - 3 := by rw [List.length_take]; omega
      rw [grp_long h3, digF_app, digF_grp n _ (by omega) fun c hc => h c (List.mem_of_mem_take hc)]
      have : digF (44 :: l.drop (l.length - 3)) = digF (l.drop (l.length - 3)) := rfl
      rw [this, digF_all fun c hc => h c (List.mem_of_mem_drop hc), List.take_append_drop]
    · rw [grp_short h3]; exact digF_all h
theorem digF_fmt (W : Nat) (gr : Bool) (n : Nat) : digF (fmtL W gr n) = numL n := by
  unfold fmtL padL
  rw [digF_app, digF_rep, List.nil_append]
  cases gr
  · exact digF_num n
  · exact digF_grp _ _ (Nat.le_refl _) fun c hc => by have := numL_digits n c hc; omega
theorem grp_len3 : ∀ (n : Nat) (l : List Nat), l.length ≤ n → (grp l).length ≤ l.length + (l.length - 1) / 3
  | 0, l, hn => by rw [grp_short (by omega)]; omega
  | n + 1, l, hn => by
    by_cases h3 : 3 < l.length
    · have lt : (l.take (l.length - 3)).length = l.length - 3 := by rw [List.length_take]; omega
      have ih := grp_len3 n (l.take (l.length - 3)) (by omega)
      rw [lt] at ih
      rw [grp_long h3, List.length_append, List.length_cons, List.length_drop]
      omega
    · rw [grp_short h3]; omega
theorem fmt_len4 {k : Nat} (h : k < 10000) : (fmtL 4 false k).length = 4 := by
  have := numL_len (n := k) (k := 4) (by decide) (by omega)
  unfold fmtL padL
  simp only [Bool.false_eq_true, if_false, List.length_append, List.length_replicate]
  omega
theorem fmt_len26 {c : Nat} (h : c ≤ 1000000000000000000) : (fmtL 26 true c).length = 26 := by
  have d := numL_len (n := c) (k := 19) (by decide) (by omega)
  have g := grp_len3 _ (numL c) (Nat.le_refl _)
  unfold fmtL padL
  simp only [if_true, List.length_append, List.length_replicate]
  omega
section
variable {ss : List Stp} {k : Nat}
theorem rowK_33 (h : k < 10000) (hc : cn ss (sz ss) k ≤ 1000000000000000000) : (rowK ss k).length = 33 := by
  unfold rowK
  rw [List.length_append, List.length_cons, List.length_cons, List.length_cons, fmt_len4 h, fmt_len26 hc]
theorem rowK_t4 (h : k < 10000) : (rowK ss k).take 4 = fmtL 4 false k := by
  unfold rowK
  exact List.take_left' (fmt_len4 h)
theorem rowK_d7 (h : k < 10000) : (rowK ss k).drop 7 = fmtL 26 true (cn ss (sz ss) k) := by
  have e : rowK ss k = (fmtL 4 false k ++ [32, lat ss k, 32]) ++ fmtL 26 true (cn ss (sz ss) k) := by unfold rowK; simp
  rw [e]
  exact List.drop_left' (by rw [List.length_append, fmt_len4 h]; rfl)
theorem rowK_at {j : Nat} (h : k < 10000) : (rowK ss k)[4 + j]? = (32 :: lat ss k :: 32 :: fmtL 26 true (cn ss (sz ss) k))[j]? := by
  unfold rowK
  rw [List.getElem?_append_right (by rw [fmt_len4 h]; omega), fmt_len4 h, show 4 + j - 4 = j by omega]
theorem rowK_4 (h : k < 10000) : (rowK ss k)[4]?.getD 0 = 32 := by rw [show 4 = 4 + 0 from rfl, rowK_at h]; rfl
theorem rowK_5 (h : k < 10000) : (rowK ss k)[5]?.getD 0 = lat ss k := by rw [show 5 = 4 + 1 from rfl, rowK_at h]; rfl
theorem rowK_6 (h : k < 10000) : (rowK ss k)[6]?.getD 0 = 32 := by rw [show 6 = 4 + 2 from rfl, rowK_at h]; rfl
theorem digF_t4 (h : k < 10000) : digF ((rowK ss k).take 4) = numL k := by rw [rowK_t4 h, digF_fmt]
theorem digF_d7 (h : k < 10000) : digF ((rowK ss k).drop 7) = numL (cn ss (sz ss) k) := by rw [rowK_d7 h, digF_fmt]
theorem fmt_no10 {W : Nat} {gr : Bool} {n : Nat} : 10 ∉ fmtL W gr n := by
  have hg : ∀ (m : Nat) (l : List Nat), l.length ≤ m → 10 ∉ l → 10 ∉ grp l := by
    intro m
    induction m with
    | zero => intro l hl h; rw [grp_short (by omega)]; exact h
    | succ m ih =>
      intro l hl h
      by_cases h3 : 3 < l.length
      · have lt : (l.take (l.length - 3)).length = l.length - 3 := by rw [List.length_take]; omega
        rw [grp_long h3]
        intro z
        rcases List.mem_append.mp z with z | z
        · exact ih _ (by omega) (fun q => h (List.mem_of_mem_take q)) z
        · rcases List.mem_cons.mp z with z | z
          · cases z
          · exact h (List.mem_of_mem_drop z)
      · rw [grp_short h3]; exact h
  have hn : 10 ∉ numL n := fun z => by have := numL_digits n _ z; omega
  unfold fmtL padL
  intro z
  rcases List.mem_append.mp z with z | z
  · have := List.eq_of_mem_replicate z; cases this
  · cases gr
    · exact hn z
    · exact hg _ _ (Nat.le_refl _) hn z
theorem rowK_no10 (h : lat ss k ≠ 10) : 10 ∉ rowK ss k := by
  unfold rowK
  simp only [List.mem_append, List.mem_cons, not_or]
  exact ⟨fmt_no10, by decide, fun z => h z.symm, by decide, fmt_no10⟩
end
section
variable (K : PySem.W.Frag) (CT CP : Addr)
def sp_x_law_numberT : Sp := fun vs H Q _ => ∃ L : List Nat, vs = [.str (mkS L)] ∧ L.length ≤ 600 ∧ 1 ≤ (digF L).length ∧ ∀ H', Same H H' → Q (.int (numV (digF L) : Nat)) H'
def sp_x_law_is_table : Sp := fun vs H Q _ => ∃ a ss, vs = [.ref a] ∧ TX K CT CP H a ss ∧ 1 ≤ sz ss ∧ ∀ H', Same H H' → Q (.bl true) H'
def sp_x_law_is_written : Sp := fun vs H Q _ => ∃ a ss, vs = [.ref a] ∧ TX K CT CP H a ss ∧ 1 ≤ ss.length ∧ ∀ H', Same H H' → Q (.bl true) H'
end
section
variable {K : PySem.W.Frag} {CT CP : Addr} {H : Hp} {Q : VK} {E : XK} {a l : Addr} {ss : List Stp} {L w : List Nat} {ws : List (List Nat)}
theorem rd_numT (h : L.length ≤ 600) (h1 : 1 ≤ (digF L).length) (q : ∀ H', Same H H' → Q (.int (numV (digF L) : Nat)) H') : sp_x_law_numberT [.str (mkS L)] H Q E := ⟨L, rfl, h, h1, q⟩
theorem rd_isTable (h : TX K CT CP H a ss) (hz : 1 ≤ sz ss) (q : ∀ H', Same H H' → Q (.bl true) H') : sp_x_law_is_table K CT CP [.ref a] H Q E := ⟨a, ss, rfl, h, hz, q⟩
theorem rd_isWritten (h : TX K CT CP H a ss) (hz : 1 ≤ ss.length) (q : ∀ H', Same H H' → Q (.bl true) H') : sp_x_law_is_written K CT CP [.ref a] H Q E := ⟨a, ss, rfl, h, hz, q⟩
theorem rd_intD (h1 : 1 ≤ w.length) (h2 : w.length ≤ 600) (h : ∀ c ∈ w, 48 ≤ c ∧ c ≤ 57) (q : Q (.int (numV w : Nat)) H) : rIntT [.str (mkS w)] H Q := by
  have hd : NumText.AllDigits (mkS w).cps.toList := by
    show NumText.AllDigits (tl (mkS w))
    rw [tl_mkS]
    exact fun c hc => h c hc
  have hne : (mkS w).cps.toList ≠ [] := by
    show tl (mkS w) ≠ []
    rw [tl_mkS]
    intro z
    rw [z] at h1
    simp at h1
  have hl : (mkS w).cps.toList.length ≤ 4300 := by
    show (tl (mkS w)).length ≤ 4300
    rw [tl_mkS]; omega
  have e := intText_digits hd hne hl
  refine ⟨_, _, rfl, e, by rw [mkS_len]; omega, ?_⟩
  rw [show (mkS w).cps.toList = w from tl_mkS w]
  exact q
theorem isDg_in (c : Nat) : decide (c ∈ (Str.ofString "0123456789").cps.toList) = isDg c := by
  rw [digs_tl]
  have key : c ∈ [48, 49, 50, 51, 52, 53, 54, 55, 56, 57] ↔ 48 ≤ c ∧ c ≤ 57 := by simp only [List.mem_cons, List.not_mem_nil, or_false]; omega
  rw [decide_eq_decide.mpr key]; rfl
theorem fmt_len (ok : okFrom 0 ss) (few : ss.length ≤ 30) : (fmtT ss).length ≤ 4000 := by
  rw [← fmt_eq]
  have h := joinL_len [10] (ss.map fun s => rowL (wrdL s))
  have g := sum_le_rows (L := ss.map fun s => rowL (wrdL s)) (B := 100) (fun x hx => by
    obtain ⟨s, hs, rfl⟩ := List.mem_map.mp hx
    obtain ⟨i, hi⟩ := List.getElem?_of_mem hs
    have o := ok_at ok hi
    exact wrd_len o.1 (by omega)) (fun x => x.length + [10].length) 1 (fun x => rfl)
  rw [List.length_map] at g
  have := Nat.mul_le_mul_right 101 few
  omega
theorem wrd_okWs {s : Stp} {n : Nat} (ok : okStep n s) (hn : n ≤ 1000000000000000000) : okWs (wrdL s) := ⟨by cases s <;> simp [wrdL], fun w hw => by
  have := (w47_wrd ok hn w hw).2
  exact ⟨fun z => by have := this _ z; omega, fun z => by have := this _ z; omega⟩⟩
theorem rows_ss (h : 1 ≤ ss.length) : RowsOf (fmtT ss) (ss.map wrdL) := by
  refine .inr ⟨?_, ?_, rfl⟩
  · match ss, h with
    | s :: r, _ =>
      intro z
      have h5 : 5 ≤ (fmtT (s :: r)).length := by
        have m : rowL (wrdL s) ∈ ((s :: r).map wrdL).map rowL := List.mem_map.mpr ⟨_, List.mem_map.mpr ⟨s, List.mem_cons_self, rfl⟩, rfl⟩
        have h1 := joinL_mem (s := 10) m
        have h2 : 5 ≤ (rowL (wrdL s)).length := by
          cases s with
          | wr x => have := joinL_mem (s := 32) (ws := wrdL (.wr x)) (w := wWr) List.mem_cons_self; exact this
          | pa f l t => have := joinL_mem (s := 32) (ws := wrdL (.pa f l t)) (w := wPa) List.mem_cons_self; exact this
        exact Nat.le_trans h2 h1
      rw [z] at h5
      simp at h5
  · intro z
    have := List.map_eq_nil_iff.mp z
    rw [this] at h; simp at h
theorem rd_parse17 {CNE CIS CTL : Addr} (h : 1 ≤ ss.length) (ok : okFrom 0 ss) (few : ss.length ≤ 30) (q : ∀ x H', Same H H' → H x = none → TX K CT CP H' x ss → Q (.ref x) H') :
    nox (sp_parse_textR K CNE CIS CTL CT CP) [.str (mkS (fmtT ss))] H Q E := by
  have e : (ss.map wrdL).map stpOf = ss := by
    rw [List.map_map]
    conv => rhs; rw [← List.map_id ss]
    exact List.map_congr_left fun s _ => stp_wrd s
  have f0 : fwr 0 (ss.map wrdL) = none := fwr_none 0 _ fun r hr => by
    obtain ⟨s, hs, rfl⟩ := List.mem_map.mp hr
    obtain ⟨i, hi⟩ := List.getElem?_of_mem hs
    have o := ok_at ok hi
    exact wrong_wrd o.1 (by omega)
  have c0 := chk_of ok few
  have hl := fmt_len ok few
  refine ⟨fmtT ss, ss.map wrdL, rfl, by omega, rows_ss h, by rw [List.length_map]; omega, fun r hr => ?_, fun _ _ x H' S n T => q x H' S n (by rw [e] at T; exact T), fun i k z _ _ _ _ => (by rw [f0] at z; cases z), fun _ i z _ _ _ _ => (by rw [e, c0] at z; cases z), fun _ z _ _ => (by rw [e, c0] at z; cases z)⟩
  obtain ⟨s, hs, rfl⟩ := List.mem_map.mp hr
  obtain ⟨i, hi⟩ := List.getElem?_of_mem hs
  have o := ok_at ok hi
  have l1 := wrd_len o.1 (by omega)
  have l2 := wrd_len24 s
  exact ⟨wrd_okWs o.1 (by omega), by omega, by omega⟩
/-- the empty row -/
theorem rd_parse17e {CNE CIS CTL : Addr} (q : ∀ x H', Same H H' → H x = none → TX K CT CP H' x [] → Q (.ref x) H') : nox (sp_parse_textR K CNE CIS CTL CT CP) [.str ""] H Q E :=
  ⟨[], [], rfl, by simp, .inl ⟨rfl, rfl⟩, by simp, fun r hr => (by cases hr), fun _ _ x H' S n T => q x H' S n T, fun i k z _ _ _ _ => (by cases z), fun _ i z _ _ _ _ => (by cases z), fun _ z _ _ => (by cases z)⟩
theorem rd_neRW {p q : Addr} (h : H p = some (.lst (txV ws))) (g : H q = some (.lst (txV ws))) (hw : ∀ w ∈ ws, W47 w) (k : Q (.bl false) H) : rNeA K (.ref p) (.ref q) H Q := by
  have ok : ∀ d ∈ ws.map (fun w => PyData.str (mkS w)), DOk 0 d := fun d hd => by
    obtain ⟨w, h1, rfl⟩ := List.mem_map.mp hd
    exact .str (strOk_of fun c hc => by rw [tl_mkS] at hc; have := (hw w h1).2 c hc; omega)
  refine rd_ne_dat (.lst (SqL.of h) dp_txV) (.lst (SqL.of g) dp_txV) ((DOk.lst (n := 0) ok).shaped (by decide)) ((DOk.lst (n := 0) ok).shaped (by decide)) ?_
  have e : ∀ L : List (List Nat), PyData.eqvAll (L.map fun w => PyData.str (mkS w)) (L.map fun w => PyData.str (mkS w)) = true := by
    intro L
    induction L with
    | nil => rfl
    | cons x xs ih => simp [PyData.eqv, PyData.eqvAll, ih]
  rw [show PyData.eqv (.list (ws.map fun w => PyData.str (mkS w))) (.list (ws.map fun w => PyData.str (mkS w))) = true by simp only [PyData.eqv]; exact e ws]
  exact k
theorem joinL_app (s : Nat) : ∀ {a b : List (List Nat)}, a ≠ [] → b ≠ [] → joinL [s] (a ++ b) = joinL [s] a ++ ([s] ++ joinL [s] b)
  | [], _, h, _ => absurd rfl h
  | [x], b, _, hb => by
    match b, hb with
    | y :: r, _ => rfl
  | x :: y :: r, b, _, hb => by
    have ih := joinL_app s (a := y :: r) (b := b) (by simp) hb
    have e1 : joinL [s] (x :: y :: r ++ b) = x ++ ([s] ++ joinL [s] (y :: r ++ b)) := rfl
    have e2 : joinL [s] (x :: y :: r) = x ++ ([s] ++ joinL [s] (y :: r)) := rfl
    rw [e1, e2, ih]
    simp
theorem join_wr {ts : List Stp} {us : List Str} (h : ts = us.map .wr) : joinS ss ts = ss ++ ts := by
  subst h
  unfold joinS
  rw [List.map_map]; rfl
theorem fmt_app {ts : List Stp} (h1 : 1 ≤ ss.length) (h2 : 1 ≤ ts.length) : fmtT (ss ++ ts) = fmtT ss ++ ([10] ++ fmtT ts) := by
  unfold fmtT rowsL
  rw [List.map_append, List.map_append]
  exact joinL_app 10 (fun z => by have := congrArg List.length z; simp at this; rw [this] at h1; simp at h1) (fun z => by have := congrArg List.length z; simp at this; rw [this] at h2; simp at h2)
theorem encT_length : (encT ss).length = ((ss.map encS).flatten).length + 3 := by unfold encT encV; simp
theorem encT_app {ts : List Stp} : (encT (ss ++ ts)).length + 3 = (encT ss).length + (encT ts).length := by
  rw [encT_length, encT_length, encT_length, List.map_append, List.flatten_append, List.length_append]; omega
theorem enc_24 {w : Str} {ts : List Stp} : ((encT (.wr w :: ts)).drop 2).take 2 = [0, w.length] := by
  rw [len_tl]; rfl
theorem enc_02 (h : 1 ≤ ss.length) : (encT ss).take 2 = [80, ss.length] := rfl
end
section
variable {K : PySem.W.Frag} {J : It} {n j : Nat} {it : Nat → V} {te : TE} {vs : List Nat} {σ : St} {H H1 : Hp} {D r : Addr} {Qd : Hp → Prop}
/-- a comprehension that draws steps that write words -/
theorem lc_wrs (P : ∀ H, Kp H1 H → Plain J n it H) (hD : H1 D = none) (hn : n ≤ sizeLine) (hj : ∀ v, wipe ((wipe σ vs).set j (some v)) vs = wipe σ vs) (row : RowAt K H1 r)
    (hs : ∀ i H (Q : VK), i < n → Kp H1 H → RowAt K H r → (∀ (w : Str) (p : Addr) H', Kp H H' → RowAt K H' r → okWord w 20 → H' p = some (.tup [.str "write", .str w]) → Q (.ref p) H') → te ((wipe σ vs).set j (some (it i))) H Q)
    (hd : ∀ H ms (us : List Str), Kp H1 H → RowAt K H r → H D = some (.lst ms) → StepsAt K H ms (us.map Stp.wr) → us.length = n → (∀ w ∈ us, okWord w 20) → Qd H) : LcW J (gName j) tYes te vs σ H1 D Qd := by
  refine ⟨fun i m H => m = n - i ∧ i ≤ n ∧ Kp H1 H ∧ RowAt K H r ∧ ∃ (as : List Addr) (us : List Str), H D = some (.lst (as.map V.ref)) ∧ as.length = i ∧ us.length = i ∧ ∀ (b : Nat) (w : Str), us[b]? = some w → okWord w 20 ∧ ∃ T, as[b]? = some T ∧ H T = some (.tup [.str "write", .str w]),
    ⟨_, rfl, Nat.zero_le _, Kp.new Kp.refl hD, row.mono (Same.new (Same.refl _) hD), [], [], upd_same, rfl, rfl, fun b c h => by simp at h⟩, ?_⟩
  rintro i m H ⟨rfl, hi, S, rw_, as, us, eD, hl, hl2, hr⟩
  have PP := P H S
  by_cases hlt : i < n
  · refine .inr ⟨PP.go i H (Same.refl _) hlt, fun H' => i + 1 ≤ n ∧ Kp H1 H' ∧ RowAt K H' r ∧ ∃ (as : List Addr) (us : List Str), H' D = some (.lst (as.map V.ref)) ∧ as.length = i + 1 ∧ us.length = i + 1 ∧ ∀ (b : Nat) (w : Str), us[b]? = some w → okWord w 20 ∧ ∃ T, as[b]? = some T ∧ H' T = some (.tup [.str "write", .str w]), fun H' z => ⟨n - (i + 1), by omega, rfl, z⟩, fun x H' y => ?_⟩
    obtain ⟨e1, e2⟩ := PP.yld i H x H' (Same.refl _) hlt y
    subst e1 e2
    refine ⟨hj _, ?_⟩
    refine rd_yes (iteT ?_)
    refine hs i H' _ hlt S rw_ fun w p H2 k2 row2 c1 ep => ?_
    have nl : ¬ isRow (.lst (as.map V.ref)) := nr_refs fun v hv => by obtain ⟨x, _, rfl⟩ := List.mem_map.mp hv; rfl
    have eD2 := k2 _ _ nl eD
    have nt : ∀ {T : Addr} {ys : List V}, H2 T = some (.tup ys) → upd H2 D (.lst (as.map V.ref ++ [V.ref p])) T = some (.tup ys) := fun {T ys} q => by
      rw [upd_ne fun z => by subst z; rw [eD2] at q; cases q]; exact q
    refine ⟨_, eD2, by rw [List.length_map]; omega, hlt, (S.trans k2).mut hD, row.butL (S.trans k2) hD row2 eD2, as ++ [p], us ++ [w], by rw [upd_same, List.map_append]; rfl, by simp [hl], by simp [hl2], fun b d hb => ?_⟩
    by_cases hbi : b < i
    · rw [List.getElem?_append_left (by omega)] at hb
      obtain ⟨d1, T, d4, d5⟩ := hr b d hb
      exact ⟨d1, T, by rw [List.getElem?_append_left (by omega)]; exact d4, nt (k2 _ _ nr_tup d5)⟩
    · rw [List.getElem?_append_right (by omega)] at hb
      have hb0 : b - us.length = 0 := by
        have := (List.getElem?_eq_some_iff.mp hb).1
        simp at this; omega
      rw [hb0] at hb
      cases hb
      refine ⟨c1, p, ?_, nt ep⟩
      rw [List.getElem?_append_right (by omega), show b - as.length = 0 by omega]; rfl
  · have e : i = n := by omega
    subst e
    refine .inl ⟨PP.stop H (Same.refl _), hd H _ us S rw_ eD ⟨by rw [List.length_map, List.length_map]; omega, fun b s hb => ?_⟩ hl2 fun w hw => ?_⟩
    · rw [List.getElem?_map] at hb
      obtain ⟨w, hw, rfl⟩ := Option.map_eq_some_iff.mp hb
      obtain ⟨_, T, d4, d5⟩ := hr b w hw
      exact ⟨.ref T, by rw [List.getElem?_map, d4]; rfl, StepAt.wrN d5⟩
    · obtain ⟨b, hb⟩ := List.getElem?_of_mem hw
      exact (hr b w hb).1
end
/-- texts of words only -/
theorem ok_usW : ∀ (us : List Str) (n : Nat), n + 20 * us.length ≤ 1000000000000000000 → (∀ w ∈ us, okWord w 20) → okFrom n (us.map Stp.wr)
  | [], _, _, _ => trivial
  | w :: us, n, h, hw => by
    have h1 := hw w List.mem_cons_self
    have l20 := h1.2.1
    rw [List.length_cons] at h
    have e : len1 (.wr w) = w.length := rfl
    exact ⟨h1.step (Nat.le_refl _), by rw [e]; omega, ok_usW us _ (by rw [e]; omega) fun x hx => hw x (List.mem_cons_of_mem _ hx)⟩
theorem sz_usW : ∀ (us : List Str), (∀ w ∈ us, okWord w 20) → us.length ≤ sz (us.map Stp.wr) ∧ sz (us.map Stp.wr) ≤ 20 * us.length
  | [], _ => by simp [sz]
  | w :: us, hw => by
    have h1 := hw w List.mem_cons_self
    have ih := sz_usW us fun x hx => hw x (List.mem_cons_of_mem _ hx)
    have e : sz ((w :: us).map Stp.wr) = w.length + sz (us.map Stp.wr) := by
      rw [List.map_cons, show Stp.wr w :: us.map Stp.wr = [Stp.wr w] ++ us.map Stp.wr from rfl, sz_append]
      simp [sz, len1]
    rw [e, List.length_cons]
    have := h1.1
    have := h1.2.1
    omega
end L2.Px
set_option Elab.async false
set_option linter.all false
set_option maxRecDepth 100000
set_option maxHeartbeats 4000000
namespace L2.Px
open PySem PySem.Spec PyProof.Rows StX TL ClX
def top (i : Nat) : Stmt := PySem.Challenge.pw_pastekeys_k17_whole_rows_and_bytes.main.body.getD i (.Pass ⟨0, 0, 0, 0⟩)
abbrev s_is_integer : Stmt := top 16
abbrev N_is_integer : List Str := ["value", "low", "high"]
theorem sc_is_integer : FnScope N_is_integer ["value", "low", "high"] (defScope s_is_integer) := ⟨rfl, rfl, rfl, by decide +kernel, rfl, by decide +kernel, by decide +kernel⟩
abbrev s_is_letter : Stmt := top 17
abbrev N_is_letter : List Str := ["value"]
theorem sc_is_letter : FnScope N_is_letter ["value"] (defScope s_is_letter) := ⟨rfl, rfl, rfl, by decide +kernel, rfl, by decide +kernel, by decide +kernel⟩
abbrev s_is_word : Stmt := top 18
abbrev N_is_word : List Str := ["value", "letter"]
theorem sc_is_word : FnScope N_is_word ["value"] (defScope s_is_word) := ⟨rfl, rfl, rfl, by decide +kernel, rfl, by decide +kernel, by decide +kernel⟩
abbrev s_is_step : Stmt := top 19
abbrev N_is_step : List Str := ["value", "size", "word", "first", "last", "times"]
theorem sc_is_step : FnScope N_is_step ["value", "size"] (defScope s_is_step) := ⟨rfl, rfl, rfl, by decide +kernel, rfl, by decide +kernel, by decide +kernel⟩
abbrev s_Part_init : Stmt := inClass (top 20) 0
abbrev N_Part_init : List Str := ["self", "start", "length", "is_typed", "first", "last"]
theorem sc_Part_init : FnScope N_Part_init ["self", "start", "length", "is_typed", "first", "last"] (defScope s_Part_init) := ⟨rfl, rfl, rfl, by decide +kernel, rfl, by decide +kernel, by decide +kernel⟩
abbrev s_Part_source : Stmt := inClass (top 20) 1
abbrev s_Text_init : Stmt := inClass (top 21) 1
abbrev N_Text_init : List Str := ["self", "steps", "parts", "typed", "total", "index", "step"]
theorem sc_Text_init : FnScope N_Text_init ["self", "steps"] (defScope s_Text_init) := ⟨rfl, rfl, rfl, by decide +kernel, rfl, by decide +kernel, by decide +kernel⟩
abbrev s_Text_of_steps : Stmt := inClass (top 21) 3
abbrev N_Text_of_steps : List Str := ["cls", "steps"]
theorem sc_Text_of_steps : FnScope N_Text_of_steps ["cls", "steps"] (defScope s_Text_of_steps) := ⟨rfl, rfl, rfl, by decide +kernel, rfl, by decide +kernel, by decide +kernel⟩
abbrev s_Text_steps : Stmt := inClass (top 21) 4
abbrev N_Text_steps : List Str := ["self"]
theorem sc_Text_steps : FnScope N_Text_steps ["self"] (defScope s_Text_steps) := ⟨rfl, rfl, rfl, by decide +kernel, rfl, by decide +kernel, by decide +kernel⟩
abbrev s_Text_typed_keys : Stmt := inClass (top 21) 5
abbrev N_Text_typed_keys : List Str := ["self"]
theorem sc_Text_typed_keys : FnScope N_Text_typed_keys ["self"] (defScope s_Text_typed_keys) := ⟨rfl, rfl, rfl, by decide +kernel, rfl, by decide +kernel, by decide +kernel⟩
abbrev s_Text_size : Stmt := inClass (top 21) 6
abbrev N_Text_size : List Str := ["self"]
theorem sc_Text_size : FnScope N_Text_size ["self"] (defScope s_Text_size) := ⟨rfl, rfl, rfl, by decide +kernel, rfl, by decide +kernel, by decide +kernel⟩
abbrev s_Text_check_place : Stmt := inClass (top 21) 8
abbrev s_Text_key_of : Stmt := inClass (top 21) 10
abbrev s_Text_call : Stmt := inClass (top 21) 11
abbrev s_Text_getitem : Stmt := inClass (top 21) 12
abbrev s_Text_contains : Stmt := inClass (top 21) 13
abbrev s_moved_step : Stmt := top 22
abbrev N_moved_step : List Str := ["step", "size"]
theorem sc_moved_step : FnScope N_moved_step ["step", "size"] (defScope s_moved_step) := ⟨rfl, rfl, rfl, by decide +kernel, rfl, by decide +kernel, by decide +kernel⟩
abbrev s_joined : Stmt := top 23
abbrev N_joined : List Str := ["one", "other", "both", "step"]
theorem sc_joined : FnScope N_joined ["one", "other"] (defScope s_joined) := ⟨rfl, rfl, rfl, by decide +kernel, rfl, by decide +kernel, by decide +kernel⟩
abbrev s_repeated : Stmt := top 24
abbrev N_repeated : List Str := ["text", "times", "longer"]
theorem sc_repeated : FnScope N_repeated ["text", "times"] (defScope s_repeated) := ⟨rfl, rfl, rfl, by decide +kernel, rfl, by decide +kernel, by decide +kernel⟩
abbrev s_Text_add : Stmt := inClass (top 21) 15
abbrev N_Text_add : List Str := ["self", "other"]
theorem sc_Text_add : FnScope N_Text_add ["self", "other"] (defScope s_Text_add) := ⟨rfl, rfl, rfl, by decide +kernel, rfl, by decide +kernel, by decide +kernel⟩
abbrev s_Text_mul : Stmt := inClass (top 21) 16
abbrev N_Text_mul : List Str := ["self", "times"]
theorem sc_Text_mul : FnScope N_Text_mul ["self", "times"] (defScope s_Text_mul) := ⟨rfl, rfl, rfl, by decide +kernel, rfl, by decide +kernel, by decide +kernel⟩
abbrev s_Text_eq : Stmt := inClass (top 21) 14
abbrev N_Text_eq : List Str := ["self", "other"]
theorem sc_Text_eq : FnScope N_Text_eq ["self", "other"] (defScope s_Text_eq) := ⟨rfl, rfl, rfl, by decide +kernel, rfl, by decide +kernel, by decide +kernel⟩
abbrev s_x_law_taken : Stmt := top 53
abbrev N_x_law_taken : List Str := ["_law_row", "_law_many", "_law_found", "_law_cell"]
theorem sc_x_law_taken : FnScope N_x_law_taken ["_law_row", "_law_many"] (defScope s_x_law_taken) := ⟨rfl, rfl, rfl, by decide +kernel, rfl, by decide +kernel, by decide +kernel⟩
abbrev s_x_law_word : Stmt := top 54
abbrev N_x_law_word : List Str := ["_law_row", "_law_most", "_law_word_here", "_law_k"]
theorem sc_x_law_word : FnScope N_x_law_word ["_law_row", "_law_most"] (defScope s_x_law_word) := ⟨rfl, rfl, rfl, by decide +kernel, rfl, by decide +kernel, by decide +kernel⟩
abbrev s_x_law_steps : Stmt := top 55
abbrev N_x_law_steps : List Str := ["_law_row", "_law_count", "_law_most", "_law_steps_here", "_law_size", "_law_k", "_law_word_here", "_law_first", "_law_last", "_law_times"]
theorem sc_x_law_steps : FnScope N_x_law_steps ["_law_row", "_law_count", "_law_most"] (defScope s_x_law_steps) := ⟨rfl, rfl, rfl, by decide +kernel, rfl, by decide +kernel, by decide +kernel⟩
abbrev s_x_law_long : Stmt := top 56
abbrev N_x_law_long : List Str := ["_law_row", "_law_text", "_law_turn", "_law_times"]
theorem sc_x_law_long : FnScope N_x_law_long ["_law_row"] (defScope s_x_law_long) := ⟨rfl, rfl, rfl, by decide +kernel, rfl, by decide +kernel, by decide +kernel⟩
abbrev s_InvalidStep_init : Stmt := inClass (top 3) 0
abbrev N_InvalidStep_init : List Str := ["self", "index"]
theorem sc_InvalidStep_init : FnScope N_InvalidStep_init ["self", "index"] (defScope s_InvalidStep_init) := ⟨rfl, rfl, rfl, by decide +kernel, rfl, by decide +kernel, by decide +kernel⟩
abbrev s_NotationError_init : Stmt := inClass (top 7) 0
abbrev N_NotationError_init : List Str := ["self", "row", "word"]
theorem sc_NotationError_init : FnScope N_NotationError_init ["self", "row", "word"] (defScope s_NotationError_init) := ⟨rfl, rfl, rfl, by decide +kernel, rfl, by decide +kernel, by decide +kernel⟩
abbrev s_DecodeError_init : Stmt := inClass (top 9) 0
abbrev N_DecodeError_init : List Str := ["self", "offset"]
theorem sc_DecodeError_init : FnScope N_DecodeError_init ["self", "offset"] (defScope s_DecodeError_init) := ⟨rfl, rfl, rfl, by decide +kernel, rfl, by decide +kernel, by decide +kernel⟩
abbrev s_Counter_init : Stmt := inClass (top 26) 0
abbrev N_Counter_init : List Str := ["self", "text"]
theorem sc_Counter_init : FnScope N_Counter_init ["self", "text"] (defScope s_Counter_init) := ⟨rfl, rfl, rfl, by decide +kernel, rfl, by decide +kernel, by decide +kernel⟩
abbrev s_Counter_before : Stmt := inClass (top 26) 1
abbrev N_Counter_before : List Str := ["self", "place"]
theorem sc_Counter_before : FnScope N_Counter_before ["self", "place"] (defScope s_Counter_before) := ⟨rfl, rfl, rfl, by decide +kernel, rfl, by decide +kernel, by decide +kernel⟩
abbrev s_Counter_counts_before : Stmt := inClass (top 26) 2
abbrev N_Counter_counts_before : List Str := ["self", "place", "part", "one", "counts", "size", "key", "length", "rounds", "rest", "low", "high", "some", "found", "count"]
theorem sc_Counter_counts_before : FnScope N_Counter_counts_before ["self", "place"] (defScope s_Counter_counts_before) := ⟨rfl, rfl, rfl, by decide +kernel, rfl, by decide +kernel, by decide +kernel⟩
abbrev s_check_range : Stmt := top 27
abbrev N_check_range : List Str := ["text", "first", "last"]
theorem sc_check_range : FnScope N_check_range ["text", "first", "last"] (defScope s_check_range) := ⟨rfl, rfl, rfl, by decide +kernel, rfl, by decide +kernel, by decide +kernel⟩
abbrev s_key_counts : Stmt := top 28
abbrev N_key_counts : List Str := ["text", "first", "last", "counter", "low", "high"]
theorem sc_key_counts : FnScope N_key_counts ["text", "first", "last"] (defScope s_key_counts) := ⟨rfl, rfl, rfl, by decide +kernel, rfl, by decide +kernel, by decide +kernel⟩
abbrev s_format_text : Stmt := top 35
abbrev N_format_text : List Str := ["text", "part", "step"]
theorem sc_format_text : FnScope N_format_text ["text"] (defScope s_format_text) := ⟨rfl, rfl, rfl, by decide +kernel, rfl, by decide +kernel, by decide +kernel⟩
abbrev s_is_number : Stmt := top 36
abbrev N_is_number : List Str := ["word", "digit"]
theorem sc_is_number : FnScope N_is_number ["word"] (defScope s_is_number) := ⟨rfl, rfl, rfl, by decide +kernel, rfl, by decide +kernel, by decide +kernel⟩
abbrev s_step_of : Stmt := top 37
abbrev N_step_of : List Str := ["row", "line", "words", "count", "place"]
theorem sc_step_of : FnScope N_step_of ["row", "line"] (defScope s_step_of) := ⟨rfl, rfl, rfl, by decide +kernel, rfl, by decide +kernel, by decide +kernel⟩
abbrev s_parse_text : Stmt := top 38
abbrev N_parse_text : List Str := ["rows", "lines", "steps", "row", "line"]
theorem sc_parse_text : FnScope N_parse_text ["rows"] (defScope s_parse_text) := ⟨rfl, rfl, rfl, by decide +kernel, rfl, by decide +kernel, by decide +kernel⟩
abbrev s_key_table : Stmt := top 39
abbrev N_key_table : List Str := ["text", "counts", "rows", "key", "letter", "count"]
theorem sc_key_table : FnScope N_key_table ["text"] (defScope s_key_table) := ⟨rfl, rfl, rfl, by decide +kernel, rfl, by decide +kernel, by decide +kernel⟩
abbrev s_pack_bytes : Stmt := top 45
abbrev N_pack_bytes : List Str := ["values", "value"]
theorem sc_pack_bytes : FnScope N_pack_bytes ["values"] (defScope s_pack_bytes) := ⟨rfl, rfl, rfl, by decide +kernel, rfl, by decide +kernel, by decide +kernel⟩
abbrev s_unpack_bytes : Stmt := top 46
abbrev N_unpack_bytes : List Str := ["data"]
theorem sc_unpack_bytes : FnScope N_unpack_bytes ["data"] (defScope s_unpack_bytes) := ⟨rfl, rfl, rfl, by decide +kernel, rfl, by decide +kernel, by decide +kernel⟩
abbrev s_checksum_of : Stmt := top 47
abbrev N_checksum_of : List Str := ["values", "result", "value"]
theorem sc_checksum_of : FnScope N_checksum_of ["values"] (defScope s_checksum_of) := ⟨rfl, rfl, rfl, by decide +kernel, rfl, by decide +kernel, by decide +kernel⟩
abbrev s_number_values : Stmt := top 48
abbrev N_number_values : List Str := ["number", "values"]
theorem sc_number_values : FnScope N_number_values ["number"] (defScope s_number_values) := ⟨rfl, rfl, rfl, by decide +kernel, rfl, by decide +kernel, by decide +kernel⟩
abbrev s_encode_text : Stmt := top 49
abbrev N_encode_text : List Str := ["text", "values", "step", "letter", "number"]
theorem sc_encode_text : FnScope N_encode_text ["text"] (defScope s_encode_text) := ⟨rfl, rfl, rfl, by decide +kernel, rfl, by decide +kernel, by decide +kernel⟩
abbrev s_Decoder_init : Stmt := inClass (top 50) 0
abbrev N_Decoder_init : List Str := ["self", "data"]
theorem sc_Decoder_init : FnScope N_Decoder_init ["self", "data"] (defScope s_Decoder_init) := ⟨rfl, rfl, rfl, by decide +kernel, rfl, by decide +kernel, by decide +kernel⟩
abbrev s_Decoder_take : Stmt := inClass (top 50) 1
abbrev N_Decoder_take : List Str := ["self", "low", "high"]
theorem sc_Decoder_take : FnScope N_Decoder_take ["self", "low", "high"] (defScope s_Decoder_take) := ⟨rfl, rfl, rfl, by decide +kernel, rfl, by decide +kernel, by decide +kernel⟩
abbrev s_Decoder_take_number : Stmt := inClass (top 50) 2
abbrev N_Decoder_take_number : List Str := ["self", "low", "high", "start", "number", "factor", "byte"]
theorem sc_Decoder_take_number : FnScope N_Decoder_take_number ["self", "low", "high"] (defScope s_Decoder_take_number) := ⟨rfl, rfl, rfl, by decide +kernel, rfl, by decide +kernel, by decide +kernel⟩
abbrev s_Decoder_take_step : Stmt := inClass (top 50) 3
abbrev N_Decoder_take_step : List Str := ["self", "start", "length", "step", "turn", "first", "last", "times"]
theorem sc_Decoder_take_step : FnScope N_Decoder_take_step ["self"] (defScope s_Decoder_take_step) := ⟨rfl, rfl, rfl, by decide +kernel, rfl, by decide +kernel, by decide +kernel⟩
abbrev s_Decoder_finish : Stmt := inClass (top 50) 4
abbrev N_Decoder_finish : List Str := ["self", "checksum"]
theorem sc_Decoder_finish : FnScope N_Decoder_finish ["self"] (defScope s_Decoder_finish) := ⟨rfl, rfl, rfl, by decide +kernel, rfl, by decide +kernel, by decide +kernel⟩
abbrev s_decode_text : Stmt := top 51
abbrev N_decode_text : List Str := ["data", "decoder", "steps", "turn"]
theorem sc_decode_text : FnScope N_decode_text ["data"] (defScope s_decode_text) := ⟨rfl, rfl, rfl, by decide +kernel, rfl, by decide +kernel, by decide +kernel⟩
abbrev s_x_law_number : Stmt := top 57
abbrev N_x_law_number : List Str := ["_law_text", "_law_sign"]
theorem sc_x_law_number : FnScope N_x_law_number ["_law_text"] (defScope s_x_law_number) := ⟨rfl, rfl, rfl, by decide +kernel, rfl, by decide +kernel, by decide +kernel⟩
abbrev s_x_law_is_table : Stmt := top 58
abbrev N_x_law_is_table : List Str := ["_law_text", "_law_rows", "_law_counts", "_law_key", "_law_line"]
theorem sc_x_law_is_table : FnScope N_x_law_is_table ["_law_text"] (defScope s_x_law_is_table) := ⟨rfl, rfl, rfl, by decide +kernel, rfl, by decide +kernel, by decide +kernel⟩
abbrev s_x_law_is_written : Stmt := top 59
abbrev N_x_law_is_written : List Str := ["_law_text", "_law_rows", "_law_values", "_law_k", "_law_part"]
theorem sc_x_law_is_written : FnScope N_x_law_is_written ["_law_text"] (defScope s_x_law_is_written) := ⟨rfl, rfl, rfl, by decide +kernel, rfl, by decide +kernel, by decide +kernel⟩
abbrev s_law : Stmt := top 60
abbrev N_law : List Str := ["_law_script", "_law_row", "_law_turn", "_law_one", "_law_two", "_law_words", "_law_k", "_law_text", "_law_sizes", "_law_values"]
theorem sc_law : FnScope N_law ["_law_script"] (defScope s_law) := ⟨rfl, rfl, rfl, by decide +kernel, rfl, by decide +kernel, by decide +kernel⟩
structure Txt (K : PySem.W.Frag) (mg : Str → Option Value) (CText : Addr) (CPart : Addr) (CCounter : Addr) (CDecoder : Addr) (CTextError : Addr) (CInvalidStep : Addr) (CTooLong : Addr) (CInvalidPlace : Addr) (CInvalidNumber : Addr) (CNotationError : Addr) (CInvalidCount : Addr) (CDecodeError : Addr) : Prop where
  d_is_integer : DefG K mg "is_integer" s_is_integer ["value", "low", "high"]
  d_is_letter : DefG K mg "is_letter" s_is_letter ["value"]
  d_is_word : DefG K mg "is_word" s_is_word ["value"]
  d_is_step : DefG K mg "is_step" s_is_step ["value", "size"]
  d_Part_init : DefK K CPart "Part.__init__" s_Part_init ["self", "start", "length", "is_typed", "first", "last"]
  d_Part_source : DefM K CPart "source" "Part.source" s_Part_source ["self", "place"]
  d_Text_init : DefKS K CText "Text.__init__" s_Text_init ["self"] "steps"
  d_Text_of_steps : DefC K CText "of_steps" "Text.of_steps" s_Text_of_steps ["cls", "steps"]
  d_Text_steps : DefP K CText "steps" "Text.steps" s_Text_steps
  d_Text_typed_keys : DefP K CText "typed_keys" "Text.typed_keys" s_Text_typed_keys
  d_Text_size : DefP K CText "size" "Text.size" s_Text_size
  d_Text_check_place : DefM K CText "check_place" "Text.check_place" s_Text_check_place ["self", "place"]
  d_Text_key_of : DefM K CText "key_of" "Text.key_of" s_Text_key_of ["self", "place"]
  d_Text_call : DefX K (CallO K CText) "__call__" "Text.__call__" s_Text_call ["self", "place"]
  d_Text_getitem : DefX K (IOwn K CText) "__getitem__" "Text.__getitem__" s_Text_getitem ["self", "place"]
  d_Text_contains : DefX K (COwn K CText) "__contains__" "Text.__contains__" s_Text_contains ["self", "letter"]
  d_moved_step : DefG K mg "moved_step" s_moved_step ["step", "size"]
  d_joined : DefG K mg "joined" s_joined ["one", "other"]
  d_repeated : DefG K mg "repeated" s_repeated ["text", "times"]
  d_Text_add : DefX K (BOwn K CText (PySem.dunder (Operator.Add).info.2)) "__add__" "Text.__add__" s_Text_add ["self", "other"]
  d_Text_mul : DefX K (BOwnI K CText .Mult) "__mul__" "Text.__mul__" s_Text_mul ["self", "times"]
  d_Text_eq : DefX K (EOwn K CText) "__eq__" "Text.__eq__" s_Text_eq ["self", "other"]
  d_x_law_taken : DefG K mg "_law_taken" s_x_law_taken ["_law_row", "_law_many"]
  d_x_law_word : DefG K mg "_law_word" s_x_law_word ["_law_row", "_law_most"]
  d_x_law_steps : DefG K mg "_law_steps" s_x_law_steps ["_law_row", "_law_count", "_law_most"]
  d_x_law_long : DefG K mg "_law_long" s_x_law_long ["_law_row"]
  d_InvalidStep_init : DefI K CInvalidStep "InvalidStep.__init__" s_InvalidStep_init ["self", "index"]
  d_NotationError_init : DefI K CNotationError "NotationError.__init__" s_NotationError_init ["self", "row", "word"]
  d_DecodeError_init : DefI K CDecodeError "DecodeError.__init__" s_DecodeError_init ["self", "offset"]
  d_Counter_init : DefK K CCounter "Counter.__init__" s_Counter_init ["self", "text"]
  d_Counter_before : DefM K CCounter "before" "Counter.before" s_Counter_before ["self", "place"]
  d_Counter_counts_before : DefM K CCounter "counts_before" "Counter.counts_before" s_Counter_counts_before ["self", "place"]
  d_check_range : DefG K mg "check_range" s_check_range ["text", "first", "last"]
  d_key_counts : DefG K mg "key_counts" s_key_counts ["text", "first", "last"]
  d_format_text : DefG K mg "format_text" s_format_text ["text"]
  d_is_number : DefG K mg "is_number" s_is_number ["word"]
  d_step_of : DefG K mg "step_of" s_step_of ["row", "line"]
  d_parse_text : DefG K mg "parse_text" s_parse_text ["rows"]
  d_key_table : DefG K mg "key_table" s_key_table ["text"]
  d_pack_bytes : DefG K mg "pack_bytes" s_pack_bytes ["values"]
  d_unpack_bytes : DefG K mg "unpack_bytes" s_unpack_bytes ["data"]
  d_checksum_of : DefG K mg "checksum_of" s_checksum_of ["values"]
  d_number_values : DefG K mg "number_values" s_number_values ["number"]
  d_encode_text : DefG K mg "encode_text" s_encode_text ["text"]
  d_Decoder_init : DefK K CDecoder "Decoder.__init__" s_Decoder_init ["self", "data"]
  d_Decoder_take : DefM K CDecoder "take" "Decoder.take" s_Decoder_take ["self", "low", "high"]
  d_Decoder_take_number : DefM K CDecoder "take_number" "Decoder.take_number" s_Decoder_take_number ["self", "low", "high"]
  d_Decoder_take_step : DefM K CDecoder "take_step" "Decoder.take_step" s_Decoder_take_step ["self"]
  d_Decoder_finish : DefM K CDecoder "finish" "Decoder.finish" s_Decoder_finish ["self"]
  d_decode_text : DefG K mg "decode_text" s_decode_text ["data"]
  d_x_law_number : DefG K mg "_law_number" s_x_law_number ["_law_text"]
  d_x_law_is_table : DefG K mg "_law_is_table" s_x_law_is_table ["_law_text"]
  d_x_law_is_written : DefG K mg "_law_is_written" s_x_law_is_written ["_law_text"]
  d_law : DefG K mg "law" s_law ["_law_script"]
  cText : Cls K CText
  g_Text : mg "Text" = some (.ref CText)
  cPart : Cls K CPart
  g_Part : mg "Part" = some (.ref CPart)
  cCounter : Cls K CCounter
  g_Counter : mg "Counter" = some (.ref CCounter)
  cDecoder : Cls K CDecoder
  g_Decoder : mg "Decoder" = some (.ref CDecoder)
  ne_Text_Part : CText ≠ CPart
  ne_Text_Counter : CText ≠ CCounter
  ne_Text_Decoder : CText ≠ CDecoder
  ne_Part_Counter : CPart ≠ CCounter
  ne_Part_Decoder : CPart ≠ CDecoder
  ne_Counter_Decoder : CCounter ≠ CDecoder
  xb_TextError : XBs K mg "TextError" CTextError
  x_InvalidStep : XOw K mg "InvalidStep" CInvalidStep ["index"]
  x_TooLong : XPl K mg "TooLong" CTooLong
  x_InvalidPlace : XPl K mg "InvalidPlace" CInvalidPlace
  x_InvalidNumber : XPl K mg "InvalidNumber" CInvalidNumber
  x_NotationError : XOw K mg "NotationError" CNotationError ["row", "word"]
  x_InvalidCount : XPl K mg "InvalidCount" CInvalidCount
  x_DecodeError : XOw K mg "DecodeError" CDecodeError ["offset"]
  na_Part_start : NoAttr K CPart "start"
  na_Part_length : NoAttr K CPart "length"
  na_Part_is_typed : NoAttr K CPart "is_typed"
  na_Part_first : NoAttr K CPart "first"
  na_Part_last : NoAttr K CPart "last"
  na_Text_made : NoAttr K CText "made"
  na_Text_typed : NoAttr K CText "typed"
  na_Text_parts : NoAttr K CText "parts"
  na_Text_total : NoAttr K CText "total"
  na_Counter_text : NoAttr K CCounter "text"
  na_Counter_known : NoAttr K CCounter "known"
  na_Decoder_data : NoAttr K CDecoder "data"
  na_Decoder_offset : NoAttr K CDecoder "offset"
  na_Decoder_total : NoAttr K CDecoder "total"
  k_LETTERS : ∃ t, mg "LETTERS" = some (.str "abcdefghijklmnopqrstuvwxyz" t)
  k_MAX_WORD : ∃ t, mg "MAX_WORD" = some (.int 20 t)
  k_MAX_STEPS : ∃ t, mg "MAX_STEPS" = some (.int 30 t)
  k_MAX_TIMES : ∃ t, mg "MAX_TIMES" = some (.int 1000000000 t)
  k_MAX_SIZE_texts : ∃ t, mg "MAX_SIZE_texts" = some (.int 1000000000000000000 t)
  k_WRITE : ∃ t, mg "WRITE" = some (.str "write" t)
  k_PASTE : ∃ t, mg "PASTE" = some (.str "paste" t)
  k_DIGITS : ∃ t, mg "DIGITS" = some (.str "0123456789" t)
  k_MAX_DIGITS : ∃ t, mg "MAX_DIGITS" = some (.int 18 t)
  k_PASTE_WORDS : ∃ t, mg "PASTE_WORDS" = some (.int 4 t)
  k_FIRST_BYTE : ∃ t, mg "FIRST_BYTE" = some (.int 80 t)
  k_BYTE : ∃ t, mg "BYTE" = some (.int 256 t)
  k_GROUP : ∃ t, mg "GROUP" = some (.int 128 t)
  k_CHECKSUM_MODULUS : ∃ t, mg "CHECKSUM_MODULUS" = some (.int 227 t)
  cg_Text : ClsG K CText
  isi_oo : PySem.W.kitOne K (.ref CText) (.ref CText) = some true
  isi_to : PySem.W.kitOne K (.type "tuple") (.ref CText) = some false
  n_isinstance : mg "isinstance" = none
  n_int : mg "int" = none
  n_bool : mg "bool" = none
  n_str : mg "str" = none
  n_len : mg "len" = none
  n_all : mg "all" = none
  n_tuple : mg "tuple" = none
  n_list : mg "list" = none
  n_range : mg "range" = none
  n_enumerate : mg "enumerate" = none
  n_min : mg "min" = none
  n_max : mg "max" = none
  n_divmod : mg "divmod" = none
  n_sum : mg "sum" = none
  n_zip : mg "zip" = none
  n_sorted : mg "sorted" = none
  n_bytes : mg "bytes" = none
  n_ValueError : mg "ValueError" = none
local macro_rules | `(tactic| walk_at "rd1") => `(tactic| first
  | with_reducible refine rd_seq ?_ | with_reducible refine rd_asg ?_ | with_reducible refine rd_name ?_ | ((with_reducible refine' rd_var ?k1 ?_); (case k1 => rfl)) | with_reducible refine rd_C ?_ | with_reducible refine rd_op ?_ | with_reducible refine rd_cons ?_ | with_reducible refine rd_nil ?_
  | with_reducible refine rd_test ?_ | with_reducible refine rd_tB ?_ | with_reducible refine rd_bl ?_ | with_reducible refine rd_ifS ?_ | with_reducible refine rd_and ?_ | with_reducible refine rd_or ?_ | with_reducible refine rd_not ?_ | with_reducible refine rd_andV ?_ | with_reducible refine rd_orV ?_ | with_reducible refine rd_notV ?_ | with_reducible refine rd_chain ?_
  | with_reducible refine rd_if ?_ | with_reducible refine rd_g ?_ | with_reducible refine rd_m ?_ | with_reducible refine rd_star ?_ | with_reducible refine rd_tup ?_ | with_reducible refine rd_lst ?_ | with_reducible refine rd_fld ?_ | with_reducible refine rd_cb ?_ | with_reducible refine rd_un ?_ | with_reducible refine rd_makeR ?_ | with_reducible refine rd_makeS ?_
  | with_reducible refine rd_bm ?_ | with_reducible refine rd_bm0 ?_ | with_reducible refine rd_next ?_ | with_reducible refine rd_break ?_ | with_reducible refine rd_cont ?_ | with_reducible refine rd_ret ?_ | with_reducible refine rd_retN ?_ | with_reducible refine rd_drop ?_ | with_reducible refine rd_gcons ?_ | with_reducible refine rd_gnil ?_ | with_reducible refine rd_gsub ?_
  | ((with_reducible refine' rd_aug ?k1 ?_); (case k1 => rfl)) | with_reducible refine rd_ipI ?_ | with_reducible refine rd_sfld ?_ | with_reducible refine rd_for ?_ | with_reducible refine rd_iStr ?_ | with_reducible refine rd_iList ?_ | with_reducible refine rd_iTup ?_ | with_reducible refine rd_iRng1 ?_ | with_reducible refine rd_iRng2 ?_ | with_reducible refine rd_iEnumT ?_ | with_reducible refine rd_match ?_ | with_reducible refine rd_par ?_ | with_reducible refine rd_two ?_
  | with_reducible refine rd_sl ?_ | with_reducible refine rd_noPart ?_ | with_reducible refine rd_part ?_ | with_reducible refine rd_pint ?_ | with_reducible refine rd_listRg ?_ | with_reducible refine rd_rg1 ?_ | with_reducible refine rd_rg2 ?_ | with_reducible refine rd_ixO ?_ | with_reducible refine rd_U ?_ | with_reducible refine rd_int_int ?_ | with_reducible refine rd_int_bl ?_ | with_reducible refine rd_min2 ?_ | with_reducible refine rd_max2 ?_ | with_reducible refine rd_in_sign ?_ | with_reducible refine rd_isN ?_ | with_reducible refine rd_notN ?_
  | with_reducible refine rd_lc ?_ | with_reducible refine rd_yes ?_ | with_reducible refine rd_prop ?_ | with_reducible refine rd_cmeth ?_ | with_reducible refine rd_o ?_ | with_reducible refine rd_add_int ?_ | with_reducible refine rd_sub ?_ | with_reducible refine rd_eq_int ?_ | with_reducible refine rd_eq_str ?_ | with_reducible refine rd_eq_bl ?_ | with_reducible refine rd_ne_int ?_ | with_reducible refine rd_ne_str ?_ | with_reducible refine rd_ne_bl ?_ | with_reducible refine rd_I0 ?_
  | with_reducible refine rd_isi_int_int ?_ | with_reducible refine rd_isi_int_bool ?_ | with_reducible refine rd_isi_int_str ?_ | with_reducible refine rd_isi_int_list ?_ | with_reducible refine rd_isi_int_tuple ?_ | with_reducible refine rd_isi_bl_int ?_ | with_reducible refine rd_isi_bl_bool ?_ | with_reducible refine rd_isi_bl_str ?_ | with_reducible refine rd_isi_bl_list ?_ | with_reducible refine rd_isi_bl_tuple ?_ | with_reducible refine rd_isi_str_int ?_ | with_reducible refine rd_isi_str_bool ?_ | with_reducible refine rd_isi_str_str ?_ | with_reducible refine rd_isi_str_list ?_ | with_reducible refine rd_isi_str_tuple ?_ | with_reducible refine rd_isi_non_int ?_ | with_reducible refine rd_isi_non_bool ?_ | with_reducible refine rd_isi_non_str ?_ | with_reducible refine rd_isi_non_list ?_ | with_reducible refine rd_isi_non_tuple ?_)
local macro_rules | `(tactic| walk_at "rd") => `(tactic| repeat walk_at "rd1")
local macro_rules | `(tactic| walk_at "same") => `(tactic| first | assumption | exact Same.refl _ | (refine Same.new ?_ (by assumption); walk_at "same") | (refine Same.mut ?_ (by assumption); walk_at "same") | (refine Same.trans ?_ (by assumption); walk_at "same"))
section
variable {P : Program} {w : World} {K : PySem.W.Frag} {mg : Str → Option Value} {base : Heap} {CText CPart CCounter CDecoder CTextError CInvalidStep CTooLong CInvalidPlace CInvalidNumber CNotationError CInvalidCount CDecodeError : Addr}
theorem ok_is_integer (T : Txt K mg CText CPart CCounter CDecoder CTextError CInvalidStep CTooLong CInvalidPlace CInvalidNumber CNotationError CInvalidCount CDecodeError) : GOk P w K mg base CX0 1 "is_integer" sp_is_integer := by
  refine T.d_is_integer.ok sc_is_integer (fun vs H Q E h => ?len) (fun f cdv A outer s H vs Q E hr h => ?_)
  case len => obtain ⟨v, lo, hi, rfl, _⟩ := h; rfl
  · obtain ⟨v, lo, hi, rfl, hv, k⟩ := h
    refine ⟨_, (pss_one (ps_ret (pe_and (pe_callB (isiK (K := K) rfl) rfl T.n_isinstance (by decide +kernel) (pa_cons (pv 0) (pa_cons (pe_bltn (v := .ty "int") rfl T.n_int (by decide +kernel) rfl) pa_nil))) (pe_and (pe_not (pe_callB (isiK (K := K) rfl) rfl T.n_isinstance (by decide +kernel) (pa_cons (pv 0) (pa_cons (pe_bltn (v := .ty "bool") rfl T.n_bool (by decide +kernel) rfl) pa_nil)))) (pe_one (pe_chain op_le op_le (pv 1) (pv 0) (pv 2))))))), ?_⟩
    cases v with
    | int i =>
      walk_at "rd"
      refine rd_cT rfl ?_
      walk_at "rd"
      refine rd_cT rfl ?_
      walk_at "rd"
      refine rd_ite (fun h1 => ?_) (fun h1 => ?_)
      · walk_at "rd"
        have e : isInt lo hi (.int i) = decide (i ≤ hi) := by unfold isInt; simp [h1]
        rw [← e]; exact k
      · have e : isInt lo hi (.int i) = false := by unfold isInt; simp [h1]
        rw [e] at k; exact k
    | bl c =>
      walk_at "rd"
      refine rd_cT rfl ?_
      walk_at "rd"
      refine rd_cF rfl ?_
      exact k
    | str x => walk_at "rd"; exact rd_cF rfl k
    | non => walk_at "rd"; exact rd_cF rfl k
    | _ => exact hv.elim
end
section
variable {P : Program} {w : World} {K : PySem.W.Frag} {mg : Str → Option Value} {base : Heap} {CText CPart CCounter CDecoder CTextError CInvalidStep CTooLong CInvalidPlace CInvalidNumber CNotationError CInvalidCount CDecodeError : Addr}
theorem ok_is_letter (T : Txt K mg CText CPart CCounter CDecoder CTextError CInvalidStep CTooLong CInvalidPlace CInvalidNumber CNotationError CInvalidCount CDecodeError) : GOk P w K mg base CX0 1 "is_letter" sp_is_letter := by
  refine T.d_is_letter.ok sc_is_letter (fun vs H Q E h => ?len) (fun f cdv A outer s H vs Q E hr h => ?_)
  case len => obtain ⟨v, rfl, _⟩ := h; rfl
  · obtain ⟨v, rfl, hv, hz, k⟩ := h
    obtain ⟨t_LETTERS, h_LETTERS⟩ := T.k_LETTERS; refine ⟨_, (pss_one (ps_ret (pe_and (pe_callB (isiK (K := K) rfl) rfl T.n_isinstance (by decide +kernel) (pa_cons (pv 0) (pa_cons (pe_bltn (v := .ty "str") rfl T.n_str (by decide +kernel) rfl) pa_nil))) (pe_and (pe_cmpR (eqK (K := K) rfl hr.units) (pe_callB (lenK (K := K) rfl) rfl T.n_len (by decide +kernel) (pa_cons (pv 0) pa_nil)) pe_int (nomark _)) (pe_one (pe_cmpR (oInSign) (pv 0) (pe_glob (v := .str "abcdefghijklmnopqrstuvwxyz") rfl h_LETTERS ⟨_, rfl⟩) rfl)))))), ?_⟩
    cases v with
    | str x =>
      walk_at "rd"
      refine rd_cT rfl ?_
      walk_at "rd"
      refine rd_len_str (hz x rfl) ?_
      walk_at "rd"
      refine rd_ite (fun h1 => ?_) (fun h1 => ?_)
      · walk_at "rd"
        obtain ⟨c, hc⟩ := one_sign (Int.ofNat.inj h1)
        subst hc
        walk_at "rd"
        rw [← isLet_one]
        exact k
      · have e : isLet (.str x) = false := isLet_len fun z => h1 (congrArg Int.ofNat z)
        rw [e] at k; exact k
    | bl c => walk_at "rd"; exact rd_cF rfl k
    | int x => walk_at "rd"; exact rd_cF rfl k
    | non => walk_at "rd"; exact rd_cF rfl k
    | _ => exact hv.elim
end
section
variable {P : Program} {w : World} {K : PySem.W.Frag} {mg : Str → Option Value} {base : Heap} {CText CPart CCounter CDecoder CTextError CInvalidStep CTooLong CInvalidPlace CInvalidNumber CNotationError CInvalidCount CDecodeError : Addr}
theorem ok_is_word (T : Txt K mg CText CPart CCounter CDecoder CTextError CInvalidStep CTooLong CInvalidPlace CInvalidNumber CNotationError CInvalidCount CDecodeError) : GOk P w K mg base CX0 2 "is_word" sp_is_word := by
  refine T.d_is_word.ok sc_is_word (fun vs H Q E h => ?len) (fun f cdv A outer s H vs Q E hr h => ?_)
  case len => obtain ⟨v, rfl, _⟩ := h; rfl
  · obtain ⟨v, rfl, hv, hz, k⟩ := h
    obtain ⟨t_MAX_WORD, h_MAX_WORD⟩ := T.k_MAX_WORD; refine ⟨_, (pss_one (ps_ret (pe_and (pe_callB (isiK (K := K) rfl) rfl T.n_isinstance (by decide +kernel) (pa_cons (pv 0) (pa_cons (pe_bltn (v := .ty "str") rfl T.n_str (by decide +kernel) rfl) pa_nil))) (pe_and (pe_chain op_le op_le pe_int (pe_callB (lenK (K := K) rfl) rfl T.n_len (by decide +kernel) (pa_cons (pv 0) pa_nil)) (pe_glob (v := .int 20) rfl h_MAX_WORD ⟨_, rfl⟩)) (pe_one (pe_callB (allK (K := K) rfl rfl) rfl T.n_all (by decide +kernel) (pa_cons (pe_lc (own := [("letter", 1)]) rfl sc_is_word.nd (pi_str (pv 0)) (blkOk_by (own := [("letter", 1)]) (N := N_is_word) (sc := (defScope s_is_word)) (by first | decide +kernel | rfl)) (fun _ _ _ _ _ => (pg_name (i := 1) sc_is_word.nd rfl (Or.inl rfl))) (fun _ _ _ _ _ => pts_nil) (fun _ _ _ _ _ => (pe_g (ok_is_letter (K := K) T) (hr.mono (by decide)) pass0 (pa_cons (pv 1) pa_nil)))) pa_nil))))))), ?_⟩
    cases v with
    | str x =>
      walk_at "rd"
      refine rd_cT rfl ?_
      walk_at "rd"
      refine rd_len_str (hz x rfl) ?_
      walk_at "rd"
      refine rd_ite (fun h1 => ?_) (fun h1 => ?_)
      · walk_at "rd"
        refine rd_ite (fun h2 => ?_) (fun h2 => ?_)
        · walk_at "rd"
          refine ⟨x, rfl, fun D hD => lc_fun (f := fun i => .bl (isLet (.str ⟨#[(tl x)[i]?.getD 0]⟩))) plain_str hD (by rw [← len_tl]; exact hz x rfl) (fun _ => rfl) (fun i H1 Q1 hi S q => ?_) fun H1 S eD => ?_⟩
          · walk_at "rd"
            exact ⟨_, rfl, trivial, fun y ey => by cases ey; exact sign_small _, q _ (Same.refl _)⟩
          · walk_at "rd"
            have eb : ((List.range (tl x).length).map fun i => V.bl (isLet (.str ⟨#[(tl x)[i]?.getD 0]⟩))) = ((List.range (tl x).length).map fun i => isLet (.str ⟨#[(tl x)[i]?.getD 0]⟩)).map V.bl := by rw [List.map_map]; rfl
            rw [eb] at eD
            refine rd_all (SqL.of eD) ?_
            rw [isWd_all (by rw [← len_tl]; omega) (by rw [← len_tl]; omega)]
            exact k _ S
        · have e : isWd (.str x) = false := isWd_len (by rw [← len_tl]; omega)
          rw [e] at k; exact k _ (Same.refl _)
      · have e : isWd (.str x) = false := isWd_len (by rw [← len_tl]; omega)
        walk_at "rd"
        refine rd_cF rfl ?_
        rw [e] at k; exact k _ (Same.refl _)
    | bl c => walk_at "rd"; exact rd_cF rfl (k _ (Same.refl _))
    | int x => walk_at "rd"; exact rd_cF rfl (k _ (Same.refl _))
    | non => walk_at "rd"; exact rd_cF rfl (k _ (Same.refl _))
    | _ => exact hv.elim
end
section
variable {P : Program} {w : World} {K : PySem.W.Frag} {mg : Str → Option Value} {base : Heap} {CText CPart CCounter CDecoder CTextError CInvalidStep CTooLong CInvalidPlace CInvalidNumber CNotationError CInvalidCount CDecodeError : Addr}
theorem ok_is_step (T : Txt K mg CText CPart CCounter CDecoder CTextError CInvalidStep CTooLong CInvalidPlace CInvalidNumber CNotationError CInvalidCount CDecodeError) : GOk P w K mg base CX0 3 "is_step" (sp_is_step K) := by
  refine T.d_is_step.ok sc_is_step (fun vs H Q E h => ?len) (fun f cdv A outer s H vs Q E hr h => ?_)
  case len => obtain ⟨v, n, s, rfl, _⟩ := h; rfl
  · obtain ⟨v, n, s, rfl, ⟨a, rfl, hq⟩, ok, k⟩ := h
    obtain ⟨t_MAX_TIMES, h_MAX_TIMES⟩ := T.k_MAX_TIMES; refine ⟨_, (pss_one (ps_match (pv 0) (pcs_seq (qs := [.inl "write", .inr 2]) rfl sc_is_step.nd (PatEach.val (PatEach.cap ⟨rfl, (Or.inl rfl), Or.inl rfl⟩ PatEach.nil)) rfl (pt_val (pe_callB (isiK (K := K) rfl) rfl T.n_isinstance (by decide +kernel) (pa_cons (pv 0) (pa_cons (pe_bltn (v := .ty "tuple") rfl T.n_tuple (by decide +kernel) rfl) pa_nil)))) (pss_one (ps_ret (pe_g (ok_is_word (K := K) T) (hr.mono (by decide)) pass0 (pa_cons (pv 2) pa_nil))))
    (pcs_seq (qs := [.inl "paste", .inr 3, .inr 4, .inr 5]) rfl sc_is_step.nd (PatEach.val (PatEach.cap ⟨rfl, (Or.inl rfl), Or.inl rfl⟩ (PatEach.cap ⟨rfl, (Or.inl rfl), Or.inl rfl⟩ (PatEach.cap ⟨rfl, (Or.inl rfl), Or.inl rfl⟩ PatEach.nil)))) rfl (pt_val (pe_callB (isiK (K := K) rfl) rfl T.n_isinstance (by decide +kernel) (pa_cons (pv 0) (pa_cons (pe_bltn (v := .ty "tuple") rfl T.n_tuple (by decide +kernel) rfl) pa_nil)))) (pss_cons (ps_if (PW.pt (pw_or (pt_not (pt_val (pe_g (ok_is_integer (K := K) T) (hr.mono (by decide)) pass0 (pa_cons (pv 4) (pa_cons pe_int (pa_cons (pe_op op_sub (pv 1) pe_int) pa_nil)))))) (pw_or1 (pt_not (pt_val (pe_g (ok_is_integer (K := K) T) (hr.mono (by decide)) pass0 (pa_cons (pv 3) (pa_cons pe_int (pa_cons (pv 4) pa_nil))))))))) (pss_one (ps_ret pe_bl))
    pss_nil)
    (pss_one (ps_ret (pe_g (ok_is_integer (K := K) T) (hr.mono (by decide)) pass0 (pa_cons (pv 5) (pa_cons pe_int (pa_cons (pe_glob (v := .int 1000000000) rfl h_MAX_TIMES ⟨_, rfl⟩) pa_nil)))))))
    (pcs_wild (pss_one (ps_ret pe_bl))))))), ?_⟩
    walk_at "rd"
    cases s with
    | wr w =>
      have e : mBind [.inl "write", .inr 2] (stV (.wr w)) = some [(2, .str w)] := by simp [mBind, stV]
      refine .inr ⟨a, _, rfl, .inl hq, .inr ⟨rfl, ⟨rfl, fun _ => trivial⟩, ?_⟩⟩
      rw [e]
      walk_at "rd"
      refine rd_isi_tup_tuple hq ?_
      walk_at "rd"
      refine rd_cT rfl ?_
      walk_at "rd"
      refine ⟨_, rfl, trivial, fun z ez => by cases ez; exact str_small ok.2.1, fun H' S => ?_⟩
      rw [show isWd (.str w) = true from decide_eq_true (by rw [← len_tl]; exact ok)]
      exact k _ S
    | pa i j t =>
      have e : mBind [.inl "paste", .inr 3, .inr 4, .inr 5] (stV (.pa i j t)) = some [(3, .int i), (4, .int j), (5, .int t)] := by simp [mBind, stV]
      obtain ⟨o1, o2, o3, o4⟩ := ok
      refine .inr ⟨a, _, rfl, .inl hq, .inl ⟨by show 4 ≠ 2; decide, ?_⟩⟩
      refine .inr ⟨a, _, rfl, .inl hq, .inr ⟨rfl, ⟨rfl, fun _ => trivial⟩, ?_⟩⟩
      rw [e]
      walk_at "rd"
      refine rd_isi_tup_tuple hq ?_
      walk_at "rd"
      refine rd_cT rfl ?_
      walk_at "rd"
      refine ⟨_, _, _, rfl, trivial, ?_⟩
      rw [show isInt 0 ((n : Int) - 1) (.int j) = true from decide_eq_true (by omega)]
      walk_at "rd"
      refine rd_cF rfl ?_
      walk_at "rd"
      refine ⟨_, _, _, rfl, trivial, ?_⟩
      rw [show isInt 0 (j : Int) (.int i) = true from decide_eq_true (by omega)]
      walk_at "rd"
      refine rd_cF rfl ?_
      walk_at "rd"
      refine ⟨_, _, _, rfl, trivial, ?_⟩
      rw [show isInt 1 1000000000 (.int t) = true from decide_eq_true (by omega)]
      exact k _ (Same.refl _)
end
section
variable {P : Program} {w : World} {K : PySem.W.Frag} {mg : Str → Option Value} {base : Heap} {CText CPart CCounter CDecoder CTextError CInvalidStep CTooLong CInvalidPlace CInvalidNumber CNotationError CInvalidCount CDecodeError : Addr}
theorem ok_Part_init (T : Txt K mg CText CPart CCounter CDecoder CTextError CInvalidStep CTooLong CInvalidPlace CInvalidNumber CNotationError CInvalidCount CDecodeError) : KOk P w K mg base CX0 1 CPart (sp_Part_init CPart) := by
  refine T.d_Part_init.ok sc_Part_init (fun vs H Q E h => ?len) (fun f cdv A outer s H vs Q E hr h => ?_)
  case len => obtain ⟨x, dx, s, n, t, f, l, rfl, _⟩ := h; rfl
  · obtain ⟨x, dx, s0, n, t, f0, l, rfl, hx, k⟩ := h
    refine ⟨_, (pss_cons (ps_fld (pv 0) (pv 1) rfl)
    (pss_cons (ps_fld (pv 0) (pv 2) rfl)
    (pss_cons (ps_fld (pv 0) (pv 3) rfl)
    (pss_cons (ps_fld (pv 0) (pv 4) rfl)
    (pss_one (ps_fld (pv 0) (pv 5) rfl)))))), ?_⟩
    walk_at "rd"
    refine rd_sfld_at hx T.cPart T.na_Part_start (by decide) ?_
    walk_at "rd"
    refine rd_sfld_at upd_same T.cPart T.na_Part_length fl1 ?_
    walk_at "rd"
    refine rd_sfld_at upd_same T.cPart T.na_Part_is_typed fl2 ?_
    walk_at "rd"
    refine rd_sfld_at upd_same T.cPart T.na_Part_first fl3 ?_
    walk_at "rd"
    refine rd_sfld_at upd_same T.cPart T.na_Part_last fl4 ?_
    rw [upd_upd, upd_upd, upd_upd, upd_upd]
    exact k
end
section
variable {P : Program} {w : World} {K : PySem.W.Frag} {mg : Str → Option Value} {base : Heap} {CText CPart CCounter CDecoder CTextError CInvalidStep CTooLong CInvalidPlace CInvalidNumber CNotationError CInvalidCount CDecodeError : Addr}
theorem ok_Text_init (T : Txt K mg CText CPart CCounter CDecoder CTextError CInvalidStep CTooLong CInvalidPlace CInvalidNumber CNotationError CInvalidCount CDecodeError) : KOk P w K mg base CX0 4 CText (spStar 1 (sp_Text_init K CText CPart)) := by
  refine T.d_Text_init.ok sc_Text_init (fun f cdv A outer s H vs Q E hr h => ?_)
  · obtain ⟨x, dx, m, rs, ss, rfl, hx, hm, hst, ok, few, k⟩ := h
    obtain ⟨t_MAX_SIZE_texts, h_MAX_SIZE_texts⟩ := T.k_MAX_SIZE_texts; obtain ⟨t_MAX_STEPS, h_MAX_STEPS⟩ := T.k_MAX_STEPS; refine ⟨_, (pss_cons (ps_set (i := 2) sc_Text_init.nd rfl (Or.inl rfl) (pe_lst pa_nil))
    (pss_cons (ps_asg (pe_tup (pa_cons pe_str (pa_cons pe_int pa_nil))) (pg_tupK (K := K) (n := 2) rfl rfl (pgs_cons (pg_name (i := 3) sc_Text_init.nd rfl (Or.inl rfl)) (pgs_cons (pg_name (i := 4) sc_Text_init.nd rfl (Or.inl rfl)) pgs_nil))))
    (pss_cons (ps_for PassesOwn.never rfl (pi_enumT T.n_enumerate (pa_cons (pv 1) pa_nil)) (pg_tupK (K := K) (n := 2) rfl rfl (pgs_cons (pg_name (i := 5) sc_Text_init.nd rfl (Or.inl rfl)) (pgs_cons (pg_name (i := 6) sc_Text_init.nd rfl (Or.inl rfl)) pgs_nil))) (pss_cons (ps_if (PW.pt (pw_or (pt_cmpR (eqK (K := K) rfl hr.units) (pv 5) (pe_glob (v := .int 30) rfl h_MAX_STEPS ⟨_, rfl⟩) (nomark _)) (pw_or1 (pt_not (pt_val (pe_g (ok_is_step (K := K) T) (hr.mono (by decide)) pass0 (pa_cons (pv 6) (pa_cons (pv 4) pa_nil)))))))) (pss_one ps_never)
    pss_nil)
    (pss_cons (ps_if (pt_cmpR (eqK (K := K) rfl hr.units) (pe_ix (ixK (K := K) rfl) (pv 6) pe_int (fun _ _ => rfl)) pe_str (nomark _)) (pss_cons (ps_expr (pe_bmK (K := K) rfl PySem.F.plainAttrs_list PySem.F.slot_list_append PySem.F.type_list_append mt_append (pv 2) (pa_cons (pe_k (ok_Part_init (K := K) T) (hr.mono (by decide)) T.g_Part pass0 (pa_cons (pv 4) (pa_cons (pe_callB (lenK (K := K) rfl) rfl T.n_len (by decide +kernel) (pa_cons (pe_ix (ixK (K := K) rfl) (pv 6) pe_int (fun _ _ => rfl)) pa_nil)) (pa_cons pe_bl (pa_cons (pe_callB (lenK (K := K) rfl) rfl T.n_len (by decide +kernel) (pa_cons (pv 3) pa_nil)) (pa_cons pe_int pa_nil)))))) pa_nil)))
    (pss_one (ps_set (i := 3) sc_Text_init.nd rfl (Or.inl rfl) (pe_op (addK (K := K) rfl) (pv 3) (pe_ix (ixK (K := K) rfl) (pv 6) pe_int (fun _ _ => rfl))))))
    (pss_one (ps_expr (pe_bmK (K := K) rfl PySem.F.plainAttrs_list PySem.F.slot_list_append PySem.F.type_list_append mt_append (pv 2) (pa_cons (pe_k (ok_Part_init (K := K) T) (hr.mono (by decide)) T.g_Part pass0 (pa_cons (pv 4) (pa_cons (pe_op oMul (pe_op (addK (K := K) rfl) (pe_op op_sub (pe_ix (ixK (K := K) rfl) (pv 6) pe_int (fun _ _ => rfl)) (pe_ix (ixK (K := K) rfl) (pv 6) pe_int (fun _ _ => rfl))) pe_int) (pe_ix (ixK (K := K) rfl) (pv 6) pe_int (fun _ _ => rfl))) (pa_cons pe_bl (pa_cons (pe_ix (ixK (K := K) rfl) (pv 6) pe_int (fun _ _ => rfl)) (pa_cons (pe_ix (ixK (K := K) rfl) (pv 6) pe_int (fun _ _ => rfl)) pa_nil)))))) pa_nil)))))
    (pss_cons (ps_set (i := 4) sc_Text_init.nd rfl (Or.inl rfl) (pe_op (addK (K := K) rfl) (pe_fldK (K := K) rfl (pe_ix (ixK (K := K) rfl) (pv 2) (pe_un un_neg pe_int) (fun _ _ => rfl)) (by rfl)) (pe_fldK (K := K) rfl (pe_ix (ixK (K := K) rfl) (pv 2) (pe_un un_neg pe_int) (fun _ _ => rfl)) (by rfl))))
    (pss_one (ps_if (pt_cmpR op_gt (pv 4) (pe_glob (v := .int 1000000000000000000) rfl h_MAX_SIZE_texts ⟨_, rfl⟩) (nomark _)) (pss_one ps_never)
    pss_nil))))))
    (pss_cons (ps_fld (pv 0) (pv 1) rfl)
    (pss_cons (ps_fld (pv 0) (pv 3) rfl)
    (pss_cons (ps_fld (pv 0) (pv 2) rfl)
    (pss_one (ps_fld (pv 0) (pv 4) rfl)))))))), ?_⟩
    walk_at "rd"
    refine ⟨Nat.zero_le _, fun pl hpl => ?_⟩
    walk_at "rd"
    refine ⟨two_line, fun tp htp => ?_⟩
    refine rd_gtup (SqT.of upd_same) rfl ?_
    walk_at "rd"
    have S1 : Same H (upd (upd H pl (.lst [])) tp (.tup [.str "", .int 0])) := Same.new (Same.new (Same.refl _) hpl) htp
    refine ⟨m, rs, rfl, Same.tup S1 hm, for_enumT (xs := rs) (fun i σ H' => ∃ ps v5 v6, σ = [some (.ref x), some (.ref m), some (.ref pl), some (.str (mkS (tyL (ss.take i)))), some (.int (sz (ss.take i) : Nat)), v5, v6] ∧ Same H H' ∧ H' pl = some (.lst ps) ∧ PartsAt CPart H' ps (ss.take i))
      ⟨[], _, _, by rw [emp_mk]; rfl, S1, lk_new htp upd_same, rfl, fun j s hj => by simp at hj⟩ (fun i σ H' _ ⟨_, _, _, _, S, _⟩ => Same.tup S hm) ?_ ?_⟩
    · rintro i v tu σ H' hv ⟨ps, v5, v6, rfl, S, hpl', hp⟩ hT
      obtain ⟨s', hs, a, rfl, hq⟩ := hst.at hv
      have hi : i < ss.length := (List.getElem?_eq_some_iff.mp hs).1
      have hok := ok_at ok hs
      have hpsl : ps.length < sizeLine := by rw [hp.1, List.length_take]; have := line30; omega
      walk_at "rd"
      refine rd_gtup (SqT.of upd_same) rfl ?_
      walk_at "rd"
      refine rd_dF (by omega) ?_
      walk_at "rd"
      refine ⟨_, _, s', rfl, ⟨a, rfl, Same.tup (Same.new S hT) hq⟩, hok.1, fun Hb S2 => ?_⟩
      have Sb : Same H Hb := (Same.new S hT).trans S2
      have hplb : Hb pl = some (.lst ps) := S2 _ _ (lk_new hT hpl')
      have hpb : PartsAt CPart Hb ps (ss.take i) := hp.mono ((Same.new (Same.refl _) hT).trans S2)
      have hqb : SqT K Hb a (stV s') := Same.tup Sb hq
      walk_at "rd"
      refine rd_cF rfl ?_
      walk_at "rd"
      cases s' with
      | wr w =>
        refine rd_ixT ?_ hqb rfl
        walk_at "rd"
        refine rd_dT rfl ?_
        walk_at "rd"
        refine rd_tyL (SqL.of hplb) _ ?_
        walk_at "rd"
        refine rd_ixT ?_ hqb rfl
        walk_at "rd"
        refine rd_len_str (str_small hok.1.2.1) ?_
        walk_at "rd"
        refine rd_len_str (by rw [mkS_len]; exact Nat.le_trans (tyL_take_le i) (tyL_line ok few)) ?_
        walk_at "rd"
        refine rd_mkPart (fun p dxp Hc np SC hpc => ?_)
        walk_at "rd"
        have hplc := SC _ _ hplb
        have nplp : pl ≠ p := ne_of_none hplb np
        refine rd_append hplc hpsl ?_
        have S3 := Same.mut (o := HO.lst (ps ++ [V.ref p])) (Sb.trans SC) hpl
        have E2 := @upd_same Hc pl (HO.lst (ps ++ [V.ref p]))
        have E4 := lk_ne (o := HO.lst (ps ++ [V.ref p])) nplp.symm hpc
        have E3 := hpb.snoc hs (But.at (o := HO.lst (ps ++ [V.ref p])) (But.same SC)) (fun dx fs e => by rw [hplb] at e; cases e) (v := .ref p) ⟨p, dxp, rfl, by rw [mkS_len] at E4; exact E4⟩
        revert S3 E2 E3 E4
        generalize upd Hc pl (HO.lst (ps ++ [V.ref p])) = Hd
        intro S3 E2 E4 E3
        walk_at "rd"
        refine rd_ixT ?_ (Same.tup S3 hq) rfl
        refine rd_add_str (by rw [mkS_len, len_tl, ← List.length_append]; have := tyL_line (ok_take ok (i + 1)) (by rw [List.length_take]; omega); rw [tyL_take hs] at this; exact this) ?_
        walk_at "rd"
        refine rd_ixI ?_ (SqL.of E2) (atI_last _ _)
        refine rd_fld_at E4 T.cPart T.na_Part_start partF_start ?_
        walk_at "rd"
        refine rd_ixI ?_ (SqL.of E2) (atI_last _ _)
        refine rd_fld_at E4 T.cPart T.na_Part_length partF_length ?_
        walk_at "rd"
        refine rd_dF (by have := hok.2; simp only [len1] at this; omega) ?_
        walk_at "rd"
        refine ⟨_, some (.int i), some (.ref a), ?_, S3, E2, E3⟩
        rw [show (w : Str) = mkS (tl w) from (mkS_tl w).symm, mkS_app, tyL_take hs, sz_take hs, mkS_tl]
        rfl
      | pa f l t =>
        obtain ⟨⟨o1, o2, o3, o4⟩, o5⟩ := hok
        simp only [len1] at o5
        refine rd_ixT ?_ hqb rfl
        walk_at "rd"
        refine rd_dF (by decide +kernel) ?_
        walk_at "rd"
        refine rd_tyL (SqL.of hplb) _ ?_
        walk_at "rd"
        refine rd_ixT ?_ hqb rfl
        walk_at "rd"
        refine rd_ixT ?_ hqb rfl
        walk_at "rd"
        refine rd_ixT ?_ hqb rfl
        walk_at "rd"
        refine rd_mul_int (Or.inl ⟨by omega, by omega⟩) ?_
        walk_at "rd"
        refine rd_ixT ?_ hqb rfl
        walk_at "rd"
        refine rd_ixT ?_ hqb rfl
        walk_at "rd"
        refine rd_mkPart (fun p dxp Hc np SC hpc => ?_)
        walk_at "rd"
        have hplc := SC _ _ hplb
        have nplp : pl ≠ p := ne_of_none hplb np
        refine rd_append hplc hpsl ?_
        rw [show ((l : Int) - f + 1) * t = (((l - f + 1) * t : Nat) : Int) by rw [Int.natCast_mul]; congr 1; omega] at hpc
        have S3 := Same.mut (o := HO.lst (ps ++ [V.ref p])) (Sb.trans SC) hpl
        have E2 := @upd_same Hc pl (HO.lst (ps ++ [V.ref p]))
        have E4 := lk_ne (o := HO.lst (ps ++ [V.ref p])) nplp.symm hpc
        have E3 := hpb.snoc hs (But.at (o := HO.lst (ps ++ [V.ref p])) (But.same SC)) (fun dx fs e => by rw [hplb] at e; cases e) (v := .ref p) ⟨p, dxp, rfl, E4⟩
        revert S3 E2 E3 E4
        generalize upd Hc pl (HO.lst (ps ++ [V.ref p])) = Hd
        intro S3 E2 E4 E3
        walk_at "rd"
        refine rd_ixI ?_ (SqL.of E2) (atI_last _ _)
        refine rd_fld_at E4 T.cPart T.na_Part_start partF_start ?_
        walk_at "rd"
        refine rd_ixI ?_ (SqL.of E2) (atI_last _ _)
        refine rd_fld_at E4 T.cPart T.na_Part_length partF_length ?_
        walk_at "rd"
        refine rd_dF (by omega) ?_
        walk_at "rd"
        refine ⟨_, some (.int i), some (.ref a), ?_, S3, E2, E3⟩
        rw [tyL_take hs, sz_take hs]
        simp only [ty1, List.append_nil, len1, Int.natCast_add]
        rfl
    · rintro σ H' ⟨ps, v5, v6, rfl, S, hpl', hp⟩
      rw [hst.1, List.take_length] at hp ⊢
      have hx' := S _ _ hx
      have hm' : SqT K H' m rs := Same.tup S hm
      have hst' := hst.mono S
      have npl : pl ≠ x := fun e => by subst e; rw [hx] at hpl; cases hpl
      walk_at "rd"
      refine rd_sfld_at hx' T.cText T.na_Text_made (by decide) ?_
      walk_at "rd"
      refine rd_sfld_at upd_same T.cText T.na_Text_typed fl1 ?_
      walk_at "rd"
      refine rd_sfld_at upd_same T.cText T.na_Text_parts fl2 ?_
      walk_at "rd"
      refine rd_sfld_at upd_same T.cText T.na_Text_total fl3 ?_
      have B : But x H' (upd (upd (upd (upd H' x (HO.ins CText dx (putF "made" (.ref m) []))) x (HO.ins CText dx (putF "typed" (.str (mkS (tyL ss))) (putF "made" (.ref m) [])))) x (HO.ins CText dx (putF "parts" (.ref pl) (putF "typed" (.str (mkS (tyL ss))) (putF "made" (.ref m) []))))) x (HO.ins CText dx (putF "total" (.int (sz ss : Nat)) (putF "parts" (.ref pl) (putF "typed" (.str (mkS (tyL ss))) (putF "made" (.ref m) [])))))) := But.at (But.at (But.at (But.at But.refl)))
      refine k _ ⟨ss, dx, m, pl, rs, ps⟩ (fun b o hb e => B _ _ hb (S _ _ e)) ⟨upd_same, B.tup (free1_ins hx') hm', B.steps (free1_ins hx') hst', B _ _ npl hpl', PartsAt.but B (fun dx fs e => ?_) hp, ok, few⟩ rfl rfl
      rw [hx'] at e
      cases e
      exact T.ne_Text_Part rfl
end
section
variable {P : Program} {w : World} {K : PySem.W.Frag} {mg : Str → Option Value} {base : Heap} {CText CPart CCounter CDecoder CTextError CInvalidStep CTooLong CInvalidPlace CInvalidNumber CNotationError CInvalidCount CDecodeError : Addr}
theorem ok_Text_of_steps (T : Txt K mg CText CPart CCounter CDecoder CTextError CInvalidStep CTooLong CInvalidPlace CInvalidNumber CNotationError CInvalidCount CDecodeError) : COk P w K mg base CX0 6 CText "of_steps" (sp_Text_of_steps K CText CPart) := by
  refine T.d_Text_of_steps.ok sc_Text_of_steps (fun vs H Q E h => ?len) (fun f cdv A outer s H vs Q E hr h => ?_)
  case len => obtain ⟨a, ms, ss, rfl, _⟩ := h; rfl
  · obtain ⟨a, ms, ss, rfl, hq, hst, ok, few, k⟩ := h
    refine ⟨_, (pss_one (ps_ret (pe_ks (pv 0) (ok_Text_init (K := K) T) (hr.mono (by decide)) pass0 (pv 1)))), ?_⟩
    walk_at "rd"
    refine ⟨rfl, ?_⟩
    walk_at "rd"
    exact rd_mkS hq (rd_mkText hst ok few fun x Hc t nx S T e => k Hc x t S T e)
end
section
variable {P : Program} {w : World} {K : PySem.W.Frag} {mg : Str → Option Value} {base : Heap} {CText CPart CCounter CDecoder CTextError CInvalidStep CTooLong CInvalidPlace CInvalidNumber CNotationError CInvalidCount CDecodeError : Addr}
theorem ok_Text_steps (T : Txt K mg CText CPart CCounter CDecoder CTextError CInvalidStep CTooLong CInvalidPlace CInvalidNumber CNotationError CInvalidCount CDecodeError) : POk P w K mg base CX0 1 CText "steps" (sp_Text_steps K CText CPart) := by
  refine T.d_Text_steps.ok sc_Text_steps (fun vs H Q E h => ?len) (fun f cdv A outer s H vs Q E hr h => ?_)
  case len => obtain ⟨a, t, rfl, _⟩ := h; rfl
  · obtain ⟨a, t, rfl, ht, k⟩ := h
    refine ⟨_, (pss_one (ps_ret (pe_fldK (K := K) rfl (pv 0) (by rfl)))), ?_⟩
    walk_at "rd"
    exact rd_fld_at ht.ins T.cText T.na_Text_made textF_made k
end
section
variable {P : Program} {w : World} {K : PySem.W.Frag} {mg : Str → Option Value} {base : Heap} {CText CPart CCounter CDecoder CTextError CInvalidStep CTooLong CInvalidPlace CInvalidNumber CNotationError CInvalidCount CDecodeError : Addr}
theorem ok_Text_typed_keys (T : Txt K mg CText CPart CCounter CDecoder CTextError CInvalidStep CTooLong CInvalidPlace CInvalidNumber CNotationError CInvalidCount CDecodeError) : POk P w K mg base CX0 1 CText "typed_keys" (sp_Text_typed_keys K CText CPart) := by
  refine T.d_Text_typed_keys.ok sc_Text_typed_keys (fun vs H Q E h => ?len) (fun f cdv A outer s H vs Q E hr h => ?_)
  case len => obtain ⟨a, t, rfl, _⟩ := h; rfl
  · obtain ⟨a, t, rfl, ht, k⟩ := h
    refine ⟨_, (pss_one (ps_ret (pe_fldK (K := K) rfl (pv 0) (by rfl)))), ?_⟩
    walk_at "rd"
    exact rd_fld_at ht.ins T.cText T.na_Text_typed textF_typed k
end
section
variable {P : Program} {w : World} {K : PySem.W.Frag} {mg : Str → Option Value} {base : Heap} {CText CPart CCounter CDecoder CTextError CInvalidStep CTooLong CInvalidPlace CInvalidNumber CNotationError CInvalidCount CDecodeError : Addr}
theorem ok_Text_size (T : Txt K mg CText CPart CCounter CDecoder CTextError CInvalidStep CTooLong CInvalidPlace CInvalidNumber CNotationError CInvalidCount CDecodeError) : POk P w K mg base CX0 1 CText "size" (sp_Text_size K CText CPart) := by
  refine T.d_Text_size.ok sc_Text_size (fun vs H Q E h => ?len) (fun f cdv A outer s H vs Q E hr h => ?_)
  case len => obtain ⟨a, t, rfl, _⟩ := h; rfl
  · obtain ⟨a, t, rfl, ht, k⟩ := h
    refine ⟨_, (pss_one (ps_ret (pe_fldK (K := K) rfl (pv 0) (by rfl)))), ?_⟩
    walk_at "rd"
    exact rd_fld_at ht.ins T.cText T.na_Text_total textF_total k
end
section
variable {P : Program} {w : World} {K : PySem.W.Frag} {mg : Str → Option Value} {base : Heap} {CText CPart CCounter CDecoder CTextError CInvalidStep CTooLong CInvalidPlace CInvalidNumber CNotationError CInvalidCount CDecodeError : Addr}
theorem ok_moved_step (T : Txt K mg CText CPart CCounter CDecoder CTextError CInvalidStep CTooLong CInvalidPlace CInvalidNumber CNotationError CInvalidCount CDecodeError) : GOk P w K mg base CX0 1 "moved_step" (sp_moved_step K) := by
  refine T.d_moved_step.ok sc_moved_step (fun vs H Q E h => ?len) (fun f cdv A outer s H vs Q E hr h => ?_)
  case len => obtain ⟨v, n, s, rfl, _⟩ := h; rfl
  · obtain ⟨v, n, s, rfl, ⟨a, rfl, hq⟩, k⟩ := h
    refine ⟨_, (pss_cons (ps_if (pt_cmpR (eqK (K := K) rfl hr.units) (pe_ix (ixK (K := K) rfl) (pv 0) pe_int (fun _ _ => rfl)) pe_str (nomark _)) (pss_one (ps_ret (pv 0)))
    pss_nil)
    (pss_one (ps_ret (pe_tup (pa_cons pe_str (pa_cons (pe_op (addK (K := K) rfl) (pe_ix (ixK (K := K) rfl) (pv 0) pe_int (fun _ _ => rfl)) (pv 1)) (pa_cons (pe_op (addK (K := K) rfl) (pe_ix (ixK (K := K) rfl) (pv 0) pe_int (fun _ _ => rfl)) (pv 1)) (pa_cons (pe_ix (ixK (K := K) rfl) (pv 0) pe_int (fun _ _ => rfl)) pa_nil)))))))), ?_⟩
    walk_at "rd"
    cases s with
    | wr w =>
      refine rd_ixT ?_ hq rfl
      walk_at "rd"
      refine rd_dT rfl ?_
      walk_at "rd"
      exact k H _ (Same.refl _) ⟨a, rfl, hq⟩
    | pa f l t =>
      refine rd_ixT ?_ hq rfl
      walk_at "rd"
      refine rd_dF (by decide +kernel) ?_
      walk_at "rd"
      refine rd_ixT ?_ hq rfl
      walk_at "rd"
      refine rd_ixT ?_ hq rfl
      walk_at "rd"
      refine rd_ixT ?_ hq rfl
      walk_at "rd"
      refine ⟨four_line, fun p hp => k _ _ (Same.new (Same.refl _) hp) ⟨p, rfl, SqT.of upd_same⟩⟩
end
section
variable {P : Program} {w : World} {K : PySem.W.Frag} {mg : Str → Option Value} {base : Heap} {CText CPart CCounter CDecoder CTextError CInvalidStep CTooLong CInvalidPlace CInvalidNumber CNotationError CInvalidCount CDecodeError : Addr}
theorem ok_joined (T : Txt K mg CText CPart CCounter CDecoder CTextError CInvalidStep CTooLong CInvalidPlace CInvalidNumber CNotationError CInvalidCount CDecodeError) : GOk P w K mg base CX0 6 "joined" (sp_joined K CText CPart) := by
  refine T.d_joined.ok sc_joined (fun vs H Q E h => ?len) (fun f cdv A outer s H vs Q E hr h => ?_)
  case len => obtain ⟨a, b, t, u, rfl, _⟩ := h; rfl
  · obtain ⟨a, b, t, u, rfl, ht, hu, ok, few, k⟩ := h
    refine ⟨_, (pss_cons (ps_set (i := 2) sc_joined.nd rfl (Or.inl rfl) (pe_tup (pa_starK (K := K) rfl (pe_fldK (K := K) rfl (pv 0) (by rfl)) (pa_starK (K := K) rfl (pe_lc (own := [("step", 3)]) rfl sc_joined.nd (pi_tupK (K := K) rfl (pe_fldK (K := K) rfl (pv 1) (by rfl))) (blkOk_by (own := [("step", 3)]) (N := N_joined) (sc := (defScope s_joined)) (by first | decide +kernel | rfl)) (fun _ _ _ _ _ => (pg_name (i := 3) sc_joined.nd rfl (Or.inl rfl))) (fun _ _ _ _ _ => pts_nil) (fun _ _ _ _ _ => (pe_g (ok_moved_step (K := K) T) (hr.mono (by decide)) pass0 (pa_cons (pv 3) (pa_cons (pe_fldK (K := K) rfl (pv 0) (by rfl)) pa_nil))))) pa_nil))))
    (pss_one (ps_ret (pe_ks (pe_glob (v := .ref CText) rfl T.g_Text rfl) (ok_Text_init (K := K) T) (hr.mono (by decide)) pass0 (pv 2))))), ?_⟩
    walk_at "rd"
    refine rd_fld_at ht.ins T.cText T.na_Text_made textF_made ?_
    refine ⟨_, _, rfl, .inl ht.made, ?_⟩
    walk_at "rd"
    refine rd_fld_at hu.ins T.cText T.na_Text_made textF_made ?_
    refine ⟨_, rfl, ⟨_, hu.made⟩, fun D hD => lc_rel (Rl := fun i y H => ∀ s, u.ss[i]? = some s → StepAt K H y (mv (sz t.ss) s)) (plain_tup hu.made) hD (by rw [hu.stp.1]; exact Nat.le_trans hu.few (Nat.le_of_lt line30)) (fun _ => rfl) (fun i y H H' l hi e b r s hs => (r s hs).mono' b (free1_lst e)) (fun i H1 Q1 hi S q => ?_) fun H1 ys S eD hl hr => ?_⟩
    · walk_at "rd"
      refine rd_fld_at (S _ _ ht.ins) T.cText T.na_Text_total textF_total ?_
      walk_at "rd"
      have hs : u.ss[i]? = some (u.ss[i]'(by rw [← hu.stp.1]; exact hi)) := List.getElem?_eq_getElem _
      obtain ⟨v, hv, hst⟩ := (hu.stp.mono S).2 i _ hs
      rw [hv]
      exact ⟨v, _, _, rfl, hst, fun H' y S2 hy => q y H' S2 fun s hs' => by rw [hs] at hs'; cases hs'; exact hy⟩
    · refine ⟨_, _, rfl, .inr (SqL.of eD), ?_⟩
      walk_at "rd"
      have hys : StepsAt K H1 ys (u.ss.map (mv (sz t.ss))) := by
        refine ⟨by rw [hl, hu.stp.1, List.length_map], fun j s hj => ?_⟩
        rw [List.getElem?_map] at hj
        obtain ⟨s', hs', rfl⟩ := Option.map_eq_some_iff.mp hj
        obtain ⟨y, hy, r⟩ := hr j (by rw [hu.stp.1]; exact (List.getElem?_eq_some_iff.mp hs').1)
        exact ⟨y, hy, r s' hs'⟩
      have hall := (ht.stp.mono S).append hys
      have hlen := hall.1
      refine ⟨by rw [List.append_nil, hlen]; exact Nat.le_trans few (Nat.le_of_lt line30), fun p hp => ?_⟩
      rw [List.append_nil]
      walk_at "rd"
      have S2 := Same.new (o := .tup (t.ms ++ ys)) S hp
      refine ⟨rfl, ?_⟩
      walk_at "rd"
      refine rd_mkS (.inl (SqT.of upd_same)) (rd_mkText (hall.mono (Same.new (Same.refl _) hp)) ok few fun x Hc z nx S3 hz e => k Hc x z (S2.trans S3) hz e)
end
section
variable {P : Program} {w : World} {K : PySem.W.Frag} {mg : Str → Option Value} {base : Heap} {CText CPart CCounter CDecoder CTextError CInvalidStep CTooLong CInvalidPlace CInvalidNumber CNotationError CInvalidCount CDecodeError : Addr}
theorem ok_repeated (T : Txt K mg CText CPart CCounter CDecoder CTextError CInvalidStep CTooLong CInvalidPlace CInvalidNumber CNotationError CInvalidCount CDecodeError) : GOk P w K mg base CX0 6 "repeated" (sp_repeated K CText CPart) := by
  refine T.d_repeated.ok sc_repeated (fun vs H Q E h => ?len) (fun f cdv A outer s H vs Q E hr h => ?_)
  case len => obtain ⟨a, t, n, rfl, _⟩ := h; rfl
  · obtain ⟨a, t, n, rfl, ht, hn, hn2, ok, few, k⟩ := h
    refine ⟨_, (pss_cons (ps_if (PW.pt (pw_or (pt_cmpR (eqK (K := K) rfl hr.units) (pv 1) pe_int (nomark _)) (pw_or1 (pt_cmpR (eqK (K := K) rfl hr.units) (pe_fldK (K := K) rfl (pv 0) (by rfl)) pe_int (nomark _))))) (pss_one (ps_ret (pv 0)))
    pss_nil)
    (pss_cons (ps_set (i := 2) sc_repeated.nd rfl (Or.inl rfl) (pe_tup (pa_starK (K := K) rfl (pe_fldK (K := K) rfl (pv 0) (by rfl)) (pa_cons (pe_tup (pa_cons pe_str (pa_cons pe_int (pa_cons (pe_op op_sub (pe_fldK (K := K) rfl (pv 0) (by rfl)) pe_int) (pa_cons (pe_op op_sub (pv 1) pe_int) pa_nil))))) pa_nil))))
    (pss_one (ps_ret (pe_ks (pe_glob (v := .ref CText) rfl T.g_Text rfl) (ok_Text_init (K := K) T) (hr.mono (by decide)) pass0 (pv 2)))))), ?_⟩
    walk_at "rd"
    refine rd_ite (fun h1 => ?_) (fun h1 => ?_)
    · refine rd_cT rfl ?_
      walk_at "rd"
      exact k H a t (Same.refl _) ht (by unfold mulS; rw [if_pos (.inl (by omega))])
    · walk_at "rd"
      refine rd_fld_at ht.ins T.cText T.na_Text_total textF_total ?_
      walk_at "rd"
      refine rd_ite (fun h2 => ?_) (fun h2 => ?_)
      · walk_at "rd"
        exact k H a t (Same.refl _) ht (by unfold mulS; rw [if_pos (.inr (by omega))])
      · have em : mulS t.ss n = t.ss ++ [.pa 0 (sz t.ss - 1) (n - 1)] := by unfold mulS; rw [if_neg (by omega)]
        rw [em] at ok few
        walk_at "rd"
        refine rd_fld_at ht.ins T.cText T.na_Text_made textF_made ?_
        refine ⟨_, _, rfl, .inl ht.made, ?_⟩
        walk_at "rd"
        refine rd_fld_at ht.ins T.cText T.na_Text_total textF_total ?_
        walk_at "rd"
        refine ⟨four_line, fun q hq => ?_⟩
        walk_at "rd"
        have hone : StepAt K (upd H q (.tup [.str "paste", .int 0, .int ((sz t.ss : Nat) - 1), .int ((n : Nat) - 1)])) (.ref q) (.pa 0 (sz t.ss - 1) (n - 1)) := by
          refine ⟨q, rfl, ?_⟩
          rw [show stV (.pa 0 (sz t.ss - 1) (n - 1)) = [.str "paste", .int 0, .int ((sz t.ss : Nat) - 1), .int ((n : Nat) - 1)] by
            simp only [stV]; rw [Int.natCast_sub (by omega), Int.natCast_sub (by omega)]; rfl]
          exact SqT.of upd_same
        have S1 : Same H (upd H q (.tup [.str "paste", .int 0, .int ((sz t.ss : Nat) - 1), .int ((n : Nat) - 1)])) := Same.new (Same.refl _) hq
        have hall := (ht.stp.mono S1).append hone.one'
        have hlen := hall.1
        refine ⟨by rw [hlen]; exact Nat.le_trans few (Nat.le_of_lt line30), fun p hp => ?_⟩
        walk_at "rd"
        have S2 := Same.new (o := .tup (t.ms ++ [.ref q])) S1 hp
        refine ⟨rfl, ?_⟩
        walk_at "rd"
        refine rd_mkS (.inl (SqT.of upd_same)) (rd_mkText (hall.mono (Same.new (Same.refl _) hp)) ok few fun x Hc z nx S3 hz e => k Hc x z (S2.trans S3) hz (e.trans em.symm))
end
section
variable {P : Program} {w : World} {K : PySem.W.Frag} {mg : Str → Option Value} {base : Heap} {CText CPart CCounter CDecoder CTextError CInvalidStep CTooLong CInvalidPlace CInvalidNumber CNotationError CInvalidCount CDecodeError : Addr}
theorem ok_Text_add (T : Txt K mg CText CPart CCounter CDecoder CTextError CInvalidStep CTooLong CInvalidPlace CInvalidNumber CNotationError CInvalidCount CDecodeError) : XOk P w K mg base CX0 7 (BOwn K CText (PySem.dunder (Operator.Add).info.2)) (sp_Text_add K CText CPart) := by
  refine T.d_Text_add.ok sc_Text_add (fun vs H Q E h => ?len) (fun f cdv A outer s H vs Q E hr h => ?_)
  case len => obtain ⟨a, b, t, u, rfl, _⟩ := h; rfl
  · have h' := h
    obtain ⟨a, b, t, u, rfl, _⟩ := h'
    refine ⟨_, (pss_one (ps_ret (pe_g (ok_joined (K := K) T) (hr.mono (by decide)) pass0 (pa_cons (pv 0) (pa_cons (pv 1) pa_nil))))), ?_⟩
    walk_at "rd"
    exact h
end
section
variable {P : Program} {w : World} {K : PySem.W.Frag} {mg : Str → Option Value} {base : Heap} {CText CPart CCounter CDecoder CTextError CInvalidStep CTooLong CInvalidPlace CInvalidNumber CNotationError CInvalidCount CDecodeError : Addr}
theorem ok_Text_mul (T : Txt K mg CText CPart CCounter CDecoder CTextError CInvalidStep CTooLong CInvalidPlace CInvalidNumber CNotationError CInvalidCount CDecodeError) : XOk P w K mg base CX0 7 (BOwnI K CText .Mult) (sp_Text_mul K CText CPart) := by
  refine T.d_Text_mul.ok sc_Text_mul (fun vs H Q E h => ?len) (fun f cdv A outer s H vs Q E hr h => ?_)
  case len => obtain ⟨a, t, n, rfl, _⟩ := h; rfl
  · have h' := h
    obtain ⟨a, t, n, rfl, ht, hn, hn2, _⟩ := h'
    obtain ⟨t_MAX_TIMES, h_MAX_TIMES⟩ := T.k_MAX_TIMES; refine ⟨_, (pss_cons (ps_if (pt_not (pt_val (pe_g (ok_is_integer (K := K) T) (hr.mono (by decide)) pass0 (pa_cons (pv 1) (pa_cons pe_int (pa_cons (pe_glob (v := .int 1000000000) rfl h_MAX_TIMES ⟨_, rfl⟩) pa_nil)))))) (pss_one ps_never)
    pss_nil)
    (pss_one (ps_ret (pe_g (ok_repeated (K := K) T) (hr.mono (by decide)) pass0 (pa_cons (pv 0) (pa_cons (pv 1) pa_nil)))))), ?_⟩
    walk_at "rd"
    refine ⟨_, _, _, rfl, trivial, ?_⟩
    rw [show isInt 1 1000000000 (.int n) = true from decide_eq_true (by omega)]
    walk_at "rd"
    refine rd_cF rfl ?_
    walk_at "rd"
    exact h
end
section
variable {P : Program} {w : World} {K : PySem.W.Frag} {mg : Str → Option Value} {base : Heap} {CText CPart CCounter CDecoder CTextError CInvalidStep CTooLong CInvalidPlace CInvalidNumber CNotationError CInvalidCount CDecodeError : Addr}
theorem ok_Text_eq (T : Txt K mg CText CPart CCounter CDecoder CTextError CInvalidStep CTooLong CInvalidPlace CInvalidNumber CNotationError CInvalidCount CDecodeError) : XOk P w K mg base CX0 1 (EOwn K CText) (sp_Text_eq K CText CPart) := by
  refine T.d_Text_eq.ok sc_Text_eq (fun vs H Q E h => ?len) (fun f cdv A outer s H vs Q E hr h => ?_)
  case len => obtain ⟨a, b, t, rfl, _⟩ := h; rfl
  · obtain ⟨a, b, t, rfl, ht, h⟩ := h
    refine ⟨_, (pss_one (ps_ret (pe_and (pe_callB (isiK (K := K) rfl) rfl T.n_isinstance (by decide +kernel) (pa_cons (pv 1) (pa_cons (pe_glob (v := .ref CText) rfl T.g_Text rfl) pa_nil))) (pe_one (pe_cmpR (eqK (K := K) rfl hr.units) (pe_fldK (K := K) rfl (pv 0) (by rfl)) (pe_fldK (K := K) rfl (pv 1) (by rfl)) (nomark _)))))), ?_⟩
    walk_at "rd"
    rcases h with ⟨u, hu, k⟩ | ⟨xs, hq, k⟩
    · refine rd_isi_own hu.ins T.cText T.cg_Text T.isi_oo ?_
      walk_at "rd"
      refine rd_cT rfl ?_
      walk_at "rd"
      refine rd_fld_at ht.ins T.cText T.na_Text_made textF_made ?_
      walk_at "rd"
      refine rd_fld_at hu.ins T.cText T.na_Text_made textF_made ?_
      refine rd_eq_dat (.tup ht.made ht.stp.dp) (.tup hu.made hu.stp.dp) (steps_dok ht.ok).shaped (steps_dok hu.ok).shaped ?_
      simp only [PyData.eqv]
      rw [stDs_eq]
      exact k
    · refine rd_isi_tupO hq T.isi_to ?_
      walk_at "rd"
      refine rd_cF rfl k
end
section
variable {P : Program} {w : World} {K : PySem.W.Frag} {mg : Str → Option Value} {base : Heap} {CText CPart CCounter CDecoder CTextError CInvalidStep CTooLong CInvalidPlace CInvalidNumber CNotationError CInvalidCount CDecodeError : Addr}
theorem ok_x_law_taken (T : Txt K mg CText CPart CCounter CDecoder CTextError CInvalidStep CTooLong CInvalidPlace CInvalidNumber CNotationError CInvalidCount CDecodeError) : GOk P w K mg base CX0 1 "_law_taken" (sp_x_law_taken K) := by
  refine T.d_x_law_taken.ok sc_x_law_taken (fun vs H Q E h => ?len) (fun f cdv A outer s H vs Q E hr h => ?_)
  case len => obtain ⟨r, many, rfl, _⟩ := h; rfl
  · obtain ⟨r, many, rfl, ⟨sa, sc, i, sd, e, hr', hsc⟩, m1, m2, k⟩ := h
    refine ⟨_, (pss_cons (ps_if (pt_cmpR op_gt (pe_ix (ixK (K := K) rfl) (pv 0) pe_int (fun _ _ => rfl)) pe_int (nomark _)) (pss_cons (ps_set (i := 2) sc_x_law_taken.nd rfl (Or.inl rfl) (pe_op op_mod (pe_callTy cInt rfl T.n_int (by decide +kernel) (pa_cons (pe_ix (ixK (K := K) rfl) (pv 0) pe_int (fun _ _ => rfl)) pa_nil)) (pv 1)))
    (pss_cons (ps_asg (pe_op op_fdiv (pe_ix (ixK (K := K) rfl) (pv 0) pe_int (fun _ _ => rfl)) (pv 1)) (pg_sub (pv 0) pe_int set_list))
    (pss_one (ps_ret (pv 2)))))
    pss_nil)
    (pss_cons (ps_asg (pe_op (addK (K := K) rfl) (pe_ix (ixK (K := K) rfl) (pv 0) pe_int (fun _ _ => rfl)) pe_int) (pg_sub (pv 0) pe_int set_list))
    (pss_cons (ps_if (pt_cmpR op_gt (pe_ix (ixK (K := K) rfl) (pv 0) pe_int (fun _ _ => rfl)) (pe_callB (lenK (K := K) rfl) rfl T.n_len (by decide +kernel) (pa_cons (pe_ix (ixK (K := K) rfl) (pv 0) pe_int (fun _ _ => rfl)) pa_nil)) (nomark _)) (pss_cons (ps_asg (pe_op op_mod (pe_callTy cInt rfl T.n_int (by decide +kernel) (pa_cons (pe_op (addK (K := K) rfl) (pe_op oMul (pe_ix (ixK (K := K) rfl) (pv 0) pe_int (fun _ _ => rfl)) pe_int) pe_int) pa_nil)) pe_int) (pg_sub (pv 0) pe_int set_list))
    (pss_one (ps_ret (pe_op op_mod (pe_callTy cInt rfl T.n_int (by decide +kernel) (pa_cons (pe_op op_fdiv (pe_ix (ixK (K := K) rfl) (pv 0) pe_int (fun _ _ => rfl)) pe_int) pa_nil)) (pv 1)))))
    pss_nil)
    (pss_cons (ps_set (i := 3) sc_x_law_taken.nd rfl (Or.inl rfl) (pe_ix (ixK (K := K) rfl) (pe_ix (ixK (K := K) rfl) (pv 0) pe_int (fun _ _ => rfl)) (pe_op op_sub (pe_ix (ixK (K := K) rfl) (pv 0) pe_int (fun _ _ => rfl)) pe_int) (fun _ _ => rfl)))
    (pss_cons (ps_asg (pe_op op_mod (pe_callTy cInt rfl T.n_int (by decide +kernel) (pa_cons (pe_op (addK (K := K) rfl) (pe_op (addK (K := K) rfl) (pe_op oMul (pe_ix (ixK (K := K) rfl) (pv 0) pe_int (fun _ _ => rfl)) pe_int) (pv 3)) pe_int) pa_nil)) pe_int) (pg_sub (pv 0) pe_int set_list))
    (pss_cons (ps_if (pt_cmpR op_ge (pv 3) (pe_op op_pow pe_int pe_int) (nomark _)) (pss_one (ps_asg (pe_op op_fdiv (pv 3) (pv 1)) (pg_sub (pv 0) pe_int set_list)))
    pss_nil)
    (pss_one (ps_ret (pe_op op_mod (pe_callTy cInt rfl T.n_int (by decide +kernel) (pa_cons (pv 3) pa_nil)) (pv 1)))))))))), ?_⟩
    walk_at "rd"
    refine rd_ixI ?_ (SqL.of hr') rfl
    walk_at "rd"
    refine rd_ite (fun h1 => ?_) (fun h1 => ?_)
    · walk_at "rd"
      refine rd_ixI ?_ (SqL.of hr') rfl
      walk_at "rd"
      refine rd_I (by omega) ?_
      walk_at "rd"
      refine rd_ixI ?_ (SqL.of hr') rfl
      walk_at "rd"
      refine rd_I ⟨by omega, by omega⟩ ?_
      walk_at "rd"
      refine rd_setL (j := 3) hr' rfl ?_
      walk_at "rd"
      obtain ⟨a1, a2, a3⟩ := row_put (j := i) (s' := sd) (e' := e / (many : Nat)) Kp.refl hr' hsc
      exact take_fin m1 e fun n hn => k n _ hn a1 ⟨sa, sc, _, _, _, a2, a3⟩
    · walk_at "rd"
      refine rd_ixI ?_ (SqL.of hr') rfl
      walk_at "rd"
      refine rd_setL (j := 1) hr' rfl ?_
      walk_at "rd"
      obtain ⟨a1, a2, a3⟩ := row_put (j := i + 1) (s' := sd) (e' := e) Kp.refl hr' hsc
      rw [show ([V.ref sa, .int i, .int sd, .int e].set 1 (.int ((i : Int) + 1))) = [V.ref sa, .int (i + 1 : Nat), .int sd, .int e] from rfl]
      revert a1 a2 a3
      generalize upd H r (.lst [V.ref sa, .int (i + 1 : Nat), .int sd, .int e]) = Ha
      intro a1 a2 a3
      refine rd_ixI ?_ (SqL.of a2) rfl
      walk_at "rd"
      refine rd_ixI ?_ (SqL.of a2) rfl
      walk_at "rd"
      refine rd_len_lst a3 ?_
      walk_at "rd"
      rw [List.length_map]
      refine rd_ite (fun h2 => ?_) (fun h2 => ?_)
      · walk_at "rd"
        refine rd_ixI ?_ (SqL.of a2) rfl
        walk_at "rd"
        refine rd_mul_int (.inr ⟨by decide, by decide⟩) ?_
        walk_at "rd"
        refine rd_I (by decide) ?_
        walk_at "rd"
        refine rd_setL (j := 2) a2 rfl ?_
        walk_at "rd"
        obtain ⟨b1, b2, b3⟩ := row_put (j := i + 1) (s' := (sd * 48271 + 11) % 2147483647) (e' := e) a1 a2 a3
        refine rd_ixI ?_ (SqL.of b2) rfl
        walk_at "rd"
        refine rd_I ⟨by decide, by decide⟩ ?_
        walk_at "rd"
        refine rd_I (by omega) ?_
        exact take_fin m1 _ fun n hn => k n _ hn b1 ⟨sa, sc, _, _, _, b2, b3⟩
      · walk_at "rd"
        refine rd_ixI ?_ (SqL.of a2) rfl
        walk_at "rd"
        refine rd_ixI ?_ (SqL.of a2) rfl
        walk_at "rd"
        rw [show ((i + 1 : Nat) : Int) - 1 = (i : Nat) by omega]
        have hi : i < sc.length := by omega
        refine rd_ixLn a3 (v := .int sc[i]) (by rw [List.getElem?_map, List.getElem?_eq_getElem hi]; rfl) ?_
        walk_at "rd"
        generalize sc[i] = cell
        refine rd_ixI ?_ (SqL.of a2) rfl
        walk_at "rd"
        refine rd_mul_int (.inr ⟨by decide, by decide⟩) ?_
        walk_at "rd"
        refine rd_I (by decide) ?_
        walk_at "rd"
        refine rd_setL (j := 2) a2 rfl ?_
        walk_at "rd"
        obtain ⟨b1, b2, b3⟩ := row_put (j := i + 1) (s' := (sd * 48271 + cell + 11) % 2147483647) (e' := e) a1 a2 a3
        rw [show ([V.ref sa, .int (i + 1 : Nat), .int sd, .int e].set 2 (.int ((sd * 48271 + cell + 11) % 2147483647))) = [V.ref sa, .int (i + 1 : Nat), .int ((sd * 48271 + cell + 11) % 2147483647), .int e] from rfl]
        revert b1 b2 b3
        generalize upd Ha r (.lst [V.ref sa, .int (i + 1 : Nat), .int ((sd * 48271 + cell + 11) % 2147483647), .int e]) = Hb
        intro b1 b2 b3
        refine rd_I ⟨by decide, by decide, by decide⟩ ?_
        walk_at "rd"
        refine rd_ite (fun h3 => ?_) (fun h3 => ?_)
        · walk_at "rd"
          refine rd_I ⟨by omega, by omega⟩ ?_
          walk_at "rd"
          refine rd_setL (j := 3) b2 rfl ?_
          walk_at "rd"
          refine rd_I (by omega) ?_
          obtain ⟨c1, c2, c3⟩ := row_put (j := i + 1) (s' := (sd * 48271 + cell + 11) % 2147483647) (e' := cell / (many : Nat)) b1 b2 b3
          exact take_fin m1 _ fun n hn => k n _ hn c1 ⟨sa, sc, _, _, _, c2, c3⟩
        · walk_at "rd"
          refine rd_I (by omega) ?_
          exact take_fin m1 _ fun n hn => k n _ hn b1 ⟨sa, sc, _, _, _, b2, b3⟩
end
section
variable {P : Program} {w : World} {K : PySem.W.Frag} {mg : Str → Option Value} {base : Heap} {CText CPart CCounter CDecoder CTextError CInvalidStep CTooLong CInvalidPlace CInvalidNumber CNotationError CInvalidCount CDecodeError : Addr}
theorem ok_x_law_word (T : Txt K mg CText CPart CCounter CDecoder CTextError CInvalidStep CTooLong CInvalidPlace CInvalidNumber CNotationError CInvalidCount CDecodeError) : GOk P w K mg base CX0 2 "_law_word" (sp_x_law_word K) := by
  refine T.d_x_law_word.ok sc_x_law_word (fun vs H Q E h => ?len) (fun f cdv A outer s H vs Q E hr h => ?_)
  case len => obtain ⟨r, most, rfl, _⟩ := h; rfl
  · obtain ⟨r, most, rfl, row, m1, m2, k⟩ := h
    refine ⟨_, (pss_cons (ps_set (i := 2) sc_x_law_word.nd rfl (Or.inl rfl) pe_str)
    (pss_cons (ps_for PassesOwn.never rfl (pi_range1 rfl T.n_range (pa_cons (pe_op (addK (K := K) rfl) pe_int (pe_g (ok_x_law_taken (K := K) T) (hr.mono (by decide)) pass0 (pa_cons (pv 0) (pa_cons (pv 1) pa_nil)))) pa_nil)) (pg_name (i := 3) sc_x_law_word.nd rfl (Or.inl rfl)) (pss_one (ps_set (i := 2) sc_x_law_word.nd rfl (Or.inl rfl) (pe_op (addK (K := K) rfl) (pv 2) (pe_ix (ixK (K := K) rfl) pe_str (pe_g (ok_x_law_taken (K := K) T) (hr.mono (by decide)) pass0 (pa_cons (pv 0) (pa_cons pe_int pa_nil))) (fun _ _ => rfl))))))
    (pss_one (ps_ret (pv 2))))), ?_⟩
    walk_at "rd"
    refine ⟨r, most, rfl, row, m1, by omega, fun n H1 hn k1 row1 => ?_⟩
    walk_at "rd"
    refine ⟨_, rfl, by omega, by omega, for_range (fun i σ H' => ∃ x v3, σ = [some (.ref r), some (.int (most : Nat)), some (.str x), v3] ∧ Kp H H' ∧ RowAt K H' r ∧ x.length = i ∧ ∀ c ∈ tl x, c = 97 ∨ c = 98 ∨ c = 99 ∨ c = 122) ⟨"", _, rfl, k1, row1, rfl, fun c hc => by cases hc⟩ ?_ ?_⟩
    · rintro i σ H' hi ⟨x, v3, rfl, k2, row2, hx, hc⟩
      walk_at "rd"
      refine ⟨r, 4, rfl, row2, by decide, by decide, fun m H2 hm k3 row3 => ?_⟩
      obtain ⟨c, e1, e2⟩ : ∃ c, (tl ("abcz" : Str))[m]? = some c ∧ (c = 97 ∨ c = 98 ∨ c = 99 ∨ c = 122) := by
        have e : tl ("abcz" : Str) = [97, 98, 99, 122] := by decide +kernel
        rw [e]
        rcases m with _ | _ | _ | _ | m
        · exact ⟨97, rfl, by simp⟩
        · exact ⟨98, rfl, by simp⟩
        · exact ⟨99, rfl, by simp⟩
        · exact ⟨122, rfl, by simp⟩
        · omega
      refine rd_ixSn (Nat.le_trans (show ("abcz" : Str).length ≤ 4 by decide +kernel) four_line) e1 ?_
      have e1' : (⟨#[c]⟩ : Str).length = 1 := rfl
      have e64 := twenty_line
      refine rd_add_str (by omega) ?_
      walk_at "rd"
      refine ⟨x ++ ⟨#[c]⟩, _, rfl, k2.trans k3, row3, by rw [str_len_app]; omega, fun d hd => ?_⟩
      rw [tl_append] at hd
      rcases List.mem_append.mp hd with hd | hd
      · exact hc d hd
      · cases (List.mem_singleton.mp (show d ∈ [c] from hd)); exact e2
    · rintro σ H' ⟨x, v3, rfl, k2, row2, hx, hc⟩
      walk_at "rd"
      exact k x H' ⟨by omega, by omega, hc⟩ k2 row2
end
section
variable {P : Program} {w : World} {K : PySem.W.Frag} {mg : Str → Option Value} {base : Heap} {CText CPart CCounter CDecoder CTextError CInvalidStep CTooLong CInvalidPlace CInvalidNumber CNotationError CInvalidCount CDecodeError : Addr}
theorem ok_x_law_steps (T : Txt K mg CText CPart CCounter CDecoder CTextError CInvalidStep CTooLong CInvalidPlace CInvalidNumber CNotationError CInvalidCount CDecodeError) : GOk P w K mg base CX0 3 "_law_steps" (sp_x_law_steps K) := by
  refine T.d_x_law_steps.ok sc_x_law_steps (fun vs H Q E h => ?len) (fun f cdv A outer s H vs Q E hr h => ?_)
  case len => obtain ⟨r, count, most, rfl, _⟩ := h; rfl
  · obtain ⟨r, count, most, rfl, row, hc, m1, m2, k⟩ := h
    refine ⟨_, (pss_cons (ps_par (i := 3) (j := 4) rfl sc_x_law_steps.nd rfl rfl (by decide) rfl rfl (pa_cons (pe_lst pa_nil) (pa_cons pe_int pa_nil)) rfl)
    (pss_cons (ps_for PassesOwn.never rfl (pi_range1 rfl T.n_range (pa_cons (pv 1) pa_nil)) (pg_name (i := 5) sc_x_law_steps.nd rfl (Or.inl rfl)) (pss_one (ps_if (PW.pt (pw_or (pt_cmpR (eqK (K := K) rfl hr.units) (pv 4) pe_int (nomark _)) (pw_or1 (pt_cmpR (eqK (K := K) rfl hr.units) (pe_g (ok_x_law_taken (K := K) T) (hr.mono (by decide)) pass0 (pa_cons (pv 0) (pa_cons pe_int pa_nil))) pe_int (nomark _))))) (pss_cons (ps_set (i := 6) sc_x_law_steps.nd rfl (Or.inl rfl) (pe_g (ok_x_law_word (K := K) T) (hr.mono (by decide)) pass0 (pa_cons (pv 0) (pa_cons (pe_ix (ixK (K := K) rfl) (pe_lst (pa_cons pe_int (pa_cons pe_int (pa_cons pe_int pa_nil)))) (pe_g (ok_x_law_taken (K := K) T) (hr.mono (by decide)) pass0 (pa_cons (pv 0) (pa_cons pe_int pa_nil))) (fun _ _ => rfl)) pa_nil))))
    (pss_one (ps_if (pt_cmpR op_le (pe_op (addK (K := K) rfl) (pv 4) (pe_callB (lenK (K := K) rfl) rfl T.n_len (by decide +kernel) (pa_cons (pv 6) pa_nil))) (pv 2) (nomark _)) (pss_one (ps_par (i := 3) (j := 4) rfl sc_x_law_steps.nd rfl rfl (by decide) rfl rfl (pa_cons (pe_op (addK (K := K) rfl) (pv 3) (pe_lst (pa_cons (pe_tup (pa_cons pe_str (pa_cons (pv 6) pa_nil))) pa_nil))) (pa_cons (pe_op (addK (K := K) rfl) (pv 4) (pe_callB (lenK (K := K) rfl) rfl T.n_len (by decide +kernel) (pa_cons (pv 6) pa_nil))) pa_nil)) rfl))
    pss_nil)))
    (pss_cons (ps_set (i := 7) sc_x_law_steps.nd rfl (Or.inl rfl) (pe_g (ok_x_law_taken (K := K) T) (hr.mono (by decide)) pass0 (pa_cons (pv 0) (pa_cons (pv 4) pa_nil))))
    (pss_cons (ps_set (i := 8) sc_x_law_steps.nd rfl (Or.inl rfl) (pe_op (addK (K := K) rfl) (pv 7) (pe_g (ok_x_law_taken (K := K) T) (hr.mono (by decide)) pass0 (pa_cons (pv 0) (pa_cons (pe_ix (ixK (K := K) rfl) (pe_lst (pa_cons (pe_op op_sub (pv 4) (pv 7)) (pa_cons (pe_callB (cMin2 rfl) rfl T.n_min (by decide +kernel) (pa_cons pe_int (pa_cons (pe_op op_sub (pv 4) (pv 7)) pa_nil))) pa_nil))) (pe_g (ok_x_law_taken (K := K) T) (hr.mono (by decide)) pass0 (pa_cons (pv 0) (pa_cons pe_int pa_nil))) (fun _ _ => rfl)) pa_nil)))))
    (pss_cons (ps_set (i := 9) sc_x_law_steps.nd rfl (Or.inl rfl) (pe_op (addK (K := K) rfl) pe_int (pe_g (ok_x_law_taken (K := K) T) (hr.mono (by decide)) pass0 (pa_cons (pv 0) (pa_cons (pe_ix (ixK (K := K) rfl) (pe_lst (pa_cons pe_int (pa_cons pe_int (pa_cons pe_int pa_nil)))) (pe_g (ok_x_law_taken (K := K) T) (hr.mono (by decide)) pass0 (pa_cons (pv 0) (pa_cons pe_int pa_nil))) (fun _ _ => rfl)) pa_nil)))))
    (pss_one (ps_if (pt_cmpR op_le (pe_op (addK (K := K) rfl) (pv 4) (pe_op oMul (pe_op (addK (K := K) rfl) (pe_op op_sub (pv 8) (pv 7)) pe_int) (pv 9))) (pv 2) (nomark _)) (pss_one (ps_par (i := 3) (j := 4) rfl sc_x_law_steps.nd rfl rfl (by decide) rfl rfl (pa_cons (pe_op (addK (K := K) rfl) (pv 3) (pe_lst (pa_cons (pe_tup (pa_cons pe_str (pa_cons (pv 7) (pa_cons (pv 8) (pa_cons (pv 9) pa_nil))))) pa_nil))) (pa_cons (pe_op (addK (K := K) rfl) (pv 4) (pe_op oMul (pe_op (addK (K := K) rfl) (pe_op op_sub (pv 8) (pv 7)) pe_int) (pv 9))) pa_nil)) rfl))
    pss_nil))))))))
    (pss_one (ps_ret (pe_callTy (tupK (K := K) rfl) rfl T.n_tuple (by decide +kernel) (pa_cons (pv 3) pa_nil)))))), ?_⟩
    walk_at "rd"
    refine ⟨Nat.zero_le _, fun l hl => ?_⟩
    walk_at "rd"
    have S1 : Same H (upd H l (.lst [])) := Same.new (Same.refl _) hl
    refine ⟨_, rfl, by omega, by omega, for_range (LsPv K H r count most) ⟨l, [], [], _, _, _, _, _, rfl, Kp.same S1, row.mono S1, upd_same, StepsAt.nil, trivial, Nat.le_refl _, Nat.zero_le _, fun z _ => absurd z (by decide), fun c hc => by cases hc⟩ ?_ ?_⟩
    · rintro i σ H' hi ⟨l, ms, ss, v5, v6, v7, v8, v9, rfl, k1, row1, hl1, hst, ok, few, hz, h1, hL⟩
      have line := line30
      have hi' : i < count := by omega
      have hms : ms.length = ss.length := hst.1
      refine rd_name ?_
      refine rd_ifOr (fun Hc => Kp H' Hc ∧ RowAt K Hc r) (fun Hc ⟨kc, rowc⟩ => ?_) (fun join => ?_)
      · have hlc := kc _ _ (nr_refs hst.refs) hl1
        have hstc := hst.kp kc
        walk_at "rd"
        refine ⟨three_line, fun p hp => ?_⟩
        walk_at "rd"
        have S1 : Same Hc (upd Hc p (.lst [.int 2, .int 5, .int 20])) := Same.new (Same.refl _) hp
        refine ⟨r, 3, rfl, rowc.mono S1, by decide, by decide, fun n H2 hn k2 row2 => ?_⟩
        obtain ⟨m, em, hm⟩ := pickL (l := [2, 5, 20]) (n := n) hn
        have hm' : 1 ≤ m ∧ m ≤ 20 := by
          simp only [List.mem_cons, List.not_mem_nil, or_false] at hm
          omega
        refine rd_ixLn (SqL.of (k2 _ _ (nr_nats (l := [2, 5, 20])) upd_same)) em ?_
        walk_at "rd"
        refine ⟨r, m, rfl, row2, hm'.1, hm'.2, fun x H3 hx k3 row3 => ?_⟩
        have kt : Kp Hc H3 := ((Kp.same S1).trans k2).trans k3
        have hl3 := kt _ _ (nr_refs hst.refs) hlc
        have hst3 := hstc.kp kt
        have wz : x.length ≤ sizeLine := str_small (Nat.le_trans hx.2.1 hm'.2)
        walk_at "rd"
        refine rd_len_str wz ?_
        walk_at "rd"
        refine rd_ite (fun h2 => ?_) (fun h2 => ?_)
        · walk_at "rd"
          refine ⟨two_line, fun q hq => ?_⟩
          walk_at "rd"
          refine ⟨one_line, fun q2 hq2 => ?_⟩
          have S4 : Same H3 (upd (upd H3 q (.tup [.str "write", .str x])) q2 (.lst [.ref q])) := Same.new (Same.new (Same.refl _) hq) hq2
          refine rd_add_lst (S4 _ _ hl3) upd_same (by simp only [List.length_cons, List.length_nil]; omega) (fun q3 hq3 => ?_)
          walk_at "rd"
          refine rd_len_str wz ?_
          walk_at "rd"
          have S5 := Same.new (o := .lst (ms ++ [.ref q])) S4 hq3
          have hs1 : StepAt K (upd H3 q (.tup [.str "write", .str x])) (.ref q) (.wr x) := ⟨q, rfl, SqT.of upd_same⟩
          have hs2 := hs1.mono (Same.new (o := .lst (ms ++ [.ref q])) (Same.new (o := .lst [.ref q]) (Same.refl _) hq2) hq3)
          rw [show ((sz ss : Nat) : Int) + (x.length : Nat) = ((sz (ss ++ [.wr x]) : Nat) : Int) by rw [sz_snoc]; rfl]
          exact ⟨q3, ms ++ [.ref q], ss ++ [.wr x], _, _, _, _, _, rfl, ((k1.trans kc).trans kt).trans (Kp.same S5), row3.mono S5, upd_same, (hst3.mono S5).snoc hs2, ok_snoc ok (hx.step hm'.2) (by simp only [len1]; omega), by rw [List.length_append]; simp; omega, by rw [sz_snoc]; simp only [len1]; omega, fun _ _ => by rw [sz_snoc]; have := hx.1; simp only [len1]; omega, hL.wr hx⟩
        · walk_at "rd"
          exact ⟨l, ms, ss, _, _, _, _, _, rfl, (k1.trans kc).trans kt, row3, hl3, hst3, ok, by omega, hz, fun _ m20 => by
            rcases Nat.eq_zero_or_pos i with e | e
            · have h3 := hx.2.1
              have : ss.length = 0 := by omega
              have : sz ss = 0 := by rw [List.length_eq_zero_iff.mp this]; rfl
              omega
            · exact h1 e m20, hL⟩
      · walk_at "rd"
        refine rd_ite (fun h0 => join _ ⟨Kp.refl, row1⟩) (fun h0 => ?_)
        walk_at "rd"
        refine ⟨r, 3, rfl, row1, by decide, by decide, fun n H2 hn k2 row2 => ?_⟩
        walk_at "rd"
        refine rd_ite (fun h2 => by have := join _ ⟨k2, row2⟩; rwa [if_pos rfl] at this) (fun h2 => ?_)
        have hz0 : 1 ≤ sz ss := by omega
        clear join
        walk_at "rd"
        refine ⟨r, sz ss, rfl, row2, hz0, by omega, fun fi H3 hfi k3 row3 => ?_⟩
        walk_at "rd"
        refine ⟨two_line, fun p hp => ?_⟩
        walk_at "rd"
        rw [show ((sz ss : Nat) : Int) - (fi : Nat) = ((sz ss - fi : Nat) : Int) by omega]
        rw [show (if ((sz ss - fi : Nat) : Int) < 4 then ((sz ss - fi : Nat) : Int) else 4) = ((min 4 (sz ss - fi) : Nat) : Int) by split <;> omega]
        have S1 : Same H3 (upd H3 p (.lst ([sz ss - fi, min 4 (sz ss - fi)].map fun m => V.int (m : Nat)))) := Same.new (Same.refl _) hp
        refine ⟨r, 2, rfl, row3.mono S1, by decide, by decide, fun n2 H4 hn2 k4 row4 => ?_⟩
        obtain ⟨m, em, hm⟩ := pickL (l := [sz ss - fi, min 4 (sz ss - fi)]) (n := n2) hn2
        have hm' : 1 ≤ m ∧ m ≤ sz ss - fi := by
          simp only [List.mem_cons, List.not_mem_nil, or_false] at hm
          omega
        clear hm
        refine rd_ixLn (SqL.of (k4 _ _ nr_nats upd_same)) em ?_
        walk_at "rd"
        refine ⟨r, m, rfl, row4, hm'.1, by omega, fun la H5 hla k5 row5 => ?_⟩
        walk_at "rd"
        refine ⟨three_line, fun p2 hp2 => ?_⟩
        walk_at "rd"
        have S2 : Same H5 (upd H5 p2 (.lst ([1, 3, 9].map fun m => V.int (m : Nat)))) := Same.new (Same.refl _) hp2
        refine ⟨r, 3, rfl, row5.mono S2, by decide, by decide, fun n3 H6 hn3 k6 row6 => ?_⟩
        obtain ⟨m3, em3, hm3⟩ := pickL (l := [1, 3, 9]) (n := n3) hn3
        have hm3' : 1 ≤ m3 ∧ m3 ≤ 9 := by
          simp only [List.mem_cons, List.not_mem_nil, or_false] at hm3
          omega
        clear hm3
        refine rd_ixLn (SqL.of (k6 _ _ nr_nats upd_same)) em3 ?_
        walk_at "rd"
        refine ⟨r, m3, rfl, row6, hm3'.1, by omega, fun ti H7 hti k7 row7 => ?_⟩
        have kt : Kp H' H7 := ((((((k2.trans k3).trans (Kp.same S1)).trans k4).trans k5).trans (Kp.same S2)).trans k6).trans k7
        have hl7 := kt _ _ (nr_refs hst.refs) hl1
        have hst7 := hst.kp kt
        walk_at "rd"
        rw [show ((fi : Nat) : Int) + (la : Nat) = ((fi + la : Nat) : Int) by omega, show (1 : Int) + (ti : Nat) = ((1 + ti : Nat) : Int) by omega]
        have el : ((fi + la : Nat) : Int) - (fi : Nat) + 1 = ((fi + la - fi + 1 : Nat) : Int) := by omega
        rw [el]
        refine rd_mul_int (.inr ⟨by omega, by omega⟩) ?_
        rw [← Int.natCast_mul]
        walk_at "rd"
        refine rd_ite (fun h3 => ?_) (fun h3 => ?_)
        · walk_at "rd"
          refine ⟨four_line, fun q hq => ?_⟩
          walk_at "rd"
          refine ⟨one_line, fun q2 hq2 => ?_⟩
          have S4 : Same H7 (upd (upd H7 q (.tup [.str "paste", .int (fi : Nat), .int (fi + la : Nat), .int (1 + ti : Nat)])) q2 (.lst [.ref q])) := Same.new (Same.new (Same.refl _) hq) hq2
          refine rd_add_lst (S4 _ _ hl7) upd_same (by simp only [List.length_cons, List.length_nil]; omega) (fun q3 hq3 => ?_)
          walk_at "rd"
          rw [el]
          refine rd_mul_int (.inr ⟨by omega, by omega⟩) ?_
          rw [← Int.natCast_mul]
          walk_at "rd"
          have S5 := Same.new (o := .lst (ms ++ [.ref q])) S4 hq3
          have hs1 : StepAt K (upd H7 q (.tup [.str "paste", .int (fi : Nat), .int (fi + la : Nat), .int (1 + ti : Nat)])) (.ref q) (.pa fi (fi + la) (1 + ti)) := ⟨q, rfl, SqT.of upd_same⟩
          have hs2 := hs1.mono (Same.new (o := .lst (ms ++ [.ref q])) (Same.new (o := .lst [.ref q]) (Same.refl _) hq2) hq3)
          have ez : len1 (.pa fi (fi + la) (1 + ti)) = (fi + la - fi + 1) * (1 + ti) := rfl
          have h3' : sz ss + (fi + la - fi + 1) * (1 + ti) ≤ most := by omega
          rw [show ((sz ss : Nat) : Int) + (((fi + la - fi + 1) * (1 + ti) : Nat) : Int) = ((sz (ss ++ [.pa fi (fi + la) (1 + ti)]) : Nat) : Int) by rw [sz_snoc, ez]; omega]
          exact ⟨q3, ms ++ [.ref q], ss ++ [.pa fi (fi + la) (1 + ti)], _, _, _, _, _, rfl, (k1.trans kt).trans (Kp.same S5), row7.mono S5, upd_same, (hst7.mono S5).snoc hs2, ok_snoc ok (show okStep (sz ss) (.pa fi (fi + la) (1 + ti)) from ⟨by omega, by omega, by omega, by omega⟩) (by rw [ez]; omega), by rw [List.length_append]; simp; omega, by rw [sz_snoc, ez]; exact h3', fun _ _ => by rw [sz_snoc]; omega, hL.pa⟩
        · walk_at "rd"
          exact ⟨l, ms, ss, _, _, _, _, _, rfl, k1.trans kt, row7, hl7, hst7, ok, by omega, hz, fun _ _ => hz0, hL⟩
    · rintro σ H' ⟨l, ms, ss, v5, v6, v7, v8, v9, rfl, k1, row1, hl1, hst, ok, few, hz, h1, hL⟩
      walk_at "rd"
      refine rd_tuple_lst (SqL.of hl1) fun p hp => ?_
      have S2 : Same H' (upd H' p (.tup ms)) := Same.new (Same.refl _) hp
      exact k p ms ss _ (k1.trans (Kp.same S2)) (row1.mono S2) (SqT.of upd_same) (hst.mono S2) ok (by omega) hz (fun z m20 => h1 (by omega) m20) hL
end
section
variable {P : Program} {w : World} {K : PySem.W.Frag} {mg : Str → Option Value} {base : Heap} {CText CPart CCounter CDecoder CTextError CInvalidStep CTooLong CInvalidPlace CInvalidNumber CNotationError CInvalidCount CDecodeError : Addr}
theorem ok_InvalidStep_init (T : Txt K mg CText CPart CCounter CDecoder CTextError CInvalidStep CTooLong CInvalidPlace CInvalidNumber CNotationError CInvalidCount CDecodeError) : IOk P w K mg base 1 CInvalidStep ["self", "index"] (sp_xi1 CInvalidStep "index") := by
  refine T.d_InvalidStep_init.ok sc_InvalidStep_init (fun vs H Q E h => ?len) (fun f cdv A outer s H vs Q E hr h => ?_)
  case len => obtain ⟨a, i, rfl, _⟩ := h; rfl
  · obtain ⟨a, i, rfl, hi, ha, k⟩ := h
    refine ⟨_, (pss_cons (ps_expr (pe_xinitK (K := K) rfl T.xb_TextError (pa_cons (pv 0) (pa_cons (pe_joined (PJ.cons pe_str (PJ.cons (pe_fmt (pv 1)) PJ.nil))) pa_nil))))
    (pss_one (ps_ostK (K := K) rfl (pv 0) (pv 1)))), ?_⟩
    walk_at "rd"
    refine rd_veI ?_
    walk_at "rd"
    refine rd_jlit (by decide +kernel) (rd_jnum rfl hi (by decide +kernel) fun y hy => rd_jnil ?_)
    walk_at "rd"
    refine rd_veI1 T.x_InvalidStep.oex ha ?_
    refine rd_ost ?_
    walk_at "rd"
    exact rd_ost1 T.x_InvalidStep.oex (T.x_InvalidStep.no _ (.head _)) ha k
end
section
variable {P : Program} {w : World} {K : PySem.W.Frag} {mg : Str → Option Value} {base : Heap} {CText CPart CCounter CDecoder CTextError CInvalidStep CTooLong CInvalidPlace CInvalidNumber CNotationError CInvalidCount CDecodeError : Addr}
theorem scal_ns {v : V} {z : Str} (h : NoSeq v) : scal v (.str z) = true := by cases v <;> first | rfl | exact h.elim
theorem okG_is_step (T : Txt K mg CText CPart CCounter CDecoder CTextError CInvalidStep CTooLong CInvalidPlace CInvalidNumber CNotationError CInvalidCount CDecodeError) : GOk P w K mg base CX0 3 "is_step" (sp_is_stepG K) := by
  refine T.d_is_step.ok sc_is_step (fun vs H Q E h => ?len) (fun f cdv A outer s H vs Q E hr h => ?_)
  case len => obtain ⟨v, n, b, rfl, _⟩ := h; rfl
  · obtain ⟨v, n, b, rfl, hv, k⟩ := h
    obtain ⟨t_MAX_TIMES, h_MAX_TIMES⟩ := T.k_MAX_TIMES; refine ⟨_, (pss_one (ps_match (pv 0) (pcs_seq (qs := [.inl "write", .inr 2]) rfl sc_is_step.nd (PatEach.val (PatEach.cap ⟨rfl, (Or.inl rfl), Or.inl rfl⟩ PatEach.nil)) rfl (pt_val (pe_callB (isiK (K := K) rfl) rfl T.n_isinstance (by decide +kernel) (pa_cons (pv 0) (pa_cons (pe_bltn (v := .ty "tuple") rfl T.n_tuple (by decide +kernel) rfl) pa_nil)))) (pss_one (ps_ret (pe_g (ok_is_word (K := K) T) (hr.mono (by decide)) pass0 (pa_cons (pv 2) pa_nil))))
    (pcs_seq (qs := [.inl "paste", .inr 3, .inr 4, .inr 5]) rfl sc_is_step.nd (PatEach.val (PatEach.cap ⟨rfl, (Or.inl rfl), Or.inl rfl⟩ (PatEach.cap ⟨rfl, (Or.inl rfl), Or.inl rfl⟩ (PatEach.cap ⟨rfl, (Or.inl rfl), Or.inl rfl⟩ PatEach.nil)))) rfl (pt_val (pe_callB (isiK (K := K) rfl) rfl T.n_isinstance (by decide +kernel) (pa_cons (pv 0) (pa_cons (pe_bltn (v := .ty "tuple") rfl T.n_tuple (by decide +kernel) rfl) pa_nil)))) (pss_cons (ps_if (PW.pt (pw_or (pt_not (pt_val (pe_g (ok_is_integer (K := K) T) (hr.mono (by decide)) pass0 (pa_cons (pv 4) (pa_cons pe_int (pa_cons (pe_op op_sub (pv 1) pe_int) pa_nil)))))) (pw_or1 (pt_not (pt_val (pe_g (ok_is_integer (K := K) T) (hr.mono (by decide)) pass0 (pa_cons (pv 3) (pa_cons pe_int (pa_cons (pv 4) pa_nil))))))))) (pss_one (ps_ret pe_bl))
    pss_nil)
    (pss_one (ps_ret (pe_g (ok_is_integer (K := K) T) (hr.mono (by decide)) pass0 (pa_cons (pv 5) (pa_cons pe_int (pa_cons (pe_glob (v := .int 1000000000) rfl h_MAX_TIMES ⟨_, rfl⟩) pa_nil)))))))
    (pcs_wild (pss_one (ps_ret pe_bl))))))), ?_⟩
    walk_at "rd"
    rcases hv with ⟨hv, rfl⟩ | ⟨a, xs, rfl, hxs, hv⟩
    · refine .inl ⟨hv, .inl ⟨hv, ?_⟩⟩
      walk_at "rd"
      exact k _ (Same.refl _)
    -- the second clause, whatever the first one has bound
    · have two : ∀ o : Option V, (xs.length ≠ 4 → b = false) → tCaseS K [.inl "paste", .inr 3, .inr 4, .inr 5] (tB (tCB (rIsi K) (tCons (tVar 0) (tCons (tC (V.ty "tuple")) tNil))))
          (tSeq (tIfS (tOr (tNot (tB (tG sp_is_integer E0 (tCons (tVar 4) (tCons (tC (V.int 0)) (tCons (tOp (rI0 fun i j => V.int (i - j)) (tVar 1) (tC (V.int 1))) tNil)))))) (tNot (tB (tG sp_is_integer E0 (tCons (tVar 3) (tCons (tC (V.int 0)) (tCons (tVar 4) tNil)))))))
            (tRet (tC (V.bl false))) tNext) (tRet (tG sp_is_integer E0 (tCons (tVar 5) (tCons (tC (V.int 1)) (tCons (tC (V.int 1000000000)) tNil))))))
          (fun _ => tRet (tC (V.bl false))) (.ref a) { nx := fun _ H' => Q .non H', rt := Q } [some (.ref a), some (.int n), o, none, none, none] H := by
        intro o hb4
        by_cases l4 : xs.length = 4
        · match xs, l4, hxs, hv with
          | [x1, x2, x3, x4], _, hxs, hv =>
            have h1 := hxs x1 (.head _)
            have h2 := hxs x2 (.tail _ (.head _))
            have h3 := hxs x3 (.tail _ (.tail _ (.head _)))
            have h4 := hxs x4 (.tail _ (.tail _ (.tail _ (.head _))))
            refine .inr ⟨a, [x1, x2, x3, x4], rfl, hv.imp (·.1) (·.1), .inr ⟨rfl, ⟨scal_ns h1.1, fun _ => trivial⟩, ?_⟩⟩
            by_cases e1 : x1 = .str "paste"
            · subst e1
              rw [show mBind [.inl "paste", .inr 3, .inr 4, .inr 5] [V.str "paste", x2, x3, x4] = some [(3, x2), (4, x3), (5, x4)] by simp [mBind]]
              rcases hv with ⟨hq, rfl⟩ | ⟨hq, rfl⟩
              · walk_at "rd"
                refine rd_isi_tup_tuple hq ?_
                walk_at "rd"
                refine rd_cT rfl ?_
                walk_at "rd"
                refine ⟨_, _, _, rfl, h3.1, ?_⟩
                walk_at "rd"
                have eS : isSt n [V.str "paste", x2, x3, x4] = (isInt 0 ((n : Int) - 1) x3 && isInt 0 (intOf x3) x2 && isInt 1 1000000000 x4) := by simp [isSt]
                rw [eS] at k
                cases b3 : isInt 0 ((n : Int) - 1) x3 with
                | false =>
                  refine rd_cT rfl ?_
                  rw [b3] at k
                  walk_at "rd"
                  exact k _ (Same.refl _)
                | true =>
                  refine rd_cF rfl ?_
                  rw [b3, Bool.true_and] at k
                  walk_at "rd"
                  obtain ⟨i3, rfl⟩ : ∃ i, x3 = .int i := by cases x3 <;> first | exact ⟨_, rfl⟩ | cases b3
                  refine ⟨_, _, _, rfl, h2.1, ?_⟩
                  walk_at "rd"
                  cases b2 : isInt 0 i3 x2 with
                  | false =>
                    refine rd_cT rfl ?_
                    rw [show isInt 0 (intOf (.int i3)) x2 = false from b2] at k
                    walk_at "rd"
                    exact k _ (Same.refl _)
                  | true =>
                    refine rd_cF rfl ?_
                    rw [show isInt 0 (intOf (.int i3)) x2 = true from b2, Bool.true_and] at k
                    walk_at "rd"
                    exact ⟨_, _, _, rfl, h4.1, k _ (Same.refl _)⟩
              · walk_at "rd"
                refine rd_isi_lst_tuple hq ?_
                walk_at "rd"
                refine rd_cF rfl ?_
                walk_at "rd"
                exact k _ (Same.refl _)
            · rw [show mBind [.inl "paste", .inr 3, .inr 4, .inr 5] [x1, x2, x3, x4] = none by simp [mBind, e1]]
              walk_at "rd"
              rcases hv with ⟨hq, rfl⟩ | ⟨hq, rfl⟩
              · have eS : isSt n [x1, x2, x3, x4] = false := by
                  unfold isSt
                  split
                  · rename_i e; cases e
                  · rename_i e
                    cases e
                    simp only [Bool.and_eq_false_imp, decide_eq_true_eq]
                    intro z; subst z; exact absurd rfl e1
                  · rfl
                rw [eS] at k
                exact k _ (Same.refl _)
              · exact k _ (Same.refl _)
          | [], l, _, _ => simp at l
          | [_], l, _, _ => simp at l
          | [_, _], l, _, _ => simp at l
          | [_, _, _], l, _, _ => simp at l
          | _ :: _ :: _ :: _ :: _ :: _, l, _, _ => simp at l
        · refine .inr ⟨a, _, rfl, hv.imp (·.1) (·.1), .inl ⟨l4, ?_⟩⟩
          walk_at "rd"
          rw [hb4 l4] at k
          exact k _ (Same.refl _)
      by_cases l2 : xs.length = 2
      · match xs, l2, hxs, hv with
        | [x1, x2], _, hxs, hv =>
          have h1 := hxs x1 (.head _)
          have h2 := hxs x2 (.tail _ (.head _))
          refine .inr ⟨a, [x1, x2], rfl, hv.imp (·.1) (·.1), .inr ⟨rfl, ⟨scal_ns h1.1, fun _ => trivial⟩, ?_⟩⟩
          by_cases e1 : x1 = .str "write"
          · subst e1
            rw [show mBind [.inl "write", .inr 2] [V.str "write", x2] = some [(2, x2)] by simp [mBind]]
            rcases hv with ⟨hq, rfl⟩ | ⟨hq, rfl⟩
            · walk_at "rd"
              refine rd_isi_tup_tuple hq ?_
              walk_at "rd"
              refine rd_cT rfl ?_
              walk_at "rd"
              refine ⟨_, rfl, h2.1, h2.2, fun H' S => ?_⟩
              have eS : isSt n [V.str "write", x2] = isWd x2 := by simp [isSt]
              rw [eS] at k
              exact k _ S
            · walk_at "rd"
              refine rd_isi_lst_tuple hq ?_
              walk_at "rd"
              refine rd_cF rfl ?_
              exact two _ fun _ => rfl
          · rw [show mBind [.inl "write", .inr 2] [x1, x2] = none by simp [mBind, e1]]
            refine two _ fun _ => ?_
            rcases hv with ⟨_, rfl⟩ | ⟨_, rfl⟩
            · unfold isSt
              split
              · rename_i e
                cases e
                simp only [Bool.and_eq_false_imp, decide_eq_true_eq]
                intro z; subst z; exact absurd rfl e1
              · rename_i e; cases e
              · rfl
            · rfl
        | [], l, _, _ => simp at l
        | [_], l, _, _ => simp at l
        | _ :: _ :: _ :: _, l, _, _ => simp at l
      · refine .inr ⟨a, _, rfl, hv.imp (·.1) (·.1), .inl ⟨l2, two _ fun l4 => ?_⟩⟩
        rcases hv with ⟨_, rfl⟩ | ⟨_, rfl⟩
        · unfold isSt
          split
          · exact absurd rfl l2
          · exact absurd rfl l4
          · rfl
        · rfl
end
section
variable {P : Program} {w : World} {K : PySem.W.Frag} {mg : Str → Option Value} {base : Heap} {CText CPart CCounter CDecoder CTextError CInvalidStep CTooLong CInvalidPlace CInvalidNumber CNotationError CInvalidCount CDecodeError : Addr}
theorem okR_Text_init (T : Txt K mg CText CPart CCounter CDecoder CTextError CInvalidStep CTooLong CInvalidPlace CInvalidNumber CNotationError CInvalidCount CDecodeError) : KOk P w K mg base (L2.CX P w) 4 CText (spStar 1 (sp_Text_initR K CInvalidStep CTooLong CText)) := by
  refine T.d_Text_init.okX sc_Text_init (fun f cdv A outer s H vs Q E hr h => ?_)
  · obtain ⟨x, dx, m, rs, rfl, hx, hm, ss, v, hst, ok, hv, few, bad⟩ := h
    have hlt : ss.length < rs.length := (List.getElem?_eq_some_iff.mp hv).1
    obtain ⟨t_MAX_SIZE_texts, h_MAX_SIZE_texts⟩ := T.k_MAX_SIZE_texts; obtain ⟨t_MAX_STEPS, h_MAX_STEPS⟩ := T.k_MAX_STEPS; refine ⟨_, (pss_cons (ps_set (i := 2) sc_Text_init.nd rfl (Or.inl rfl) (pe_lst pa_nil))
    (pss_cons (ps_asg (pe_tup (pa_cons pe_str (pa_cons pe_int pa_nil))) (pg_tupK (K := K) (n := 2) rfl rfl (pgs_cons (pg_name (i := 3) sc_Text_init.nd rfl (Or.inl rfl)) (pgs_cons (pg_name (i := 4) sc_Text_init.nd rfl (Or.inl rfl)) pgs_nil))))
    (pss_cons (ps_for (passes_of rfl) rfl (pi_enumT T.n_enumerate (pa_cons (pv 1) pa_nil)) (pg_tupK (K := K) (n := 2) rfl rfl (pgs_cons (pg_name (i := 5) sc_Text_init.nd rfl (Or.inl rfl)) (pgs_cons (pg_name (i := 6) sc_Text_init.nd rfl (Or.inl rfl)) pgs_nil))) (pss_cons (ps_if (PW.pt (pw_or (pt_cmpR (eqK (K := K) rfl hr.units) (pv 5) (pe_glob (v := .int 30) rfl h_MAX_STEPS ⟨_, rfl⟩) (nomark _)) (pw_or1 (pt_not (pt_val (pe_g (okG_is_step (K := K) T) (hr.mono (by decide)) pass0 (pa_cons (pv 6) (pa_cons (pv 4) pa_nil)))))))) (pss_one (ps_rzI T.x_InvalidStep (ok_InvalidStep_init (K := K) T) (hr.mono (by decide)) (takes_of rfl rfl rfl rfl) (pa_cons (pv 5) pa_nil)))
    pss_nil)
    (pss_cons (ps_if (pt_cmpR (eqK (K := K) rfl hr.units) (pe_ix (ixK (K := K) rfl) (pv 6) pe_int (fun _ _ => rfl)) pe_str (nomark _)) (pss_cons (ps_expr (pe_bmK (K := K) rfl PySem.F.plainAttrs_list PySem.F.slot_list_append PySem.F.type_list_append mt_append (pv 2) (pa_cons (pe_k (ok_Part_init (K := K) T) (hr.mono (by decide)) T.g_Part pass0 (pa_cons (pv 4) (pa_cons (pe_callB (lenK (K := K) rfl) rfl T.n_len (by decide +kernel) (pa_cons (pe_ix (ixK (K := K) rfl) (pv 6) pe_int (fun _ _ => rfl)) pa_nil)) (pa_cons pe_bl (pa_cons (pe_callB (lenK (K := K) rfl) rfl T.n_len (by decide +kernel) (pa_cons (pv 3) pa_nil)) (pa_cons pe_int pa_nil)))))) pa_nil)))
    (pss_one (ps_set (i := 3) sc_Text_init.nd rfl (Or.inl rfl) (pe_op (addK (K := K) rfl) (pv 3) (pe_ix (ixK (K := K) rfl) (pv 6) pe_int (fun _ _ => rfl))))))
    (pss_one (ps_expr (pe_bmK (K := K) rfl PySem.F.plainAttrs_list PySem.F.slot_list_append PySem.F.type_list_append mt_append (pv 2) (pa_cons (pe_k (ok_Part_init (K := K) T) (hr.mono (by decide)) T.g_Part pass0 (pa_cons (pv 4) (pa_cons (pe_op oMul (pe_op (addK (K := K) rfl) (pe_op op_sub (pe_ix (ixK (K := K) rfl) (pv 6) pe_int (fun _ _ => rfl)) (pe_ix (ixK (K := K) rfl) (pv 6) pe_int (fun _ _ => rfl))) pe_int) (pe_ix (ixK (K := K) rfl) (pv 6) pe_int (fun _ _ => rfl))) (pa_cons pe_bl (pa_cons (pe_ix (ixK (K := K) rfl) (pv 6) pe_int (fun _ _ => rfl)) (pa_cons (pe_ix (ixK (K := K) rfl) (pv 6) pe_int (fun _ _ => rfl)) pa_nil)))))) pa_nil)))))
    (pss_cons (ps_set (i := 4) sc_Text_init.nd rfl (Or.inl rfl) (pe_op (addK (K := K) rfl) (pe_fldK (K := K) rfl (pe_ix (ixK (K := K) rfl) (pv 2) (pe_un un_neg pe_int) (fun _ _ => rfl)) (by rfl)) (pe_fldK (K := K) rfl (pe_ix (ixK (K := K) rfl) (pv 2) (pe_un un_neg pe_int) (fun _ _ => rfl)) (by rfl))))
    (pss_one (ps_if (pt_cmpR op_gt (pv 4) (pe_glob (v := .int 1000000000000000000) rfl h_MAX_SIZE_texts ⟨_, rfl⟩) (nomark _)) (pss_one (ps_rz T.x_TooLong (takes_of rfl rfl rfl rfl)))
    pss_nil))))))
    (pss_cons (ps_fld (pv 0) (pv 1) rfl)
    (pss_cons (ps_fld (pv 0) (pv 3) rfl)
    (pss_cons (ps_fld (pv 0) (pv 2) rfl)
    (pss_one (ps_fld (pv 0) (pv 4) rfl)))))))), ?_⟩
    walk_at "rd"
    refine ⟨Nat.zero_le _, fun pl hpl => ?_⟩
    walk_at "rd"
    refine ⟨two_line, fun tp htp => ?_⟩
    refine rd_gtup (SqT.of upd_same) rfl ?_
    walk_at "rd"
    have S1 : Same H (upd (upd H pl (.lst [])) tp (.tup [.str "", .int 0])) := Same.new (Same.new (Same.refl _) hpl) htp
    refine ⟨m, rs, rfl, Same.tup S1 hm, for_enumT (xs := rs) (fun i σ H' => i ≤ ss.length ∧ ∃ ps v5 v6, σ = [some (.ref x), some (.ref m), some (.ref pl), some (.str (mkS (tyL (ss.take i)))), some (.int (sz (ss.take i) : Nat)), v5, v6] ∧ Same H H' ∧ H' pl = some (.lst ps) ∧ PartsAt CPart H' ps (ss.take i))
      ⟨Nat.zero_le _, [], _, _, by rw [emp_mk]; rfl, S1, lk_new htp upd_same, rfl, fun j s hj => by simp at hj⟩ (fun i σ H' _ ⟨_, _, _, _, _, S, _⟩ => Same.tup S hm) ?_ ?_⟩
    · rintro i v' tu σ H' hv' ⟨hi, ps, v5, v6, rfl, S, hpl', hp⟩ hT
      have hpsl : ps.length < sizeLine := by rw [hp.1, List.length_take]; have := line30; omega
      have S2 := Same.new (o := HO.tup [.int (i : Nat), v']) S hT
      -- what stands at i: no step, or one; then it goes on, or the text is too long
      have all : (i = ss.length ∧ (i = 30 ∨ StVal K H (sz (ss.take i) : Nat) v' false) ∧ ∀ d H', Same H H' → H' d = some (.xd [("index", .int (i : Nat))]) → E (.ref CInvalidStep) (some d) H') ∨
          ∃ s', StepAt K H v' s' ∧ okStep (sz (ss.take i)) s' ∧ i < 30 ∧ ((i < ss.length ∧ ss[i]? = some s' ∧ sz (ss.take i) + len1 s' ≤ 1000000000000000000) ∨ (1000000000000000000 < sz (ss.take i) + len1 s' ∧ ∀ H', Same H H' → E (.ref CTooLong) none H')) := by
        by_cases hl : i < ss.length
        · refine .inr ⟨ss[i], ?_, (ok_at ok (List.getElem?_eq_getElem hl)).1, by omega, .inl ⟨hl, List.getElem?_eq_getElem hl, (ok_at ok (List.getElem?_eq_getElem hl)).2⟩⟩
          obtain ⟨v0, e0, st⟩ := hst.2 i _ (List.getElem?_eq_getElem hl)
          rw [List.getElem?_take, if_pos hl, hv'] at e0
          cases e0
          exact st
        · have e : i = ss.length := by omega
          subst e
          rw [hv'] at hv
          cases hv
          rw [List.take_length]
          rcases bad with ⟨b1, b2⟩ | ⟨s, b1, b2, b3, b4, b5⟩
          · exact .inl ⟨rfl, b1, b2⟩
          · exact .inr ⟨s, b1, b2, b3, .inr ⟨b4, b5⟩⟩
      walk_at "rd"
      refine rd_gtup (SqT.of upd_same) rfl ?_
      walk_at "rd"
      rcases all with ⟨ei, hb, hE⟩ | ⟨s', hst', hok, hi30, hc⟩
      · refine rd_ite (fun h30 => ?_) (fun h30 => ?_)
        · refine rd_cT rfl ?_
          refine rd_rzI ?_
          walk_at "rd"
          exact rd_mk1 (by omega) fun d hd => hE d _ (Same.new S2 hd) upd_same
        · walk_at "rd"
          have hb' : StVal K H (sz (ss.take i) : Nat) v' false := hb.resolve_left (by omega)
          refine ⟨_, _, _, rfl, hb'.mono S2, fun Hb S3 => ?_⟩
          walk_at "rd"
          refine rd_cT rfl ?_
          refine rd_rzI ?_
          walk_at "rd"
          exact rd_mk1 (by omega) fun d hd => hE d _ (Same.new (S2.trans S3) hd) upd_same
      · refine rd_dF (by omega) ?_
        walk_at "rd"
        refine ⟨_, _, _, rfl, (hst'.val hok).mono S2, fun Hb S3 => ?_⟩
        have Sb : Same H Hb := S2.trans S3
        have hplb : Hb pl = some (.lst ps) := S3 _ _ (lk_new hT hpl')
        have hpb : PartsAt CPart Hb ps (ss.take i) := hp.mono ((Same.new (Same.refl _) hT).trans S3)
        obtain ⟨a, rfl, hq⟩ := hst'
        have hqb : SqT K Hb a (stV s') := Same.tup Sb hq
        walk_at "rd"
        refine rd_cF rfl ?_
        walk_at "rd"
        have tyz : (tyL (ss.take i)).length ≤ sizeLine := Nat.le_trans (tyL_take_le i) (tyL_line ok few)
        cases s' with
        | wr w =>
          refine rd_ixT ?_ hqb rfl
          walk_at "rd"
          refine rd_dT rfl ?_
          walk_at "rd"
          refine rd_tyL (SqL.of hplb) _ ?_
          walk_at "rd"
          refine rd_ixT ?_ hqb rfl
          walk_at "rd"
          refine rd_len_str (str_small hok.2.1) ?_
          walk_at "rd"
          refine rd_len_str (by rw [mkS_len]; exact tyz) ?_
          walk_at "rd"
          refine rd_mkPart (fun p dxp Hc np SC hpc => ?_)
          walk_at "rd"
          have hplc := SC _ _ hplb
          have nplp : pl ≠ p := ne_of_none hplb np
          refine rd_append hplc hpsl ?_
          have S3 := Same.mut (o := HO.lst (ps ++ [V.ref p])) (Sb.trans SC) hpl
          have E2 := @upd_same Hc pl (HO.lst (ps ++ [V.ref p]))
          have E4 := lk_ne (o := HO.lst (ps ++ [V.ref p])) nplp.symm hpc
          have E3 := fun hs => hpb.snoc (i := i) (s := .wr w) hs (But.at (o := HO.lst (ps ++ [V.ref p])) (But.same SC)) (fun dx fs e => by rw [hplb] at e; cases e) (v := .ref p) ⟨p, dxp, rfl, by rw [mkS_len] at E4; exact E4⟩
          revert S3 E2 E3 E4
          generalize upd Hc pl (HO.lst (ps ++ [V.ref p])) = Hd
          intro S3 E2 E4 E3
          walk_at "rd"
          refine rd_ixT ?_ (Same.tup S3 hq) rfl
          refine rd_add_str (by have := tyL_take_le (ss := ss) i; have := tyL_small ok; have := hok.2.1; rw [mkS_len, sizeLine_eq]; omega) ?_
          walk_at "rd"
          refine rd_ixI ?_ (SqL.of E2) (atI_last _ _)
          refine rd_fld_at E4 T.cPart T.na_Part_start partF_start ?_
          walk_at "rd"
          refine rd_ixI ?_ (SqL.of E2) (atI_last _ _)
          refine rd_fld_at E4 T.cPart T.na_Part_length partF_length ?_
          walk_at "rd"
          simp only [len1] at hc
          rcases hc with ⟨hil, hs, hz⟩ | ⟨hz, hE⟩
          · refine rd_dF (by omega) ?_
            walk_at "rd"
            refine ⟨by omega, _, some (.int i), some (.ref a), ?_, S3, E2, E3 hs⟩
            rw [show (w : Str) = mkS (tl w) from (mkS_tl w).symm, mkS_app, tyL_take hs, sz_take hs, mkS_tl]
            rfl
          · refine rd_dT (by omega) ?_
            exact hE _ S3
        | pa f l t =>
          obtain ⟨o1, o2, o3, o4⟩ := hok
          refine rd_ixT ?_ hqb rfl
          walk_at "rd"
          refine rd_dF (by decide +kernel) ?_
          walk_at "rd"
          refine rd_tyL (SqL.of hplb) _ ?_
          walk_at "rd"
          refine rd_ixT ?_ hqb rfl
          walk_at "rd"
          refine rd_ixT ?_ hqb rfl
          walk_at "rd"
          refine rd_ixT ?_ hqb rfl
          walk_at "rd"
          have hsz := sz_le (ok_take ok i)
          refine rd_mul_int (Or.inl ⟨by omega, by omega⟩) ?_
          walk_at "rd"
          refine rd_ixT ?_ hqb rfl
          walk_at "rd"
          refine rd_ixT ?_ hqb rfl
          walk_at "rd"
          refine rd_mkPart (fun p dxp Hc np SC hpc => ?_)
          walk_at "rd"
          have hplc := SC _ _ hplb
          have nplp : pl ≠ p := ne_of_none hplb np
          refine rd_append hplc hpsl ?_
          rw [show ((l : Int) - f + 1) * t = (((l - f + 1) * t : Nat) : Int) by rw [Int.natCast_mul]; congr 1; omega] at hpc
          have S3 := Same.mut (o := HO.lst (ps ++ [V.ref p])) (Sb.trans SC) hpl
          have E2 := @upd_same Hc pl (HO.lst (ps ++ [V.ref p]))
          have E4 := lk_ne (o := HO.lst (ps ++ [V.ref p])) nplp.symm hpc
          have E3 := fun hs => hpb.snoc (i := i) (s := .pa f l t) hs (But.at (o := HO.lst (ps ++ [V.ref p])) (But.same SC)) (fun dx fs e => by rw [hplb] at e; cases e) (v := .ref p) ⟨p, dxp, rfl, E4⟩
          revert S3 E2 E3 E4
          generalize upd Hc pl (HO.lst (ps ++ [V.ref p])) = Hd
          intro S3 E2 E4 E3
          walk_at "rd"
          refine rd_ixI ?_ (SqL.of E2) (atI_last _ _)
          refine rd_fld_at E4 T.cPart T.na_Part_start partF_start ?_
          walk_at "rd"
          refine rd_ixI ?_ (SqL.of E2) (atI_last _ _)
          refine rd_fld_at E4 T.cPart T.na_Part_length partF_length ?_
          walk_at "rd"
          simp only [len1] at hc
          rcases hc with ⟨hil, hs, hz⟩ | ⟨hz, hE⟩
          · refine rd_dF (by omega) ?_
            walk_at "rd"
            refine ⟨by omega, _, some (.int i), some (.ref a), ?_, S3, E2, E3 hs⟩
            rw [tyL_take hs, sz_take hs]
            simp only [ty1, List.append_nil, len1, Int.natCast_add]
            rfl
          · refine rd_dT (by omega) ?_
            exact hE _ S3
    · rintro σ H' ⟨hi, _⟩
      omega
end
local macro_rules | `(tactic| walk_at "rd1_Fr") => `(tactic| first
  | with_reducible refine rd_seq ?_ | with_reducible refine rd_asg ?_ | with_reducible refine rd_name ?_ | ((with_reducible refine' rd_var ?k1 ?_); (case k1 => rfl)) | with_reducible refine rd_C ?_ | with_reducible refine rd_op ?_ | with_reducible refine rd_cons ?_ | with_reducible refine rd_nil ?_
  | with_reducible refine rd_test ?_ | with_reducible refine rd_tB ?_ | with_reducible refine rd_bl ?_ | with_reducible refine rd_ifS ?_ | with_reducible refine rd_and ?_ | with_reducible refine rd_or ?_ | with_reducible refine rd_not ?_ | with_reducible refine rd_andV ?_ | with_reducible refine rd_orV ?_ | with_reducible refine rd_notV ?_ | with_reducible refine rd_chain ?_
  | with_reducible refine rd_if ?_ | with_reducible refine rd_g ?_ | with_reducible refine rd_m ?_ | with_reducible refine rd_star ?_ | with_reducible refine rd_tup ?_ | with_reducible refine rd_lst ?_ | with_reducible refine rd_fld ?_ | with_reducible refine rd_cb ?_ | with_reducible refine rd_un ?_ | with_reducible refine rd_makeR ?_ | with_reducible refine rd_makeS ?_
  | with_reducible refine rd_bm ?_ | with_reducible refine rd_bm0 ?_ | with_reducible refine rd_next ?_ | with_reducible refine rd_break ?_ | with_reducible refine rd_cont ?_ | with_reducible refine rd_ret ?_ | with_reducible refine rd_retN ?_ | with_reducible refine rd_drop ?_ | with_reducible refine rd_gcons ?_ | with_reducible refine rd_gnil ?_ | with_reducible refine rd_gsub ?_
  | ((with_reducible refine' rd_aug ?k1 ?_); (case k1 => rfl)) | with_reducible refine rd_ipI ?_ | with_reducible refine rd_sfld ?_ | with_reducible refine rd_for ?_ | with_reducible refine rd_iStr ?_ | with_reducible refine rd_iList ?_ | with_reducible refine rd_iTup ?_ | with_reducible refine rd_iRng1 ?_ | with_reducible refine rd_iRng2 ?_ | with_reducible refine rd_iEnumT ?_ | with_reducible refine rd_match ?_ | with_reducible refine rd_par ?_ | with_reducible refine rd_two ?_
  | with_reducible refine rd_sl ?_ | with_reducible refine rd_noPart ?_ | with_reducible refine rd_part ?_ | with_reducible refine rd_pint ?_ | with_reducible refine rd_listRg ?_ | with_reducible refine rd_rg1 ?_ | with_reducible refine rd_rg2 ?_ | with_reducible refine rd_ixO ?_ | with_reducible refine rd_U ?_ | with_reducible refine rd_int_int ?_ | with_reducible refine rd_int_bl ?_ | with_reducible refine rd_min2 ?_ | with_reducible refine rd_max2 ?_ | with_reducible refine rd_in_sign ?_ | with_reducible refine rd_isN ?_ | with_reducible refine rd_notN ?_
  | with_reducible refine rd_lc ?_ | with_reducible refine rd_yes ?_ | with_reducible refine rd_prop ?_ | with_reducible refine rd_cmeth ?_ | with_reducible refine rd_o ?_ | with_reducible refine rd_add_int ?_ | with_reducible refine rd_sub ?_ | with_reducible refine rd_eq_int ?_ | with_reducible refine rd_eq_str ?_ | with_reducible refine rd_eq_bl ?_ | with_reducible refine rd_ne_int ?_ | with_reducible refine rd_ne_str ?_ | with_reducible refine rd_ne_bl ?_ | with_reducible refine rd_I0 ?_
  | with_reducible refine rd_isi_int_int ?_ | with_reducible refine rd_isi_int_bool ?_ | with_reducible refine rd_isi_int_str ?_ | with_reducible refine rd_isi_int_list ?_ | with_reducible refine rd_isi_int_tuple ?_ | with_reducible refine rd_isi_bl_int ?_ | with_reducible refine rd_isi_bl_bool ?_ | with_reducible refine rd_isi_bl_str ?_ | with_reducible refine rd_isi_bl_list ?_ | with_reducible refine rd_isi_bl_tuple ?_ | with_reducible refine rd_isi_str_int ?_ | with_reducible refine rd_isi_str_bool ?_ | with_reducible refine rd_isi_str_str ?_ | with_reducible refine rd_isi_str_list ?_ | with_reducible refine rd_isi_str_tuple ?_ | with_reducible refine rd_isi_non_int ?_ | with_reducible refine rd_isi_non_bool ?_ | with_reducible refine rd_isi_non_str ?_ | with_reducible refine rd_isi_non_list ?_ | with_reducible refine rd_isi_non_tuple ?_)
local macro_rules | `(tactic| walk_at "rd_Fr") => `(tactic| repeat walk_at "rd1_Fr")
local macro_rules | `(tactic| walk_at "same_Fr") => `(tactic| first | assumption | exact Same.refl _ | (refine Same.new ?_ (by assumption); walk_at "same_Fr") | (refine Same.mut ?_ (by assumption); walk_at "same_Fr") | (refine Same.trans ?_ (by assumption); walk_at "same_Fr"))
section
variable {P : Program} {w : World} {K : PySem.W.Frag} {mg : Str → Option Value} {base : Heap} {CText CPart CCounter CDecoder CTextError CInvalidStep CTooLong CInvalidPlace CInvalidNumber CNotationError CInvalidCount CDecodeError : Addr}
theorem ok_NotationError_init (T : Txt K mg CText CPart CCounter CDecoder CTextError CInvalidStep CTooLong CInvalidPlace CInvalidNumber CNotationError CInvalidCount CDecodeError) : IOk P w K mg base 1 CNotationError ["self", "row", "word"] (sp_xi2 CNotationError "row" "word") := by
  refine T.d_NotationError_init.ok sc_NotationError_init (fun vs H Q E h => ?len) (fun f cdv A outer s H vs Q E hr h => ?_)
  case len => obtain ⟨a, i, j, rfl, _⟩ := h; rfl
  · obtain ⟨a, i, j, rfl, hi, hj, ha, k⟩ := h
    refine ⟨_, (pss_cons (ps_expr (pe_xinitK (K := K) rfl T.xb_TextError (pa_cons (pv 0) (pa_cons (pe_joined (PJ.cons pe_str (PJ.cons (pe_fmt (pv 2)) (PJ.cons pe_str (PJ.cons (pe_fmt (pv 1)) PJ.nil))))) pa_nil))))
    (pss_cons (ps_ostK (K := K) rfl (pv 0) (pv 1))
    (pss_one (ps_ostK (K := K) rfl (pv 0) (pv 2))))), ?_⟩
    walk_at "rd_Fr"
    refine rd_veI ?_
    walk_at "rd_Fr"
    have l1 : (Str.ofString "invalid word ").length = 13 := by decide +kernel
    have l2 : (Str.ofString " in row ").length = 8 := by decide +kernel
    have l0 : (Str.empty : Str).length = 0 := rfl
    refine rd_jlitB (by rw [l0, l1]; decide) (rd_jnumB rfl hj (by rw [str_len_app, l0, l1]; decide) fun y hy => rd_jlitB (by rw [l2]; omega) ?_)
    refine rd_jfin hi hy l2 fun y2 => rd_jnil ?_
    walk_at "rd_Fr"
    refine rd_veI1 T.x_NotationError.oex ha ?_
    walk_at "rd_Fr"
    refine rd_ost ?_
    walk_at "rd_Fr"
    refine rd_ost1 T.x_NotationError.oex (T.x_NotationError.no _ (.head _)) ha fun d hd hn => ?_
    show tOst K (Str.ofString "word") (tVar 0) (tVar 2) { nx := fun x H' => Q V.non H', rt := Q } _ _
    refine rd_ost ?_
    walk_at "rd_Fr"
    refine rd_ost2 T.x_NotationError.oex (T.x_NotationError.no _ (.tail _ (.head _))) upd_same (by rw [upd_ne hn, upd_same]) (by show 1 ≤ 900; decide) ?_
    have e := k d hd hn
    rw [upd_swap2 hn]
    exact e
end
section
variable {P : Program} {w : World} {K : PySem.W.Frag} {mg : Str → Option Value} {base : Heap} {CText CPart CCounter CDecoder CTextError CInvalidStep CTooLong CInvalidPlace CInvalidNumber CNotationError CInvalidCount CDecodeError : Addr}
theorem ok_DecodeError_init (T : Txt K mg CText CPart CCounter CDecoder CTextError CInvalidStep CTooLong CInvalidPlace CInvalidNumber CNotationError CInvalidCount CDecodeError) : IOk P w K mg base 1 CDecodeError ["self", "offset"] (sp_xi1 CDecodeError "offset") := by
  refine T.d_DecodeError_init.ok sc_DecodeError_init (fun vs H Q E h => ?len) (fun f cdv A outer s H vs Q E hr h => ?_)
  case len => obtain ⟨a, i, rfl, _⟩ := h; rfl
  · obtain ⟨a, i, rfl, hi, ha, k⟩ := h
    refine ⟨_, (pss_cons (ps_expr (pe_xinitK (K := K) rfl T.xb_TextError (pa_cons (pv 0) (pa_cons (pe_joined (PJ.cons pe_str (PJ.cons (pe_fmt (pv 1)) PJ.nil))) pa_nil))))
    (pss_one (ps_ostK (K := K) rfl (pv 0) (pv 1)))), ?_⟩
    walk_at "rd_Fr"
    refine rd_veI ?_
    walk_at "rd_Fr"
    refine rd_jlit (by decide +kernel) (rd_jnum rfl hi (by decide +kernel) fun y hy => rd_jnil ?_)
    walk_at "rd_Fr"
    refine rd_veI1 T.x_DecodeError.oex ha ?_
    refine rd_ost ?_
    walk_at "rd_Fr"
    exact rd_ost1 T.x_DecodeError.oex (T.x_DecodeError.no _ (.head _)) ha k
end
local macro_rules | `(tactic| walk_at "zl") => `(tactic| (rw [sizeLine_eq]; first | decide | (simp only [List.length_cons, List.length_nil]; omega) | omega))
local macro_rules | `(tactic| walk_at "sm") => `(tactic| first | exact Same.refl _ | assumption | ((with_reducible refine' Same.trans ?sx ?sy); (case sy => assumption); (case sx => walk_at "sm")))
local macro_rules | `(tactic| walk_at "kp") => `(tactic| first | exact Kp.refl | assumption | ((with_reducible refine' Kp.trans ?kx ?ky); (case ky => assumption); (case kx => walk_at "kp")) | ((with_reducible refine' Kp.trans ?kx (Kp.same ?ky)); (case ky => assumption); (case kx => walk_at "kp")))
local macro_rules | `(tactic| walk_at "tx") => `(tactic| first | assumption | ((with_reducible refine' TX.kp ?tx1 ?tx2); (case tx1 => assumption); (case tx2 => walk_at "kp")))
local macro_rules | `(tactic| walk_at "ts") => `(tactic| first | assumption | ((with_reducible refine' TS'.kp ?tx1 ?tx2); (case tx1 => assumption); (case tx2 => walk_at "kp")) | ((with_reducible refine' ts_nil ?tx1); (case tx1 => assumption)))
local macro_rules | `(tactic| walk_at "sx") => `(tactic| first | assumption | ((with_reducible refine' SX.kp ?tx1 ?tx2); (case tx1 => assumption); (case tx2 => walk_at "kp")) | ((with_reducible refine' TS'.sx ?tx1); (case tx1 => walk_at "ts")))
local macro_rules | `(tactic| walk_at "row") => `(tactic| first | assumption | ((with_reducible refine' RowAt.mono ?tx1 ?tx2); (case tx1 => assumption); (case tx2 => walk_at "sm")))
local macro_rules | `(tactic| walk_at "ls") => `(tactic| first | assumption | ((with_reducible refine' kp_natV ?tx1 ?tx2); (case tx1 => assumption); (case tx2 => walk_at "kp")) | ((with_reducible refine' kp_sgV ?tx1 ?tx2); (case tx1 => assumption); (case tx2 => walk_at "kp")) | ((refine' Same.lk ?tx1 ?tx2); (case tx1 => assumption); (case tx2 => walk_at "sm")))
local macro_rules | `(tactic| walk_at "om") => `(tactic| first | omega | with_reducible assumption)
local macro_rules | `(tactic| walk_at "rd1") => `(tactic| first
  | with_reducible refine rd_cons ?_ | ((with_reducible refine' rd_var ?k1 ?_); (case k1 => rfl)) | with_reducible refine rd_C ?_ | with_reducible refine rd_nil ?_ | with_reducible refine rd_op ?_ | with_reducible refine rd_g ?_
  | ((with_reducible refine' rd_nameE ?k1 ?_); (case k1 => (dsimp only [List.set_cons_zero, List.set_cons_succ]; exact rfl))) | with_reducible refine rd_asg ?_ | with_reducible refine rd_seq ?_ | with_reducible refine rd_andrfl ?_ | with_reducible refine rd_prop ?_ | with_reducible refine rd_cb ?_ | with_reducible refine rd_test ?_ | with_reducible refine rd_bl ?_ | with_reducible refine rd_ifS ?_ | with_reducible refine rd_next ?_
  | with_reducible refine rd_tupN ?_ | with_reducible refine rd_lstN ?_ | with_reducible refine rd_add_int ?_ | with_reducible refine rd_sub ?_ | with_reducible refine rd_tB ?_ | with_reducible refine rd_not ?_ | with_reducible refine rd_and ?_ | with_reducible refine rd_or ?_ | with_reducible refine rd_ret ?_ | with_reducible refine rd_cmeth ?_ | with_reducible refine rd_o ?_ | with_reducible refine rd_I0 ?_
  | ((with_reducible show @Eq (Option HO) _ Option.none → _); intro) | with_reducible refine rd_m1 ?_ | with_reducible refine rd_exStr ?_ | ((with_reducible refine' rd_iNat ?k1 ?_); (case k1 => walk_at "ls"))
  | ((with_reducible refine' rd_taken ?k1 ?k2 ?k3 ?_); (case k1 => walk_at "row"); (case k2 => walk_at "om"); (case k3 => walk_at "om"))
  | ((with_reducible refine' rd_word ?k1 ?k2 ?k3 ?_); (case k1 => walk_at "row"); (case k2 => walk_at "om"); (case k3 => walk_at "om"))
  | ((with_reducible refine' rd_stepsL ?k1 ?k2 ?k3 ?k4 ?k5 ?_); (case k1 => walk_at "row"); (case k2 => walk_at "om"); (case k3 => walk_at "om"); (case k4 => walk_at "om"); (case k5 => walk_at "om"))
  | ((with_reducible refine' rd_listS ?k1 ?_); (case k1 => walk_at "ts"))
  | ((with_reducible refine' rd_ofSteps ?k1 ?k2 ?k3 ?_); (case k1 => walk_at "sx"); (case k2 => walk_at "om"); (case k3 => walk_at "om"))
  | ((with_reducible refine' rd_pSize ?k1 ?_); (case k1 => walk_at "tx"))
  | ((with_reducible refine' rd_pTyped ?k1 ?_); (case k1 => walk_at "tx"))
  | ((with_reducible refine' rd_pSteps ?k1 ?_); (case k1 => walk_at "tx"))
  | ((with_reducible refine' rd_oCall ?k1 ?k2 ?k3 ?_); (case k1 => walk_at "tx"); (case k2 => walk_at "om"); (case k3 => walk_at "om"))
  | ((with_reducible refine' rd_oItem ?k1 ?k2 ?k3 ?_); (case k1 => walk_at "tx"); (case k2 => walk_at "om"); (case k3 => walk_at "om"))
  | ((with_reducible refine' rd_opAdd ?k1 ?k2 ?k3 ?k4 ?_); (case k1 => walk_at "tx"); (case k2 => walk_at "tx"); (case k3 => walk_at "om"); (case k4 => walk_at "om"))
  | ((with_reducible refine' rd_opMul ?k1 ?k2 ?k3 ?k4 ?k5 ?_); (case k1 => walk_at "tx"); (case k2 => walk_at "om"); (case k3 => walk_at "om"); (case k4 => walk_at "om"); (case k5 => walk_at "om"))
  | ((with_reducible refine' rd_opEq ?k1 ?k2 ?_); (case k1 => walk_at "tx"); (case k2 => walk_at "tx"))
  | ((with_reducible refine' rd_opEqT ?k1 ?k2 ?_); (case k1 => walk_at "tx"); (case k2 => walk_at "ts"))
  | ((with_reducible refine' rd_opNe ?k1 ?k2 ?_); (case k1 => walk_at "tx"); (case k2 => walk_at "tx"))
  | ((with_reducible refine' rd_mTx ?k1 ?k2 ?_); (case k1 => walk_at "tx"); (case k2 => decide +kernel))
  | ((with_reducible refine' rd_mRetyped ?k1 ?k2 ?k3 ?_); (case k1 => walk_at "tx"); (case k2 => walk_at "om"); (case k3 => walk_at "om"))
  | ((with_reducible refine' rd_eqTT ?k1 ?k2 ?k3 ?k4 ?_); (case k1 => walk_at "ts"); (case k2 => walk_at "ts"); (case k3 => first | assumption | trivial); (case k4 => first | assumption | trivial))
  | ((with_reducible refine' rd_neTT ?k1 ?k2 ?k3 ?k4 ?_); (case k1 => walk_at "ts"); (case k2 => walk_at "ts"); (case k3 => first | assumption | trivial); (case k4 => first | assumption | trivial))
  | ((with_reducible refine' rd_neNN ?k1 ?k2 ?_); (case k1 => walk_at "ls"); (case k2 => walk_at "ls"))
  | ((with_reducible refine' rd_eqNN ?k1 ?k2 ?_); (case k1 => walk_at "ls"); (case k2 => walk_at "ls"))
  | ((with_reducible refine' rd_lenN ?k1 ?_); (case k1 => walk_at "ls"))
  | ((with_reducible refine' rd_lenS ?k1 ?_); (case k1 => walk_at "om"))
  | ((with_reducible refine' rd_ixN ?k1 ?k2 ?k3 ?_); (case k1 => walk_at "ls"); (case k2 => walk_at "om"); (case k3 => walk_at "om"))
  | ((with_reducible refine' rd_ixC ?k1 ?k2 ?k3 ?_); (case k1 => walk_at "om"); (case k2 => walk_at "om"); (case k3 => walk_at "om"))
  | ((with_reducible refine' rd_gtup ?k1 ?k2 ?_); (case k1 => exact SqT.of (by assumption)); (case k2 => rfl))
  | ((with_reducible refine' rd_new ?k1 ?_); (case k1 => walk_at "zl"))
  | with_reducible refine rd_ref1 ?_
  | with_reducible refine rd_nF rfl ?_ | with_reducible refine rd_dT rfl ?_ | with_reducible refine rd_cT rfl ?_ | with_reducible refine rd_cF rfl ?_
  | ((with_reducible refine' rd_dT ?k1 ?_); (case k1 => omega)) | ((with_reducible refine' rd_dF ?k1 ?_); (case k1 => omega)) | ((with_reducible refine' rd_nT ?k1 ?_); (case k1 => omega)) | ((with_reducible refine' rd_nF ?k1 ?_); (case k1 => omega)))
local macro_rules | `(tactic| walk_at "rdS") => `(tactic| repeat ((fail_if_success with_reducible show tIfS _ _ _ _ _ _); walk_at "rd1"))
local macro_rules | `(tactic| walk_at "rd1") => `(tactic| first
  | with_reducible refine rd_dget ?_ | with_reducible refine rd_dput ?_ | with_reducible refine rd_dnotin ?_ | with_reducible refine rd_din ?_ | with_reducible refine rd_disp ?_ | with_reducible refine rd_pairsN ?_ | with_reducible refine rd_pairsC ?_ | with_reducible refine rd_augSk ?_ | with_reducible refine rd_par3 ?_ | with_reducible refine rd_iZip ?_ | with_reducible refine rd_iEnum ?_)
section
variable {P : Program} {w : World} {K : PySem.W.Frag} {mg : Str → Option Value} {base : Heap} {CText CPart CCounter CDecoder CTextError CInvalidStep CTooLong CInvalidPlace CInvalidNumber CNotationError CInvalidCount CDecodeError : Addr}
theorem ok_Counter_init (T : Txt K mg CText CPart CCounter CDecoder CTextError CInvalidStep CTooLong CInvalidPlace CInvalidNumber CNotationError CInvalidCount CDecodeError) : KOk P w K mg base CX0 3 CCounter (sp_Counter_init K CText CPart CCounter) := by
  refine T.d_Counter_init.ok sc_Counter_init (fun vs H Q E h => ?len) (fun f cdv A outer s H vs Q E hr h => ?_)
  case len => obtain ⟨c, dx, a, ss, rfl, _⟩ := h; rfl
  · obtain ⟨c, dx, a, ss, rfl, hx, TT, k⟩ := h
    refine ⟨_, (pss_cons (ps_fld (pv 0) (pv 1) rfl)
    (pss_one (ps_fld (pv 0) (pe_disp (pps_cons pe_int (pe_op oMul (pe_lst (pa_cons pe_int pa_nil)) (pe_callB (lenK (K := K) rfl) rfl T.n_len (by decide +kernel) (pa_cons (pe_p (pv 1) T.cText (ok_Text_typed_keys (K := K) T) (hr.mono (by decide)) pass0) pa_nil))) pps_nil) rfl rfl (by simp) (by decide)) rfl))), ?_⟩
    refine rd_startE (show start N_Counter_init [.ref c, .ref a] = [some (.ref c), some (.ref a)] from rfl) ?_
    have hty := tyL_600 TT
    walk_at "rd"
    refine rd_sfld_at hx T.cCounter T.na_Counter_text (by decide) ?_
    have B1 : But c H (upd H c (.ins CCounter dx (putF "text" (.ref a) []))) := But.at But.refl
    have e1 : upd H c (.ins CCounter dx (putF "text" (.ref a) [])) c = some (.ins CCounter dx (putF "text" (.ref a) [])) := upd_same
    have T1 := TT.butI B1 hx T.ne_Text_Counter T.ne_Part_Counter
    revert B1 e1 T1
    generalize upd H c (.ins CCounter dx (putF "text" (.ref a) [])) = H1
    intro B1 e1 T1
    walk_at "rd"
    intro d hd
    have S2 : Same H1 (upd H1 d (.dK [])) := Same.new (Same.refl _) hd
    have e2 : upd H1 d (.dK []) d = some (.dK []) := upd_same
    have hdH : H d = none := by
      cases e : H d with
      | none => rfl
      | some o =>
        have : d ≠ c := fun z => by subst z; rw [hd] at e1; cases e1
        rw [B1 _ _ this e] at hd; cases hd
    revert S2 e2
    generalize upd H1 d (.dK []) = H2
    intro S2 e2
    walk_at "rd"
    intro l0 H3 S3 e3
    walk_at "rd"
    refine rd_mul_lst e3 (by omega) (by rw [sizeLine_eq]; simp only [List.length_cons, List.length_nil]; omega) fun l hl => ?_
    have eL : (List.replicate (tyL ss).length [V.int 0]).flatten = natV (cnt ss 0) := by
      rw [cnt_zero]; exact natV_rep (tyL ss).length 0
    rw [eL]
    have S4 : Same H3 (upd H3 l (.lst (natV (cnt ss 0)))) := Same.new (Same.refl _) hl
    have e4 : upd H3 l (.lst (natV (cnt ss 0))) l = some (.lst (natV (cnt ss 0))) := upd_same
    revert S4 e4
    generalize upd H3 l (.lst (natV (cnt ss 0))) = H4
    intro S4 e4
    walk_at "rd"
    have e2' := S4 _ _ (S3 _ _ e2)
    refine ⟨e2', [((Sum.inl 0 : Key), V.ref l)], rfl, by simp, ?_⟩
    walk_at "rd"
    have nld : l ≠ d := fun z => by subst z; rw [e2'] at e4; cases e4
    have ncd : c ≠ d := fun z => by subst z; rw [hx] at hdH; cases hdH
    have e1' := S4 _ _ (S3 _ _ (S2 _ _ e1))
    refine rd_sfld_at (lk_ne ncd e1') T.cCounter T.na_Counter_known fl1 ?_
    have B5 : But c H (upd (upd H4 d (.dK (mergeK [] [((Sum.inl 0 : Key), V.ref l)]))) c (.ins CCounter dx (putF "known" (.ref d) (putF "text" (.ref a) [])))) := fun b o hb e => by
      have hbd : b ≠ d := fun z => by subst z; rw [hdH] at e; cases e
      rw [upd_ne hb, upd_ne hbd]
      exact S4 _ _ (S3 _ _ (S2 _ _ (B1 _ _ hb e)))
    have e6 : (upd (upd H4 d (.dK (mergeK [] [((Sum.inl 0 : Key), V.ref l)]))) c (.ins CCounter dx (putF "known" (.ref d) (putF "text" (.ref a) [])))) d = some (.dK [((Sum.inl 0 : Key), V.ref l)]) := by
      rw [upd_ne ncd.symm]; exact upd_same
    have nlc : l ≠ c := fun z => by subst z; rw [e1'] at e4; cases e4
    exact k _ d B5 (ct_new (dx := dx) hx TT T.ne_Text_Counter T.ne_Part_Counter B5 upd_same e6 (by rw [upd_ne nlc, upd_ne nld]; exact e4) (fun z => z (by
      cases e : H l with
      | none => rfl
      | some o =>
        have : l ≠ c := nlc
        rw [S3 _ _ (S2 _ _ (B1 _ _ this e))] at hl; cases hl))) hdH
end
section
variable {P : Program} {w : World} {K : PySem.W.Frag} {mg : Str → Option Value} {base : Heap} {CText CPart CCounter CDecoder CTextError CInvalidStep CTooLong CInvalidPlace CInvalidNumber CNotationError CInvalidCount CDecodeError : Addr}
/-- before, from counts_before -/
theorem before_of (T : Txt K mg CText CPart CCounter CDecoder CTextError CInvalidStep CTooLong CInvalidPlace CInvalidNumber CNotationError CInvalidCount CDecodeError) (n : Nat) (G : MOk P w K mg base CX0 (2 * n + 1) CCounter "counts_before" (sp_Counter_counts_before K CText CPart CCounter n)) : MOk P w K mg base CX0 (2 * n + 2) CCounter "before" (sp_Counter_before K CText CPart CCounter n) := by
  have ok_Counter_counts_before := fun (_ : Txt K mg CText CPart CCounter CDecoder CTextError CInvalidStep CTooLong CInvalidPlace CInvalidNumber CNotationError CInvalidCount CDecodeError) => G
  refine T.d_Counter_before.ok sc_Counter_before (fun vs H Q E h => ?len) (fun f cdv A outer s H vs Q E hr h => ?_)
  case len => obtain ⟨c, a, d, ss, qs, av, x, rfl, _⟩ := h; rfl
  · obtain ⟨c, a, d, ss, qs, av, x, rfl, ct, hav, hx, hn, hr', k⟩ := h
    refine ⟨_, (pss_cons (ps_if (pt_cmp (pc_dnotin (hu_of hr) (pv 1) (pe_fldK (K := K) rfl (pv 0) (by rfl)))) (pss_one (ps_dput (hu_of hr) (pe_fldK (K := K) rfl (pv 0) (by rfl)) (pv 1) (pe_m (pv 0) T.cCounter (ok_Counter_counts_before T) (hr.mono (by omega)) pass0 (pa_cons (pv 1) pa_nil)) rfl))
    pss_nil)
    (pss_one (ps_ret (pe_dget (hu_of hr) (pe_fldK (K := K) rfl (pv 0) (by rfl)) (pv 1) (fun _ _ => rfl))))), ?_⟩
    refine rd_startE (show start N_Counter_before [.ref c, .int (x : Nat)] = [some (.ref c), some (.int (x : Nat))] from rfl) ?_
    obtain ⟨dx, hc⟩ := ct.ins
    obtain ⟨kvs, hd, nd, ⟨v0, h0⟩, hall⟩ := ct.kn.ex
    walk_at "rd"
    refine rd_fld_at hc T.cCounter T.na_Counter_known counterF_known ?_
    refine ⟨d, _, rfl, DGet.k (k := Sum.inl (x : Int)) hd, ?_⟩
    walk_at "rd"
    cases e : valV kvs (Sum.inl (x : Int) : Key) with
    | some v =>
      refine rd_cF rfl ?_
      walk_at "rd"
      refine rd_fld_at hc T.cCounter T.na_Counter_known counterF_known ?_
      walk_at "rd"
      refine ⟨d, v, rfl, e ▸ DGet.k (k := Sum.inl (x : Int)) hd, ?_⟩
      obtain ⟨l, rfl, hl⟩ := ct.kn.get hd e
      exact k _ l But.refl ct hl
    | none =>
      refine rd_cT rfl ?_
      walk_at "rd"
      refine ⟨⟨_, _, hc, counterF_no (by decide +kernel)⟩, ?_⟩
      walk_at "rd"
      have x1 : 1 ≤ x := by
        rcases Nat.eq_zero_or_pos x with z | z
        · subst z
          rw [show (Sum.inl ((0 : Nat) : Int) : Key) = Sum.inl 0 from rfl, h0] at e; cases e
        · exact z
      refine ⟨c, a, d, ss, qs, av, x, rfl, ct, hav, x1, hx, hn, hr', fun H1 l B1 ct1 hl hl0 => ?_⟩
      obtain ⟨dx1, hc1⟩ := ct1.ins
      obtain ⟨kvs1, hd1, _⟩ := ct1.kn.ex
      walk_at "rd"
      refine rd_fld_at hc1 T.cCounter T.na_Counter_known counterF_known ?_
      walk_at "rd"
      refine ⟨d, _, rfl, DPut.k (k := Sum.inl (x : Int)) hd1 (ct1.kn.small hd1 ct1.tx.few ct1.few), ?_⟩
      have ct2 := ct1.put2 hd1 hr'.mem hl (fun z => hav l z hl0)
      have B2 : But d H (upd H1 d (.dK (putK kvs1 (Sum.inl (x : Int)) (.ref l)))) := But.at B1
      have hl2 := but_lst (But.at But.refl) hd1 hl (H' := upd H1 d (.dK (putK kvs1 (Sum.inl (x : Int)) (.ref l))))
      obtain ⟨dx2, hc2⟩ := ct2.ins
      walk_at "rd"
      refine rd_fld_at hc2 T.cCounter T.na_Counter_known counterF_known ?_
      walk_at "rd"
      refine ⟨d, .ref l, rfl, ?_, k _ l B2 ct2 hl2⟩
      have := DGet.k (k := (Sum.inl (x : Int) : Key)) (upd_same (H := H1) (a := d) (o := HO.dK (putK kvs1 (Sum.inl (x : Int)) (.ref l))))
      rw [valV_put, if_pos rfl] at this
      exact this
end
section
variable {P : Program} {w : World} {K : PySem.W.Frag} {mg : Str → Option Value} {base : Heap} {CText CPart CCounter CDecoder CTextError CInvalidStep CTooLong CInvalidPlace CInvalidNumber CNotationError CInvalidCount CDecodeError : Addr}
/-- counts_before, from before of less -/
theorem counts_of (T : Txt K mg CText CPart CCounter CDecoder CTextError CInvalidStep CTooLong CInvalidPlace CInvalidNumber CNotationError CInvalidCount CDecodeError) (n : Nat) (G : MOk P w K mg base CX0 (2 * n + 2) CCounter "before" (sp_Counter_before K CText CPart CCounter n)) : MOk P w K mg base CX0 (2 * n + 3) CCounter "counts_before" (sp_Counter_counts_before K CText CPart CCounter (n + 1)) := by
  have ok_Counter_before := fun (_ : Txt K mg CText CPart CCounter CDecoder CTextError CInvalidStep CTooLong CInvalidPlace CInvalidNumber CNotationError CInvalidCount CDecodeError) => G
  refine T.d_Counter_counts_before.ok sc_Counter_counts_before (fun vs H Q E h => ?len) (fun f cdv A outer s H vs Q E hr h => ?_)
  case len => obtain ⟨c, a, d, ss, qs, av, x, rfl, _⟩ := h; rfl
  · obtain ⟨c, a, d, ss, qs, av, x, rfl, ct, hav, x1, hx, hn, hr', k⟩ := h
    refine ⟨_, (pss_cons (ps_set (i := 2) sc_Counter_counts_before.nd rfl (Or.inl rfl) (pe_ix (ixK (K := K) rfl) (pe_lc (own := [("one", 3)]) rfl sc_Counter_counts_before.nd (pi_listK (K := K) rfl (pe_fldK (K := K) rfl (pe_fldK (K := K) rfl (pv 0) (by rfl)) (by rfl))) (blkOk_by (own := [("one", 3)]) (N := N_Counter_counts_before) (sc := (defScope s_Counter_counts_before)) (by first | decide +kernel | rfl)) (fun _ _ _ _ _ => (pg_name (i := 3) sc_Counter_counts_before.nd rfl (Or.inl rfl))) (fun _ _ _ _ _ => (pts_one (pt_cmpR op_lt (pe_fldK (K := K) rfl (pv 3) (by rfl)) (pv 1) (nomark _)))) (fun _ _ _ _ _ => (pv 3))) (pe_un un_neg pe_int) (fun _ _ => rfl)))
    (pss_cons (ps_par (i := 4) (j := 5) rfl sc_Counter_counts_before.nd rfl rfl (by decide) rfl rfl (pa_cons (pe_callTy (listK (K := K) rfl) rfl T.n_list (by decide +kernel) (pa_cons (pe_m (pv 0) T.cCounter (ok_Counter_before T) (hr.mono (by omega)) pass0 (pa_cons (pe_fldK (K := K) rfl (pv 2) (by rfl)) pa_nil)) pa_nil)) (pa_cons (pe_op op_sub (pv 1) (pe_fldK (K := K) rfl (pv 2) (by rfl))) pa_nil)) rfl)
    (pss_cons (ps_if (pt_val (pe_fldK (K := K) rfl (pv 2) (by rfl))) (pss_cons (ps_for PassesOwn.never rfl (pi_range2 rfl T.n_range (pa_cons (pe_fldK (K := K) rfl (pv 2) (by rfl)) (pa_cons (pe_op (addK (K := K) rfl) (pe_fldK (K := K) rfl (pv 2) (by rfl)) (pv 5)) pa_nil))) (pg_name (i := 6) sc_Counter_counts_before.nd rfl (Or.inl rfl)) (pss_one (ps_augS (pv 4) (pv 6) (pget_list (K := K) rfl) pe_int ip_add set_list)))
    (pss_one (ps_ret (pv 4))))
    pss_nil)
    (pss_cons (ps_set (i := 7) sc_Counter_counts_before.nd rfl (Or.inl rfl) (pe_op (addK (K := K) rfl) (pe_op op_sub (pe_fldK (K := K) rfl (pv 2) (by rfl)) (pe_fldK (K := K) rfl (pv 2) (by rfl))) pe_int))
    (pss_cons (ps_asg (pe_callB cDivm rfl T.n_divmod (by decide +kernel) (pa_cons (pv 5) (pa_cons (pv 7) pa_nil))) (pg_tupK (K := K) (n := 2) rfl rfl (pgs_cons (pg_name (i := 8) sc_Counter_counts_before.nd rfl (Or.inl rfl)) (pgs_cons (pg_name (i := 9) sc_Counter_counts_before.nd rfl (Or.inl rfl)) pgs_nil))))
    (pss_cons (ps_par3 (i := 10) (j := 11) (l := 12) rfl sc_Counter_counts_before.nd rfl rfl rfl (by decide) (by decide) (by decide) rfl rfl rfl (pa_cons (pe_m (pv 0) T.cCounter (ok_Counter_before T) (hr.mono (by omega)) pass0 (pa_cons (pe_fldK (K := K) rfl (pv 2) (by rfl)) pa_nil)) (pa_cons (pe_m (pv 0) T.cCounter (ok_Counter_before T) (hr.mono (by omega)) pass0 (pa_cons (pe_op (addK (K := K) rfl) (pe_fldK (K := K) rfl (pv 2) (by rfl)) pe_int) pa_nil)) (pa_cons (pe_m (pv 0) T.cCounter (ok_Counter_before T) (hr.mono (by omega)) pass0 (pa_cons (pe_op (addK (K := K) rfl) (pe_fldK (K := K) rfl (pv 2) (by rfl)) (pv 9)) pa_nil)) pa_nil))) rfl)
    (pss_cons (ps_set (i := 13) sc_Counter_counts_before.nd rfl (Or.inl rfl) (pe_lst pa_nil))
    (pss_cons (ps_for PassesOwn.never rfl (pi_enumK (K := K) rfl rfl T.n_enumerate (pa_cons (pv 4) pa_nil)) (pg_tupK (K := K) (n := 2) rfl rfl (pgs_cons (pg_name (i := 6) sc_Counter_counts_before.nd rfl (Or.inl rfl)) (pgs_cons (pg_name (i := 14) sc_Counter_counts_before.nd rfl (Or.inl rfl)) pgs_nil))) (pss_one (ps_expr (pe_bmK (K := K) rfl PySem.F.plainAttrs_list PySem.F.slot_list_append PySem.F.type_list_append mt_append (pv 13) (pa_cons (pe_op op_sub (pe_op (addK (K := K) rfl) (pe_op (addK (K := K) rfl) (pv 14) (pe_op op_mulW (pv 8) (pe_op op_sub (pe_ix (ixK (K := K) rfl) (pv 11) (pv 6) (fun _ _ => rfl)) (pe_ix (ixK (K := K) rfl) (pv 10) (pv 6) (fun _ _ => rfl))))) (pe_ix (ixK (K := K) rfl) (pv 12) (pv 6) (fun _ _ => rfl))) (pe_ix (ixK (K := K) rfl) (pv 10) (pv 6) (fun _ _ => rfl))) pa_nil)))))
    (pss_one (ps_ret (pv 13))))))))))), ?_⟩
    refine rd_startE (show start N_Counter_counts_before [.ref c, .int (x : Nat)] = [some (.ref c), some (.int (x : Nat)), none, none, none, none, none, none, none, none, none, none, none, none, none] from rfl) ?_
    obtain ⟨dx, hc⟩ := ct.ins
    obtain ⟨t, TT, rfl⟩ := ct.tx
    obtain ⟨j, hjn, hj, hj1, hj2⟩ := part_of x1 hx
    have few := TT.few
    walk_at "rd"
    refine rd_fld_at hc T.cCounter T.na_Counter_text counterF_text ?_
    walk_at "rd"
    refine rd_fld_at TT.ins T.cText T.na_Text_parts textF_parts ?_
    walk_at "rd"
    have np : t.ps.length = t.ss.length := TT.prt.1
    refine ⟨⟨_, SqL.of TT.pls⟩, fun D hD => lc_filt (f := fun i => (t.ps[i]?).getD .non) (p := fun i => decide (sz (t.ss.take i) < x)) (plain_list (SqL.of TT.pls)) hD (by rw [sizeLine_eq]; omega) (fun _ => rfl) (fun i H1 R1 hi S q => ?_) (fun i H1 Q1 hi hp S q => ?_) fun H1 S1 eD => ?_⟩
    · obtain ⟨v, hv, hp⟩ := TT.prt.2 i _ (List.getElem?_eq_getElem (by omega))
      obtain ⟨p, dp, ln, ty, f', l', rfl, hP'⟩ := hp.start
      rw [hv]
      walk_at "rd"
      refine rd_fld_at (S _ _ hP') T.cPart T.na_Part_start partF_start ?_
      walk_at "rd"
      rw [show decide (((sz (t.ss.take i) : Nat) : Int) < (x : Nat)) = decide (sz (t.ss.take i) < x) from decide_eq_decide.mpr (by omega)]
      exact q _ (Same.refl _)
    · walk_at "rd"
      exact q _ (Same.refl _)
    rw [np, filter_pre hj (fun i hi => by
      rw [decide_eq_true_iff]
      constructor
      · intro z
        rcases Nat.lt_or_ge j i with w | w
        · have := sz_take_mono (ss := t.ss) (show j + 1 ≤ i from w); omega
        · exact w
      · intro z
        have := sz_take_mono (ss := t.ss) z; omega), List.range_succ, List.map_append] at eD
    have ct1 := ct.mono S1
    have hav1 : ∀ b, av b → H1 b ≠ none := fun b z => same_some S1 (hav b z)
    obtain ⟨v, hv, hpart⟩ := (TT.prt.mono S1).2 j _ (List.getElem?_eq_getElem hj)
    have eD' : H1 D = some (.lst ((List.range j).map (fun i => (t.ps[i]?).getD .non) ++ [v])) := by
      rw [eD]; simp only [List.map_cons, List.map_nil, hv]; rfl
    have hs : t.ss[j]? = some t.ss[j] := List.getElem?_eq_getElem hj
    have ok := TT.ok
    have wf := ok_at ok hs
    have hsz := sz_take hs
    have hxs := sz_le ok
    have hjs := sz_take_le (ss := t.ss) (j + 1)
    have hty := tyL_take_le (ss := t.ss) (j + 1)
    have hty6 := tyL_600 (CT := CText) (CP := CPart) ⟨t, TT, rfl⟩
    have htk := tyL_take hs
    have hjx : sz (t.ss.take j) ≤ sz (t.ss.take n) := sz_take_mono (by omega)
    obtain ⟨dx1, hc1⟩ := ct1.ins
    obtain ⟨kv1, hd1, _⟩ := ct1.kn.ex
    walk_at "rd"
    refine rd_ixI ?_ (SqL.of eD') (atI_last _ _)
    walk_at "rd"
    cases hstp : t.ss[j] with
    | wr w =>
      rw [hstp] at hpart hs hsz wf htk
      obtain ⟨pp, dp, rfl, hP⟩ := hpart
      refine ⟨⟨_, _, hc1, counterF_no (by decide +kernel)⟩, ?_⟩
      walk_at "rd"
      refine rd_fld_at hP T.cPart T.na_Part_start partF_start ?_
      walk_at "rd"
      refine ⟨c, a, d, t.ss, qs, av, sz (t.ss.take j), rfl, ct1, hav1, hjx, by omega, reach_c hj (by unfold cs1; rw [hs]; simp) (by omega), fun H2 l2 B2 ct2 hl2 => ?_⟩
      have hP2 := but_any B2 hd1 hP (fun k z => by cases z)
      walk_at "rd"
      refine rd_list_lst (SqL.of hl2) fun lc hlc => ?_
      have S3 : Same H2 (upd H2 lc (.lst (natV (cnt t.ss (sz (t.ss.take j)))))) := Same.new (Same.refl _) hlc
      have e3 : upd H2 lc (.lst (natV (cnt t.ss (sz (t.ss.take j))))) lc = some (.lst (natV (cnt t.ss (sz (t.ss.take j))))) := upd_same
      revert S3 e3
      generalize upd H2 lc (.lst (natV (cnt t.ss (sz (t.ss.take j))))) = H3
      intro S3 e3
      have hP3 := S3 _ _ hP2
      walk_at "rd"
      refine rd_fld_at hP3 T.cPart T.na_Part_start partF_start ?_
      walk_at "rd"
      refine rd_fld_at hP3 T.cPart T.na_Part_is_typed partF_typed ?_
      walk_at "rd"
      refine rd_fld_at hP3 T.cPart T.na_Part_first partF_first ?_
      walk_at "rd"
      refine rd_fld_at hP3 T.cPart T.na_Part_first partF_first ?_
      walk_at "rd"
      simp only [len1] at hsz wf
      simp only [ty1] at htk
      have hlen := len_tl w
      have hty2 : (tyL (t.ss.take j)).length + w.length ≤ (tyL t.ss).length := by rw [htk, List.length_append] at hty; omega
      refine ⟨_, _, rfl, by omega, ?_⟩
      rw [show (((tyL (t.ss.take j)).length : Nat) : Int) + ((x : Nat) - (sz (t.ss.take j) : Nat)) - ((tyL (t.ss.take j)).length : Nat) = ((x - sz (t.ss.take j) : Nat) : Int) by omega, Int.toNat_natCast]
      refine for_range (fun i σ H' => ∃ v6, σ = [some (.ref c), some (.int (x : Nat)), some (.ref pp), none, some (.ref lc), some (.int ((x : Nat) - (sz (t.ss.take j) : Nat))), v6, none, none, none, none, none, none, none, none] ∧ Same H2 H' ∧ H' lc = some (.lst (natV (cntW t.ss (sz (t.ss.take j)) (tyL (t.ss.take j)).length i))))
        ⟨_, rfl, S3, by rw [cntW_zero]; exact e3⟩ ?_ ?_
      · rintro i σ H' hi ⟨v6, rfl, S, e⟩
        rw [show (((tyL (t.ss.take j)).length : Nat) : Int) + (i : Nat) = (((tyL (t.ss.take j)).length + i : Nat) : Int) by omega]
        walk_at "rd"
        refine rd_getL (SqL.of e) (cntW_get (by omega)) ?_
        walk_at "rd"
        refine rd_setL (j := (tyL (t.ss.take j)).length + i) e (by unfold natV cntW; simp only [List.length_map, List.length_range]; exact ixN_natx (by omega)) ?_
        rw [cntW_set]
        exact ⟨_, rfl, Same.mut S hlc, upd_same⟩
      · rintro σ H' ⟨v6, rfl, S, e⟩
        rw [cntW_end ok hs (by omega) hj2] at e
        walk_at "rd"
        refine k H' lc (fun b o hb q => ?_) (ct2.mono S) e (none_back S1 (none_but B2 ct2.dk.choose_spec hlc))
        exact S _ _ (B2 _ _ hb (S1 _ _ q))
    | pa f l tm =>
      rw [hstp] at hpart hs hsz wf htk
      obtain ⟨pp, dp, rfl, hP⟩ := hpart
      obtain ⟨⟨o1, o2, o3, o4⟩, o5⟩ := wf
      simp only [len1] at hsz o5
      have hm : (x - sz (t.ss.take j)) % (l - f + 1) < l - f + 1 := Nat.mod_lt _ (by omega)
      have hq : (x - sz (t.ss.take j)) / (l - f + 1) ≤ x := Nat.le_trans (Nat.div_le_self _ _) (by omega)
      refine ⟨⟨_, _, hc1, counterF_no (by decide +kernel)⟩, ?_⟩
      walk_at "rd"
      refine rd_fld_at hP T.cPart T.na_Part_start partF_start ?_
      walk_at "rd"
      refine ⟨c, a, d, t.ss, qs, av, sz (t.ss.take j), rfl, ct1, hav1, hjx, by omega, reach_c hj (by unfold cs1; rw [hs]; simp) (by omega), fun H2 l2 B2 ct2 hl2 => ?_⟩
      have hP2 := but_any B2 hd1 hP (fun k z => by cases z)
      walk_at "rd"
      refine rd_list_lst (SqL.of hl2) fun lc hlc => ?_
      have S3 : Same H2 (upd H2 lc (.lst (natV (cnt t.ss (sz (t.ss.take j)))))) := Same.new (Same.refl _) hlc
      have e3 : upd H2 lc (.lst (natV (cnt t.ss (sz (t.ss.take j))))) lc = some (.lst (natV (cnt t.ss (sz (t.ss.take j))))) := upd_same
      revert S3 e3
      generalize upd H2 lc (.lst (natV (cnt t.ss (sz (t.ss.take j))))) = H3
      intro S3 e3
      have hP3 := S3 _ _ hP2
      have ct3 := ct2.mono S3
      obtain ⟨dx3, hc3⟩ := ct3.ins
      obtain ⟨kv3, hd3, _⟩ := ct3.kn.ex
      walk_at "rd"
      refine rd_fld_at hP3 T.cPart T.na_Part_start partF_start ?_
      walk_at "rd"
      refine rd_fld_at hP3 T.cPart T.na_Part_is_typed partF_typed ?_
      walk_at "rd"
      refine rd_fld_at hP3 T.cPart T.na_Part_last partF_last ?_
      walk_at "rd"
      refine rd_fld_at hP3 T.cPart T.na_Part_first partF_first ?_
      walk_at "rd"
      rw [show ((l : Nat) : Int) - (f : Nat) + 1 = ((l - f + 1 : Nat) : Int) by omega, show ((x : Nat) : Int) - (sz (t.ss.take j) : Nat) = ((x - sz (t.ss.take j) : Nat) : Int) by omega]
      refine rd_divm (divp_small (by omega) (by omega) (by omega)) fun pd H4 S4 e4 => ?_
      rw [← Int.natCast_ediv, ← Int.natCast_emod] at e4
      have hP4 := S4 _ _ hP3
      have ct4 := ct3.mono S4
      obtain ⟨dx4, hc4⟩ := ct4.ins
      obtain ⟨kv4, hd4, _⟩ := ct4.kn.ex
      have ec4 := S4 _ _ e3
      walk_at "rd"
      refine ⟨⟨_, _, hc4, counterF_no (by decide +kernel)⟩, ?_⟩
      walk_at "rd"
      refine rd_fld_at hP4 T.cPart T.na_Part_first partF_first ?_
      walk_at "rd"
      refine ⟨c, a, d, t.ss, qs, av, f, rfl, ct4, (fun b z => same_some S4 (same_some S3 (but_some B2 ct2.dk.choose_spec (hav1 b z)))), by omega, by omega, reach_c hj (by unfold cs1; rw [hs]; simp) (by omega), fun H5 la B5 ct5 ha5 => ?_⟩
      have hP5 := but_any B5 hd4 hP4 (fun k z => by cases z)
      have ec5 := but_lst B5 hd4 ec4
      obtain ⟨dx5, hc5⟩ := ct5.ins
      obtain ⟨kv5, hd5, _⟩ := ct5.kn.ex
      walk_at "rd"
      refine ⟨⟨_, _, hc5, counterF_no (by decide +kernel)⟩, ?_⟩
      walk_at "rd"
      refine rd_fld_at hP5 T.cPart T.na_Part_last partF_last ?_
      walk_at "rd"
      rw [show ((l : Nat) : Int) + 1 = ((l + 1 : Nat) : Int) by omega]
      refine ⟨c, a, d, t.ss, qs, av, l + 1, rfl, ct5, (fun b z => but_some B5 ct5.dk.choose_spec (same_some S4 (same_some S3 (but_some B2 ct2.dk.choose_spec (hav1 b z))))), by omega, by omega, reach_c hj (by unfold cs1; rw [hs]; simp) (by omega), fun H6 lb B6 ct6 hb6 => ?_⟩
      have hP6 := but_any B6 hd5 hP5 (fun k z => by cases z)
      have ec6 := but_lst B6 hd5 ec5
      have ha6 := but_lst B6 hd5 ha5
      obtain ⟨dx6, hc6⟩ := ct6.ins
      obtain ⟨kv6, hd6, _⟩ := ct6.kn.ex
      walk_at "rd"
      refine ⟨⟨_, _, hc6, counterF_no (by decide +kernel)⟩, ?_⟩
      walk_at "rd"
      refine rd_fld_at hP6 T.cPart T.na_Part_first partF_first ?_
      walk_at "rd"
      rw [show ((f : Nat) : Int) + (((x - sz (t.ss.take j)) % (l - f + 1) : Nat) : Int) = ((f + (x - sz (t.ss.take j)) % (l - f + 1) : Nat) : Int) by omega]
      refine ⟨c, a, d, t.ss, qs, av, f + (x - sz (t.ss.take j)) % (l - f + 1), rfl, ct6, (fun b z => but_some B6 ct6.dk.choose_spec (but_some B5 ct5.dk.choose_spec (same_some S4 (same_some S3 (but_some B2 ct2.dk.choose_spec (hav1 b z)))))), by omega, by omega, reach_phi hs hj1 hj2 hr', fun H7 ld B7 ct7 hd7 => ?_⟩
      have ec7 := but_lst B7 hd6 ec6
      have ha7 := but_lst B7 hd6 ha6
      have hb7 := but_lst B7 hd6 hb6
      walk_at "rd"
      refine ⟨_, _, _, rfl, ?_⟩
      walk_at "rd"
      intro lf H8 S8 e8 hlf
      walk_at "rd"
      have c0 := cnt_len t.ss (sz (t.ss.take j))
      have c1 := cnt_len t.ss (l + 1)
      have c2 := cnt_len t.ss f
      have c3 := cnt_len t.ss (f + (x - sz (t.ss.take j)) % (l - f + 1))
      have cx := cnt_len t.ss x
      refine ⟨lc, _, rfl, SqL.of (S8 _ _ ec7), for_pair (J := Ite K lc) (n := (cnt t.ss (sz (t.ss.take j))).length) (it := fun i => [.int (i : Nat), .int ((cnt t.ss (sz (t.ss.take j)))[i]?.getD 0 : Nat)])
        (fun i σ H' => ∃ v6 v14, σ = [some (.ref c), some (.int (x : Nat)), some (.ref pp), none, some (.ref lc), some (.int ((x - sz (t.ss.take j) : Nat) : Int)), v6, some (.int ((l - f + 1 : Nat) : Int)), some (.int (((x - sz (t.ss.take j)) / (l - f + 1) : Nat) : Int)), some (.int (((x - sz (t.ss.take j)) % (l - f + 1) : Nat) : Int)), some (.ref la), some (.ref lb), some (.ref ld), some (.ref lf), v14] ∧ Same H7 H' ∧ H' lf = some (.lst (natV ((cnt t.ss x).take i))))
        ⟨_, _, rfl, S8, e8⟩ (fun i σ H' _ ⟨_, _, _, S, _⟩ => pairy_enumN (S _ _ ec7)) ?_ ?_⟩
      · rintro i Tu σ H' hi ⟨v6, v14, rfl, S, e⟩ hT
        refine rd_gtup (SqT.of upd_same) rfl ?_
        have ST : Same H' (upd H' Tu (.tup [.int (i : Nat), .int ((cnt t.ss (sz (t.ss.take j)))[i]?.getD 0 : Nat)])) := Same.new (Same.refl _) hT
        revert ST
        generalize upd H' Tu (.tup [.int (i : Nat), .int ((cnt t.ss (sz (t.ss.take j)))[i]?.getD 0 : Nat)]) = Hi
        intro ST
        have S7 := S.trans ST
        have ea := S7 _ _ ha7
        have eb := S7 _ _ hb7
        have ed := S7 _ _ hd7
        have ef := ST _ _ e
        walk_at "rd"
        refine rd_tyL (SqL.of ef) _ ?_
        walk_at "rd"
        rw [Int.toNat_natCast, cnt_nat (by omega), cnt_nat (by omega), cnt_nat (by omega)]
        have b1 := cn_le t.ss (l + 1) i
        have b2 := cn_le t.ss f i
        refine rd_I (wmul (by rw [Int.natAbs_natCast]; omega) (by omega)) ?_
        walk_at "rd"
        rw [Int.toNat_natCast, cnt_nat (by omega)]
        walk_at "rd"
        rw [cnt_nat (by omega), ← cn_pa ok hs (by omega) hj2 i]
        refine rd_append ef (by rw [natV_len, List.length_take, sizeLine_eq]; omega) ?_
        refine ⟨_, _, rfl, Same.mut S7 hlf, ?_⟩
        rw [upd_same, take_snoc (cnt_get (by omega)), natV_snoc]
      · rintro σ H' ⟨v6, v14, rfl, S, e⟩
        rw [List.take_of_length_le (by omega)] at e
        walk_at "rd"
        refine k H' lf (fun b o hb q => ?_) (ct7.mono S) e (none_back S1 (none_but B2 ct2.dk.choose_spec (none_back S3 (none_back S4 (none_but B5 ct5.dk.choose_spec (none_but B6 ct6.dk.choose_spec (none_but B7 ct7.dk.choose_spec hlf)))))))
        exact S _ _ (B7 _ _ hb (B6 _ _ hb (B5 _ _ hb (S4 _ _ (S3 _ _ (B2 _ _ hb (S1 _ _ q)))))))
end
section
variable {P : Program} {w : World} {K : PySem.W.Frag} {mg : Str → Option Value} {base : Heap} {CText CPart CCounter CDecoder CTextError CInvalidStep CTooLong CInvalidPlace CInvalidNumber CNotationError CInvalidCount CDecodeError : Addr}
theorem counts_zero (T : Txt K mg CText CPart CCounter CDecoder CTextError CInvalidStep CTooLong CInvalidPlace CInvalidNumber CNotationError CInvalidCount CDecodeError) : MOk P w K mg base CX0 1 CCounter "counts_before" (sp_Counter_counts_before K CText CPart CCounter 0) := by
  refine T.d_Counter_counts_before.ok sc_Counter_counts_before (fun vs H Q E h => ?_) (fun f cdv A outer s H vs Q E hr h => ?_)
  · obtain ⟨c, a, d, ss, qs, av, x, rfl, _⟩ := h; rfl
  · obtain ⟨c, a, d, ss, qs, av, x, rfl, ct, _, x1, hx, _⟩ := h
    simp only [List.take_zero, sz] at hx
    omega
theorem before_n (T : Txt K mg CText CPart CCounter CDecoder CTextError CInvalidStep CTooLong CInvalidPlace CInvalidNumber CNotationError CInvalidCount CDecodeError) : ∀ n, MOk P w K mg base CX0 (2 * n + 2) CCounter "before" (sp_Counter_before K CText CPart CCounter n)
  | 0 => before_of T 0 (counts_zero T)
  | n + 1 => before_of T (n + 1) (counts_of T n (before_n T n))
theorem ok_Counter_before (T : Txt K mg CText CPart CCounter CDecoder CTextError CInvalidStep CTooLong CInvalidPlace CInvalidNumber CNotationError CInvalidCount CDecodeError) : MOk P w K mg base CX0 62 CCounter "before" (sp_Counter_before K CText CPart CCounter 30) := before_n T 30
end
local macro_rules | `(tactic| walk_at "ct") => `(tactic| first | assumption | ((with_reducible refine' CtAt.mono ?tx1 ?tx2); (case tx1 => assumption); (case tx2 => walk_at "sm")))
local macro_rules | `(tactic| walk_at "rd1") => `(tactic| first
  | ((with_reducible refine' rd_insCt ?k1 ?k2 ?_); (case k1 => walk_at "ct"); (case k2 => decide +kernel))
  | ((with_reducible refine' rd_isIntT ?k1 ?_); (case k1 => omega))
  | ((with_reducible refine' rd_mkCounter ?k1 ?_); (case k1 => walk_at "tx"))
  | ((with_reducible refine' rd_mCheckKey ?k1 ?k2 ?_); (case k1 => walk_at "tx"); (case k2 => omega))
  | ((with_reducible refine' rd_checkRange ?k1 ?k2 ?k3 ?k4 ?_); (case k1 => walk_at "tx"); (case k2 => omega); (case k3 => omega); (case k4 => omega)))
section
variable {P : Program} {w : World} {K : PySem.W.Frag} {mg : Str → Option Value} {base : Heap} {CText CPart CCounter CDecoder CTextError CInvalidStep CTooLong CInvalidPlace CInvalidNumber CNotationError CInvalidCount CDecodeError : Addr}
theorem ok_check_range (T : Txt K mg CText CPart CCounter CDecoder CTextError CInvalidStep CTooLong CInvalidPlace CInvalidNumber CNotationError CInvalidCount CDecodeError) : GOk P w K mg base CX0 3 "check_range" (sp_check_range K CText CPart) := by
  refine T.d_check_range.ok sc_check_range (fun vs H Q E h => ?len) (fun f cdv A outer s H vs Q E hr h => ?_)
  case len => obtain ⟨a, ss, f, e, rfl, _⟩ := h; rfl
  · obtain ⟨a, ss, i, e, rfl, TT, h1, h2, k⟩ := h
    refine ⟨_, (pss_one (ps_if (PW.pt (pw_or (pt_not (pt_val (pe_g (ok_is_integer (K := K) T) (hr.mono (by decide)) pass0 (pa_cons (pv 1) (pa_cons pe_int (pa_cons (pe_p (pv 0) T.cText (ok_Text_size (K := K) T) (hr.mono (by decide)) pass0) pa_nil)))))) (pw_or1 (pt_not (pt_val (pe_g (ok_is_integer (K := K) T) (hr.mono (by decide)) pass0 (pa_cons (pv 2) (pa_cons (pe_op op_sub (pv 1) pe_int) (pa_cons (pe_op op_sub (pe_p (pv 0) T.cText (ok_Text_size (K := K) T) (hr.mono (by decide)) pass0) pe_int) pa_nil))))))))) (pss_one ps_never)
    pss_nil)), ?_⟩
    refine rd_startE (show start N_check_range [.ref a, .int (i : Nat), .int ((e : Int) - 1)] = [some (.ref a), some (.int (i : Nat)), some (.int ((e : Int) - 1))] from rfl) ?_
    walk_at "rd"
    exact k
end
section
variable {P : Program} {w : World} {K : PySem.W.Frag} {mg : Str → Option Value} {base : Heap} {CText CPart CCounter CDecoder CTextError CInvalidStep CTooLong CInvalidPlace CInvalidNumber CNotationError CInvalidCount CDecodeError : Addr}
theorem ok_key_counts (T : Txt K mg CText CPart CCounter CDecoder CTextError CInvalidStep CTooLong CInvalidPlace CInvalidNumber CNotationError CInvalidCount CDecodeError) : GOk P w K mg base CX0 63 "key_counts" (sp_key_counts K CText CPart) := by
  refine T.d_key_counts.ok sc_key_counts (fun vs H Q E h => ?len) (fun f cdv A outer s H vs Q E hr h => ?_)
  case len => obtain ⟨a, ss, f, e, rfl, _⟩ := h; rfl
  · obtain ⟨a, ss, i, e, rfl, TT, h1, h2, k⟩ := h
    refine ⟨_, (pss_cons (ps_expr (pe_g (ok_check_range (K := K) T) (hr.mono (by decide)) pass0 (pa_cons (pv 0) (pa_cons (pv 1) (pa_cons (pv 2) pa_nil)))))
    (pss_cons (ps_set (i := 3) sc_key_counts.nd rfl (Or.inl rfl) (pe_k (ok_Counter_init (K := K) T) (hr.mono (by decide)) T.g_Counter pass0 (pa_cons (pv 0) pa_nil)))
    (pss_one (ps_ret (pe_lc (own := [("low", 4), ("high", 5)]) rfl sc_key_counts.nd (pi_zipK (K := K) rfl rfl T.n_zip (pa_cons (pe_m (pv 3) T.cCounter (ok_Counter_before (K := K) T) (hr.mono (by decide)) pass0 (pa_cons (pv 1) pa_nil)) (pa_cons (pe_m (pv 3) T.cCounter (ok_Counter_before (K := K) T) (hr.mono (by decide)) pass0 (pa_cons (pe_op (addK (K := K) rfl) (pv 2) pe_int) pa_nil)) pa_nil))) (blkOk_by (own := [("low", 4), ("high", 5)]) (N := N_key_counts) (sc := (defScope s_key_counts)) (by first | decide +kernel | rfl)) (fun _ _ _ _ _ => (pg_tupK (K := K) (n := 2) rfl rfl (pgs_cons (pg_name (i := 4) sc_key_counts.nd rfl (Or.inl rfl)) (pgs_cons (pg_name (i := 5) sc_key_counts.nd rfl (Or.inl rfl)) pgs_nil)))) (fun _ _ _ _ _ => pts_nil) (fun _ _ _ _ _ => (pe_op op_sub (pv 5) (pv 4)))))))), ?_⟩
    refine rd_startE (show start N_key_counts [.ref a, .int (i : Nat), .int ((e : Int) - 1)] = [some (.ref a), some (.int (i : Nat)), some (.int ((e : Int) - 1)), none, none, none] from rfl) ?_
    walk_at "rd"
    intro c d H1 S1 ct hd
    have hty := tyL_600 TT
    walk_at "rd"
    refine rd_before ct (fun b z => same_some S1 z) (by omega) (by simp) fun H2 l2 B2 ct2 e2 => ?_
    have hav2 : ∀ b, H b ≠ none → H2 b ≠ none := fun b z => but_some B2 ct2.dk.choose_spec (same_some S1 z)
    walk_at "rd"
    rw [show ((e : Int) - 1 + 1) = (e : Nat) by omega]
    refine rd_before ct2 hav2 (by omega) (by simp) fun H3 l3 B3 ct3 e3 => ?_
    have e2' := but_lst B3 ct2.dk.choose_spec e2
    walk_at "rd"
    refine ⟨l2, l3, _, _, rfl, SqL.of e2', SqL.of e3, ?_⟩
    refine fun D hD => lc_pair (x := fun j => .int ((cnt ss i)[j]?.getD 0 : Nat)) (y := fun j => .int ((cnt ss e)[j]?.getD 0 : Nat)) (pairy_zipN e2' e3) hD (by rw [cnt_len, cnt_len, sizeLine_eq]; omega) rfl (fun _ _ => rfl) (fun _ _ => rfl) (fun j => .int ((cn ss e j - cn ss i j : Nat) : Int)) (fun j H4 Q4 hj S4 q => ?_) fun H4 S4 eD => ?_
    · rw [cnt_len, cnt_len, Nat.min_self] at hj
      walk_at "rd"
      rw [cnt_nat hj, cnt_nat hj, kc_eq ss i e h1]
      exact q _ (Same.refl _)
    · rw [cnt_len, cnt_len, Nat.min_self] at eD
      refine k H4 D ((same_but (B2.trans B3) S1 hd).trans S4) (eD.trans ?_)
      unfold natV
      rw [List.map_map]
      rfl
end
local macro_rules | `(tactic| walk_at "rd1") => `(tactic| first
  | with_reducible refine rd_p6 ?_ | with_reducible refine rd_p9 ?_
  | ((with_reducible refine' rd_stepsQ ?k1 ?k2 ?k3 ?k4 ?k5 ?_); (case k1 => walk_at "row"); (case k2 => omega); (case k3 => omega); (case k4 => omega); (case k5 => omega)))
section
variable {P : Program} {w : World} {K : PySem.W.Frag} {mg : Str → Option Value} {base : Heap} {CText CPart CCounter CDecoder CTextError CInvalidStep CTooLong CInvalidPlace CInvalidNumber CNotationError CInvalidCount CDecodeError : Addr}
theorem ok_x_law_long (T : Txt K mg CText CPart CCounter CDecoder CTextError CInvalidStep CTooLong CInvalidPlace CInvalidNumber CNotationError CInvalidCount CDecodeError) : GOk P w K mg base CX0 8 "_law_long" (sp_x_law_long K CText CPart) := by
  refine T.d_x_law_long.ok sc_x_law_long (fun vs H Q E h => ?len) (fun f cdv A outer s H vs Q E hr h => ?_)
  case len => obtain ⟨r, rfl, _⟩ := h; rfl
  · obtain ⟨r, rfl, row, k⟩ := h
    refine ⟨_, (pss_cons (ps_set (i := 1) sc_x_law_long.nd rfl (Or.inl rfl) (pe_c (pe_glob (v := .ref CText) rfl T.g_Text rfl) (ok_Text_of_steps (K := K) T) (hr.mono (by decide)) pass0 (pa_cons (pe_callTy (listK (K := K) rfl) rfl T.n_list (by decide +kernel) (pa_cons (pe_g (ok_x_law_steps (K := K) T) (hr.mono (by decide)) pass0 (pa_cons (pv 0) (pa_cons (pe_op (addK (K := K) rfl) pe_int (pe_g (ok_x_law_taken (K := K) T) (hr.mono (by decide)) pass0 (pa_cons (pv 0) (pa_cons pe_int pa_nil)))) (pa_cons pe_int pa_nil)))) pa_nil)) pa_nil)))
    (pss_cons (ps_for PassesOwn.never rfl (pi_range1 rfl T.n_range (pa_cons (pe_op (addK (K := K) rfl) pe_int (pe_g (ok_x_law_taken (K := K) T) (hr.mono (by decide)) pass0 (pa_cons (pv 0) (pa_cons pe_int pa_nil)))) pa_nil)) (pg_name (i := 2) sc_x_law_long.nd rfl (Or.inl rfl)) (pss_cons (ps_set (i := 3) sc_x_law_long.nd rfl (Or.inl rfl) (pe_op (addK (K := K) rfl) pe_int (pe_g (ok_x_law_taken (K := K) T) (hr.mono (by decide)) pass0 (pa_cons (pv 0) (pa_cons (pe_ix (ixK (K := K) rfl) (pe_lst (pa_cons pe_int (pa_cons pe_int (pa_cons (pe_op op_pow pe_int pe_int) pa_nil)))) (pe_g (ok_x_law_taken (K := K) T) (hr.mono (by decide)) pass0 (pa_cons (pv 0) (pa_cons pe_int pa_nil))) (fun _ _ => rfl)) pa_nil)))))
    (pss_one (ps_if (pt_cmpR op_lt (pe_op op_mulW (pe_p (pv 1) T.cText (ok_Text_size (K := K) T) (hr.mono (by decide)) pass0) (pv 3)) (pe_op op_pow pe_int pe_int) (nomark _)) (pss_one (ps_set (i := 1) sc_x_law_long.nd rfl (Or.inl rfl) (pe_op (oOwn (ok_Text_add (K := K) T) (hr.mono (by decide)) pass0) (pe_op (oOwnI (ok_Text_mul (K := K) T) (hr.mono (by decide)) pass0) (pv 1) (pv 3)) (pe_c (pe_glob (v := .ref CText) rfl T.g_Text rfl) (ok_Text_of_steps (K := K) T) (hr.mono (by decide)) pass0 (pa_cons (pe_callTy (listK (K := K) rfl) rfl T.n_list (by decide +kernel) (pa_cons (pe_g (ok_x_law_steps (K := K) T) (hr.mono (by decide)) pass0 (pa_cons (pv 0) (pa_cons pe_int (pa_cons pe_int pa_nil)))) pa_nil)) pa_nil)))))
    pss_nil))))
    (pss_one (ps_ret (pv 1))))), ?_⟩
    refine rd_startE (show start N_x_law_long [.ref r] = [some (.ref r), none, none, none] from rfl) ?_
    walk_at "rd"
    intro n1 H1 h1 k1 row1
    walk_at "rd"
    intro p1 ss H2 k2 row2 q2 ok2 few2 hz2 hp2 hL2
    walk_at "rd"
    intro l2 H3 S3 x3
    walk_at "rd"
    intro a H4 S4 T4
    walk_at "rd"
    intro n2 H5 h5 k5 row5
    walk_at "rd"
    refine ⟨_, rfl, by omega, by omega, ?_⟩
    have T5 := T4.kp k5
    have kk : Kp H H5 := by walk_at "kp"
    have row5' := row5
    clear T4 S4 x3 S3 q2
    refine for_range (fun i σ H' => ∃ a ss v2 v3, σ = [some (.ref r), some (.ref a), v2, v3] ∧ Kp H H' ∧ RowAt K H' r ∧ TX K CText CPart H' a ss ∧ 1 ≤ sz ss ∧ sz ss ≤ 100000000000000040 ∧ ss.length ≤ 6 + 3 * i ∧ okLs ss)
      ⟨a, ss, _, _, rfl, kk, row5, T5, hp2 (by omega), by omega, by omega, hL2⟩ ?_ ?_
    · rintro i σ H' hi ⟨a, ss, v2, v3, rfl, kH, rowH, TH, s1, s2, s3, s4⟩
      walk_at "rd"
      intro p H6 S6 x6 _
      have x6' : H6 p = some (.lst (natV [10, 1000, 1000000])) := x6
      walk_at "rd"
      intro n3 H7 h7 k7 row7
      have x7 := kp_natV x6' k7
      obtain ⟨m, em, m1, m2⟩ : ∃ m, [10, 1000, 1000000][(n3 : Int).toNat]?.getD 0 = m ∧ 1 ≤ m ∧ m ≤ 1000000 := by
        rcases n3 with _ | _ | _ | n3
        · exact ⟨10, rfl, by decide, by decide⟩
        · exact ⟨1000, rfl, by decide, by decide⟩
        · exact ⟨1000000, rfl, by decide, by decide⟩
        · omega
      refine rd_ixN x7 (by omega) (by simp; omega) ?_
      rw [em]
      walk_at "rd"
      intro n4 H8 h8 k8 row8
      have T8 : TX K CText CPart H8 a ss := TH.kp (((Kp.same S6).trans k7).trans k8)
      have kH8 : Kp H H8 := kH.trans (((Kp.same S6).trans k7).trans k8)
      walk_at "rd"
      refine rd_I (wmul (by omega) (by omega)) ?_
      walk_at "rd"
      refine rd_p17 fun B hB => ?_
      walk_at "rd"
      refine rd_ite (fun h9 => ?_) (fun h9 => ?_)
      · walk_at "rd"
        intro a9 H9 S9 T9
        walk_at "rd"
        intro p10 s10 H10 k10 row10 q10 ok10 few10 hz10 hp10 hL10
        walk_at "rd"
        intro l11 H11 S11 x11
        walk_at "rd"
        intro a12 H12 S12 T12
        have em1 : (1 + (n4 : Int)).toNat = 1 + n4 := by omega
        rw [em1] at T9
        have ez := sz_mul (ss := ss) (n := 1 + n4) (by omega)
        have el := mul_length ss (1 + n4)
        have hz9 : sz ss * (1 + n4) < 100000000000000000 := by
          have : ((sz ss * (1 + n4) : Nat) : Int) < 100000000000000000 := by
            rw [Int.natCast_mul, Int.natCast_add, ← hB]; exact h9
          omega
        walk_at "rd"
        intro a13 H13 S13 T13
        have ej := sz_join (mulS ss (1 + n4)) s10
        have ejl := join_length (mulS ss (1 + n4)) s10
        walk_at "rd"
        refine ⟨a13, _, _, _, rfl, ?_, by walk_at "row", T13, by omega, by omega, by omega, okLs.join s4.mul hL10⟩
        walk_at "kp"
      · walk_at "rd"
        exact ⟨a, ss, _, _, rfl, kH8, row8, T8, s1, s2, by omega, s4⟩
    · rintro σ H' ⟨a, ss, v2, v3, rfl, kH, rowH, TH, s1, s2, s3, s4⟩
      walk_at "rd"
      exact k a ss H' kH rowH TH s1 s2 (by omega) s4
end
local macro_rules | `(tactic| walk_at "rd1_Fa") => `(tactic| first
  | with_reducible refine rd_seq ?_ | with_reducible refine rd_asg ?_ | with_reducible refine rd_name ?_ | ((with_reducible refine' rd_var ?k1 ?_); (case k1 => rfl)) | with_reducible refine rd_C ?_ | with_reducible refine rd_op ?_ | with_reducible refine rd_cons ?_ | with_reducible refine rd_nil ?_
  | with_reducible refine rd_test ?_ | with_reducible refine rd_tB ?_ | with_reducible refine rd_bl ?_ | with_reducible refine rd_ifS ?_ | with_reducible refine rd_and ?_ | with_reducible refine rd_or ?_ | with_reducible refine rd_not ?_ | with_reducible refine rd_andV ?_ | with_reducible refine rd_orV ?_ | with_reducible refine rd_notV ?_ | with_reducible refine rd_chain ?_
  | with_reducible refine rd_if ?_ | with_reducible refine rd_g ?_ | with_reducible refine rd_m ?_ | with_reducible refine rd_star ?_ | with_reducible refine rd_tup ?_ | with_reducible refine rd_lst ?_ | with_reducible refine rd_fld ?_ | with_reducible refine rd_cb ?_ | with_reducible refine rd_un ?_ | with_reducible refine rd_makeR ?_ | with_reducible refine rd_makeS ?_
  | with_reducible refine rd_bm ?_ | with_reducible refine rd_bm0 ?_ | with_reducible refine rd_next ?_ | with_reducible refine rd_break ?_ | with_reducible refine rd_cont ?_ | with_reducible refine rd_ret ?_ | with_reducible refine rd_retN ?_ | with_reducible refine rd_drop ?_ | with_reducible refine rd_gcons ?_ | with_reducible refine rd_gnil ?_ | with_reducible refine rd_gsub ?_
  | ((with_reducible refine' rd_aug ?k1 ?_); (case k1 => rfl)) | with_reducible refine rd_ipI ?_ | with_reducible refine rd_sfld ?_ | with_reducible refine rd_for ?_ | with_reducible refine rd_iStr ?_ | with_reducible refine rd_iList ?_ | with_reducible refine rd_iTup ?_ | with_reducible refine rd_iRng1 ?_ | with_reducible refine rd_iRng2 ?_ | with_reducible refine rd_iEnumT ?_ | with_reducible refine rd_match ?_ | with_reducible refine rd_par ?_ | with_reducible refine rd_two ?_
  | with_reducible refine rd_sl ?_ | with_reducible refine rd_noPart ?_ | with_reducible refine rd_part ?_ | with_reducible refine rd_pint ?_ | with_reducible refine rd_listRg ?_ | with_reducible refine rd_rg1 ?_ | with_reducible refine rd_rg2 ?_ | with_reducible refine rd_ixO ?_ | with_reducible refine rd_U ?_ | with_reducible refine rd_int_int ?_ | with_reducible refine rd_int_bl ?_ | with_reducible refine rd_min2 ?_ | with_reducible refine rd_max2 ?_ | with_reducible refine rd_in_sign ?_ | with_reducible refine rd_isN ?_ | with_reducible refine rd_notN ?_
  | with_reducible refine rd_lc ?_ | with_reducible refine rd_yes ?_ | with_reducible refine rd_prop ?_ | with_reducible refine rd_cmeth ?_ | with_reducible refine rd_o ?_ | with_reducible refine rd_add_int ?_ | with_reducible refine rd_sub ?_ | with_reducible refine rd_eq_int ?_ | with_reducible refine rd_eq_str ?_ | with_reducible refine rd_eq_bl ?_ | with_reducible refine rd_ne_int ?_ | with_reducible refine rd_ne_str ?_ | with_reducible refine rd_ne_bl ?_ | with_reducible refine rd_I0 ?_
  | with_reducible refine rd_isi_int_int ?_ | with_reducible refine rd_isi_int_bool ?_ | with_reducible refine rd_isi_int_str ?_ | with_reducible refine rd_isi_int_list ?_ | with_reducible refine rd_isi_int_tuple ?_ | with_reducible refine rd_isi_bl_int ?_ | with_reducible refine rd_isi_bl_bool ?_ | with_reducible refine rd_isi_bl_str ?_ | with_reducible refine rd_isi_bl_list ?_ | with_reducible refine rd_isi_bl_tuple ?_ | with_reducible refine rd_isi_str_int ?_ | with_reducible refine rd_isi_str_bool ?_ | with_reducible refine rd_isi_str_str ?_ | with_reducible refine rd_isi_str_list ?_ | with_reducible refine rd_isi_str_tuple ?_ | with_reducible refine rd_isi_non_int ?_ | with_reducible refine rd_isi_non_bool ?_ | with_reducible refine rd_isi_non_str ?_ | with_reducible refine rd_isi_non_list ?_ | with_reducible refine rd_isi_non_tuple ?_)
local macro_rules | `(tactic| walk_at "rd_Fa") => `(tactic| repeat walk_at "rd1_Fa")
local macro_rules | `(tactic| walk_at "same_Fa") => `(tactic| first | assumption | exact Same.refl _ | (refine Same.new ?_ (by assumption); walk_at "same_Fa") | (refine Same.mut ?_ (by assumption); walk_at "same_Fa") | (refine Same.trans ?_ (by assumption); walk_at "same_Fa"))
local macro_rules | `(tactic| walk_at "zl_Fa") => `(tactic| (rw [sizeLine_eq]; first | decide | (simp only [List.length_cons, List.length_nil]; omega) | omega))
local macro_rules | `(tactic| walk_at "sm_Fa") => `(tactic| first | exact Same.refl _ | assumption | ((with_reducible refine' Same.trans ?sx ?sy); (case sy => assumption); (case sx => walk_at "sm_Fa")))
local macro_rules | `(tactic| walk_at "kp_Fa") => `(tactic| first | exact Kp.refl | assumption | ((with_reducible refine' Kp.trans ?kx ?ky); (case ky => assumption); (case kx => walk_at "kp_Fa")) | ((with_reducible refine' Kp.trans ?kx (Kp.same ?ky)); (case ky => assumption); (case kx => walk_at "kp_Fa")))
local macro_rules | `(tactic| walk_at "tx_Fa") => `(tactic| first | assumption | ((with_reducible refine' TX.kp ?tx1 ?tx2); (case tx1 => assumption); (case tx2 => walk_at "kp_Fa")))
local macro_rules | `(tactic| walk_at "ts_Fa") => `(tactic| first | assumption | ((with_reducible refine' TS'.kp ?tx1 ?tx2); (case tx1 => assumption); (case tx2 => walk_at "kp_Fa")) | ((with_reducible refine' ts_nil ?tx1); (case tx1 => assumption)))
local macro_rules | `(tactic| walk_at "sx_Fa") => `(tactic| first | assumption | ((with_reducible refine' SX.kp ?tx1 ?tx2); (case tx1 => assumption); (case tx2 => walk_at "kp_Fa")) | ((with_reducible refine' TS'.sx ?tx1); (case tx1 => walk_at "ts_Fa")))
local macro_rules | `(tactic| walk_at "row_Fa") => `(tactic| first | assumption | ((with_reducible refine' RowAt.mono ?tx1 ?tx2); (case tx1 => assumption); (case tx2 => walk_at "sm_Fa")))
local macro_rules | `(tactic| walk_at "ls_Fa") => `(tactic| first | assumption | ((with_reducible refine' kp_natV ?tx1 ?tx2); (case tx1 => assumption); (case tx2 => walk_at "kp_Fa")) | ((with_reducible refine' kp_sgV ?tx1 ?tx2); (case tx1 => assumption); (case tx2 => walk_at "kp_Fa")) | ((refine' Same.lk ?tx1 ?tx2); (case tx1 => assumption); (case tx2 => walk_at "sm_Fa")))
local macro_rules | `(tactic| walk_at "om_Fa") => `(tactic| first | omega | with_reducible assumption)
local macro_rules | `(tactic| walk_at "rd1_Fa") => `(tactic| first
  | with_reducible refine rd_cons ?_ | ((with_reducible refine' rd_var ?k1 ?_); (case k1 => rfl)) | with_reducible refine rd_C ?_ | with_reducible refine rd_nil ?_ | with_reducible refine rd_op ?_ | with_reducible refine rd_g ?_
  | ((with_reducible refine' rd_nameE ?k1 ?_); (case k1 => (dsimp only [List.set_cons_zero, List.set_cons_succ]; exact rfl))) | with_reducible refine rd_asg ?_ | with_reducible refine rd_seq ?_ | with_reducible refine rd_andrfl ?_ | with_reducible refine rd_prop ?_ | with_reducible refine rd_cb ?_ | with_reducible refine rd_test ?_ | with_reducible refine rd_bl ?_ | with_reducible refine rd_ifS ?_ | with_reducible refine rd_next ?_
  | with_reducible refine rd_tupN ?_ | with_reducible refine rd_lstN ?_ | with_reducible refine rd_add_int ?_ | with_reducible refine rd_sub ?_ | with_reducible refine rd_tB ?_ | with_reducible refine rd_not ?_ | with_reducible refine rd_and ?_ | with_reducible refine rd_or ?_ | with_reducible refine rd_ret ?_ | with_reducible refine rd_cmeth ?_ | with_reducible refine rd_o ?_ | with_reducible refine rd_I0 ?_
  | ((with_reducible show @Eq (Option HO) _ Option.none → _); intro) | with_reducible refine rd_m1 ?_ | with_reducible refine rd_exStr ?_ | ((with_reducible refine' rd_iNat ?k1 ?_); (case k1 => walk_at "ls_Fa"))
  | ((with_reducible refine' rd_taken ?k1 ?k2 ?k3 ?_); (case k1 => walk_at "row_Fa"); (case k2 => walk_at "om_Fa"); (case k3 => walk_at "om_Fa"))
  | ((with_reducible refine' rd_word ?k1 ?k2 ?k3 ?_); (case k1 => walk_at "row_Fa"); (case k2 => walk_at "om_Fa"); (case k3 => walk_at "om_Fa"))
  | ((with_reducible refine' rd_stepsL ?k1 ?k2 ?k3 ?k4 ?k5 ?_); (case k1 => walk_at "row_Fa"); (case k2 => walk_at "om_Fa"); (case k3 => walk_at "om_Fa"); (case k4 => walk_at "om_Fa"); (case k5 => walk_at "om_Fa"))
  | ((with_reducible refine' rd_listS ?k1 ?_); (case k1 => walk_at "ts_Fa"))
  | ((with_reducible refine' rd_ofSteps ?k1 ?k2 ?k3 ?_); (case k1 => walk_at "sx_Fa"); (case k2 => walk_at "om_Fa"); (case k3 => walk_at "om_Fa"))
  | ((with_reducible refine' rd_pSize ?k1 ?_); (case k1 => walk_at "tx_Fa"))
  | ((with_reducible refine' rd_pTyped ?k1 ?_); (case k1 => walk_at "tx_Fa"))
  | ((with_reducible refine' rd_pSteps ?k1 ?_); (case k1 => walk_at "tx_Fa"))
  | ((with_reducible refine' rd_oCall ?k1 ?k2 ?k3 ?_); (case k1 => walk_at "tx_Fa"); (case k2 => walk_at "om_Fa"); (case k3 => walk_at "om_Fa"))
  | ((with_reducible refine' rd_oItem ?k1 ?k2 ?k3 ?_); (case k1 => walk_at "tx_Fa"); (case k2 => walk_at "om_Fa"); (case k3 => walk_at "om_Fa"))
  | ((with_reducible refine' rd_opAdd ?k1 ?k2 ?k3 ?k4 ?_); (case k1 => walk_at "tx_Fa"); (case k2 => walk_at "tx_Fa"); (case k3 => walk_at "om_Fa"); (case k4 => walk_at "om_Fa"))
  | ((with_reducible refine' rd_opMul ?k1 ?k2 ?k3 ?k4 ?k5 ?_); (case k1 => walk_at "tx_Fa"); (case k2 => walk_at "om_Fa"); (case k3 => walk_at "om_Fa"); (case k4 => walk_at "om_Fa"); (case k5 => walk_at "om_Fa"))
  | ((with_reducible refine' rd_opEq ?k1 ?k2 ?_); (case k1 => walk_at "tx_Fa"); (case k2 => walk_at "tx_Fa"))
  | ((with_reducible refine' rd_opEqT ?k1 ?k2 ?_); (case k1 => walk_at "tx_Fa"); (case k2 => walk_at "ts_Fa"))
  | ((with_reducible refine' rd_opNe ?k1 ?k2 ?_); (case k1 => walk_at "tx_Fa"); (case k2 => walk_at "tx_Fa"))
  | ((with_reducible refine' rd_mTx ?k1 ?k2 ?_); (case k1 => walk_at "tx_Fa"); (case k2 => decide +kernel))
  | ((with_reducible refine' rd_mRetyped ?k1 ?k2 ?k3 ?_); (case k1 => walk_at "tx_Fa"); (case k2 => walk_at "om_Fa"); (case k3 => walk_at "om_Fa"))
  | ((with_reducible refine' rd_eqTT ?k1 ?k2 ?k3 ?k4 ?_); (case k1 => walk_at "ts_Fa"); (case k2 => walk_at "ts_Fa"); (case k3 => first | assumption | trivial); (case k4 => first | assumption | trivial))
  | ((with_reducible refine' rd_neTT ?k1 ?k2 ?k3 ?k4 ?_); (case k1 => walk_at "ts_Fa"); (case k2 => walk_at "ts_Fa"); (case k3 => first | assumption | trivial); (case k4 => first | assumption | trivial))
  | ((with_reducible refine' rd_neNN ?k1 ?k2 ?_); (case k1 => walk_at "ls_Fa"); (case k2 => walk_at "ls_Fa"))
  | ((with_reducible refine' rd_eqNN ?k1 ?k2 ?_); (case k1 => walk_at "ls_Fa"); (case k2 => walk_at "ls_Fa"))
  | ((with_reducible refine' rd_lenN ?k1 ?_); (case k1 => walk_at "ls_Fa"))
  | ((with_reducible refine' rd_lenS ?k1 ?_); (case k1 => walk_at "om_Fa"))
  | ((with_reducible refine' rd_ixN ?k1 ?k2 ?k3 ?_); (case k1 => walk_at "ls_Fa"); (case k2 => walk_at "om_Fa"); (case k3 => walk_at "om_Fa"))
  | ((with_reducible refine' rd_ixC ?k1 ?k2 ?k3 ?_); (case k1 => walk_at "om_Fa"); (case k2 => walk_at "om_Fa"); (case k3 => walk_at "om_Fa"))
  | ((with_reducible refine' rd_gtup ?k1 ?k2 ?_); (case k1 => exact SqT.of (by assumption)); (case k2 => rfl))
  | ((with_reducible refine' rd_new ?k1 ?_); (case k1 => walk_at "zl_Fa"))
  | with_reducible refine rd_ref1 ?_
  | with_reducible refine rd_nF rfl ?_ | with_reducible refine rd_dT rfl ?_ | with_reducible refine rd_cT rfl ?_ | with_reducible refine rd_cF rfl ?_
  | ((with_reducible refine' rd_dT ?k1 ?_); (case k1 => omega)) | ((with_reducible refine' rd_dF ?k1 ?_); (case k1 => omega)) | ((with_reducible refine' rd_nT ?k1 ?_); (case k1 => omega)) | ((with_reducible refine' rd_nF ?k1 ?_); (case k1 => omega)))
local macro_rules | `(tactic| walk_at "rdS_Fa") => `(tactic| repeat ((fail_if_success with_reducible show tIfS _ _ _ _ _ _); walk_at "rd1_Fa"))
section
variable {P : Program} {w : World} {K : PySem.W.Frag} {mg : Str → Option Value} {base : Heap} {CText CPart CCounter CDecoder CTextError CInvalidStep CTooLong CInvalidPlace CInvalidNumber CNotationError CInvalidCount CDecodeError : Addr}
theorem okM_Text_init (T : Txt K mg CText CPart CCounter CDecoder CTextError CInvalidStep CTooLong CInvalidPlace CInvalidNumber CNotationError CInvalidCount CDecodeError) : KOk P w K mg base (L2.CX P w) 4 CText (fun vs H Q E => spStar 1 (sp_Text_init K CText CPart) vs H Q E ∨ spStar 1 (sp_Text_initR K CInvalidStep CTooLong CText) vs H Q E) := (ok_Text_init T).or (okR_Text_init T) (by decide) (by decide)
end
section
variable {P : Program} {w : World} {K : PySem.W.Frag} {mg : Str → Option Value} {base : Heap} {CText CPart CCounter CDecoder CTextError CInvalidStep CTooLong CInvalidPlace CInvalidNumber CNotationError CInvalidCount CDecodeError : Addr}
theorem ok_format_text (T : Txt K mg CText CPart CCounter CDecoder CTextError CInvalidStep CTooLong CInvalidPlace CInvalidNumber CNotationError CInvalidCount CDecodeError) : GOk P w K mg base CX0 3 "format_text" (sp_format_text K CText CPart) := by
  refine T.d_format_text.ok sc_format_text (fun vs H Q E h => ?len) (fun f cdv A outer s H vs Q E hr h => ?_)
  case len => obtain ⟨a, ss, rfl, _⟩ := h; rfl
  · obtain ⟨a, ss, rfl, TT, k⟩ := h
    refine ⟨_, (pss_one (ps_ret (pe_joinK (K := K) rfl pe_str (pe_lc (own := [("step", 2)]) rfl sc_format_text.nd (pi_tupK (K := K) rfl (pe_p (pv 0) T.cText (ok_Text_steps (K := K) T) (hr.mono (by decide)) pass0)) (blkOk_by (own := [("step", 2)]) (N := N_format_text) (sc := (defScope s_format_text)) (by first | decide +kernel | rfl)) (fun _ _ _ _ _ => (pg_name (i := 2) sc_format_text.nd rfl (Or.inl rfl))) (fun _ _ _ _ _ => pts_nil) (fun _ _ _ _ _ => (pe_joinK (K := K) rfl pe_str (pe_lc (own := [("part", 1)]) rfl sc_format_text.nd (pi_tupK (K := K) rfl (pv 2)) (blkOk_by (own := [("part", 1)]) (N := N_format_text) (sc := _) (by first | decide +kernel | rfl)) (fun _ _ _ _ _ => (pg_name (i := 1) sc_format_text.nd rfl (Or.inl rfl))) (fun _ _ _ _ _ => pts_nil) (fun _ _ _ _ _ => (pe_callTy cStrA rfl T.n_str (by decide +kernel) (pa_cons (pv 1) pa_nil)))))))))), ?_⟩
    refine rd_startE (show start N_format_text [.ref a] = [some (.ref a), none, none] from rfl) ?_
    walk_at "rd_Fa"
    intro p ⟨ms, hm, hst⟩
    have few := TT.few
    have ok := TT.ok
    refine ⟨p, rfl, ⟨_, hm⟩, fun D hD => lc_fun (plain_tup hm) hD (by have := hst.1; rw [sizeLine_eq]; omega) (fun _ => rfl) (fun i => .str (mkS (rowL (wrdL (ss[i]?.getD (.wr "")))))) (fun i Ha Qa hi Sa q => ?_) fun Hd Sd ed => ?_⟩
    · walk_at "rd_Fa"
      obtain ⟨v, hv, a, rfl, hq⟩ := hst.2 i (ss[i]'(hst.1 ▸ hi)) (List.getElem?_eq_getElem _)
      rw [hv]
      rw [List.getElem?_eq_getElem (hst.1 ▸ hi)] at q
      have oks2 := ok_at ok (List.getElem?_eq_getElem (hst.1 ▸ hi))
      have oks := oks2.1
      have hsz : sz (ss.take i) ≤ 1000000000000000000 := by omega
      simp only [Option.getD_some] at q ⊢
      generalize ss[i]'(hst.1 ▸ hi) = st at hq q oks
      have hz := sz_le ok
      refine ⟨a, rfl, ⟨_, Same.tup Sa hq⟩, fun D2 hD2 => lc_fun (plain_tup (Same.tup Sa hq)) hD2 (by have := stV_len4 st; rw [sizeLine_eq]; omega) (fun _ => rfl) (fun j => .str (mkS ((wrdL st)[j]?.getD []))) (fun j Hb Qb hj Sb q2 => ?_) fun He Se ee => ?_⟩
      · walk_at "rd_Fa"
        exact rd_strPart oks hsz hj (q2 _ (Same.refl _))
      · walk_at "rd_Fa"
        rw [txV_words] at ee
        refine rd_joinT ee ?_ ?_
        · have h1 : (Str.ofString " ").length = 1 := by decide +kernel
          have h2 := wrd_sum oks hsz
          have h3 : (wrdL st).length ≤ 4 := by rw [← stV_wrd]; exact stV_len4 st
          rw [h1]; omega
        · rw [sp_tl]
          exact q _ Se
    · walk_at "rd_Fa"
      rw [txV_rows hst.1] at ed
      refine rd_joinT ed ?_ ?_
      · have h1 : (Str.ofString "\n").length = 1 := by decide +kernel
        have h2 := fmt_sum ok
        rw [h1, List.length_map]; omega
      · rw [nl_tl, fmt_eq]
        exact k _ Sd
end
section
variable {P : Program} {w : World} {K : PySem.W.Frag} {mg : Str → Option Value} {base : Heap} {CText CPart CCounter CDecoder CTextError CInvalidStep CTooLong CInvalidPlace CInvalidNumber CNotationError CInvalidCount CDecodeError : Addr}
theorem ok_is_number (T : Txt K mg CText CPart CCounter CDecoder CTextError CInvalidStep CTooLong CInvalidPlace CInvalidNumber CNotationError CInvalidCount CDecodeError) : GOk P w K mg base CX0 1 "is_number" (sp_is_number ) := by
  refine T.d_is_number.ok sc_is_number (fun vs H Q E h => ?len) (fun f cdv A outer s H vs Q E hr h => ?_)
  case len => obtain ⟨a, rfl, _⟩ := h; rfl
  · obtain ⟨x, rfl, hx, k⟩ := h
    obtain ⟨t_DIGITS, h_DIGITS⟩ := T.k_DIGITS; obtain ⟨t_MAX_DIGITS, h_MAX_DIGITS⟩ := T.k_MAX_DIGITS; refine ⟨_, (pss_cons (ps_if (PW.pt (pw_or (pt_not (pt_chain op_le op_le pe_int (pe_callB (lenK (K := K) rfl) rfl T.n_len (by decide +kernel) (pa_cons (pv 0) pa_nil)) (pe_glob (v := .int 18) rfl h_MAX_DIGITS ⟨_, rfl⟩))) (pw_or1 (pt_not (pt_val (pe_callB (allK (K := K) rfl rfl) rfl T.n_all (by decide +kernel) (pa_cons (pe_lc (own := [("digit", 1)]) rfl sc_is_number.nd (pi_str (pv 0)) (blkOk_by (own := [("digit", 1)]) (N := N_is_number) (sc := (defScope s_is_number)) (by first | decide +kernel | rfl)) (fun _ _ _ _ _ => (pg_name (i := 1) sc_is_number.nd rfl (Or.inl rfl))) (fun _ _ _ _ _ => pts_nil) (fun _ _ _ _ _ => (pe_cmpR (oInSign) (pv 1) (pe_glob (v := .str "0123456789") rfl h_DIGITS ⟨_, rfl⟩) rfl))) pa_nil))))))) (pss_one (ps_ret pe_bl))
    pss_nil)
    (pss_one (ps_ret (pe_or (pe_cmpR (eqK (K := K) rfl hr.units) (pv 0) pe_str (nomark _)) (pe_one (pe_cmpR (neK (K := K) rfl hr.units) (pe_ix (ixK (K := K) rfl) (pv 0) pe_int (fun _ _ => rfl)) pe_str (nomark _))))))), ?_⟩
    refine rd_startE (show start N_is_number [.str (mkS x)] = [some (.str (mkS x)), none] from rfl) ?_
    walk_at "rd_Fa"
    refine rd_ite (fun h1 => ?_) (fun h1 => ?_)
    · walk_at "rd_Fa"
      by_cases h2 : x.length ≤ 18
      · walk_at "rd_Fa"
        have ps := plain_str (x := mkS x) (H1 := H)
        rw [tl_mkS] at ps
        refine ⟨mkS x, rfl, fun D hD => lc_fun (f := fun i => .bl (decide (x[i]?.getD 0 ∈ (Str.ofString "0123456789").cps.toList))) ps hD (by rw [sizeLine_eq]; omega) (fun _ => rfl) (fun i Ha Qa hi Sa q => ?_) fun Hd Sd ed => ?_⟩
        · walk_at "rd_Fa"
          exact q _ (Same.refl _)
        · walk_at "rd_Fa"
          have eb : ((List.range x.length).map fun i => V.bl (decide (x[i]?.getD 0 ∈ (Str.ofString "0123456789").cps.toList))) = ((List.range x.length).map fun i => decide (x[i]?.getD 0 ∈ (Str.ofString "0123456789").cps.toList)).map V.bl := by rw [List.map_map]; rfl
          rw [eb] at ed
          refine rd_all (SqL.of ed) ?_
          rw [figs_all]
          walk_at "rd_Fa"
          by_cases h3 : ∀ c ∈ x, 48 ≤ c ∧ c ≤ 57
          · rw [decide_eq_true h3]
            walk_at "rd_Fa"
            have kk := k _ Sd
            rw [fig_yes (by omega) h2 h3, one48 (by omega)] at kk
            have e48 : Str.ofString "0" = mkS [48] := by decide +kernel
            rw [e48]
            refine rd_ite (fun h4 => ?_) (fun h4 => ?_)
            · rw [decide_eq_true h4] at kk
              exact kk
            · rw [decide_eq_false h4] at kk
              walk_at "rd_Fa"
              exact kk
          · rw [decide_eq_false h3]
            walk_at "rd_Fa"
            rw [fig_no h3] at k
            exact k _ Sd
      · walk_at "rd_Fa"
        rw [fig_len (by omega)] at k
        exact k _ (Same.refl _)
    · walk_at "rd_Fa"
      rw [fig_len (by omega)] at k
      exact k _ (Same.refl _)
end
section
variable {P : Program} {w : World} {K : PySem.W.Frag} {mg : Str → Option Value} {base : Heap} {CText CPart CCounter CDecoder CTextError CInvalidStep CTooLong CInvalidPlace CInvalidNumber CNotationError CInvalidCount CDecodeError : Addr}
theorem okR_step_of (T : Txt K mg CText CPart CCounter CDecoder CTextError CInvalidStep CTooLong CInvalidPlace CInvalidNumber CNotationError CInvalidCount CDecodeError) : GOk P w K mg base (L2.CX P w) 4 "step_of" (sp_step_ofR K CNotationError) := by
  refine T.d_step_of.okX sc_step_of (fun vs H Q E h => ?len) (fun f cdv A outer s H vs Q E hr h => ?_)
  case len => obtain ⟨i, ws, rfl, _⟩ := h; rfl
  · obtain ⟨i, ws, rfl, ok, hl, hn, hi, k, kE⟩ := h
    obtain ⟨t_PASTE, h_PASTE⟩ := T.k_PASTE; obtain ⟨t_PASTE_WORDS, h_PASTE_WORDS⟩ := T.k_PASTE_WORDS; obtain ⟨t_WRITE, h_WRITE⟩ := T.k_WRITE; refine ⟨_, (pss_cons (ps_set (i := 2) sc_step_of.nd rfl (Or.inl rfl) (pe_bmK (K := K) rfl PySem.F.plainAttrs_str PySem.F.slot_str_split PySem.F.type_str_split mt_split (pv 1) (pa_cons pe_str pa_nil)))
    (pss_cons (ps_if (pt_cmpR (notInK (K := K) rfl) (pe_ix (ixK (K := K) rfl) (pv 2) pe_int (fun _ _ => rfl)) (pe_tup (pa_cons (pe_glob (v := .str "write") rfl h_WRITE ⟨_, rfl⟩) (pa_cons (pe_glob (v := .str "paste") rfl h_PASTE ⟨_, rfl⟩) pa_nil))) rfl) (pss_one (ps_rzI T.x_NotationError (ok_NotationError_init (K := K) T) (hr.mono (by decide)) (takes_of rfl rfl rfl rfl) (pa_cons (pv 0) (pa_cons pe_int pa_nil))))
    pss_nil)
    (pss_cons (ps_set (i := 3) sc_step_of.nd rfl (Or.inl rfl) (pe_ifExp (pt_cmpR (eqK (K := K) rfl hr.units) (pe_ix (ixK (K := K) rfl) (pv 2) pe_int (fun _ _ => rfl)) (pe_glob (v := .str "write") rfl h_WRITE ⟨_, rfl⟩) (nomark _)) pe_int (pe_glob (v := .int 4) rfl h_PASTE_WORDS ⟨_, rfl⟩)))
    (pss_cons (ps_for (passes_of rfl) rfl (pi_range2 rfl T.n_range (pa_cons pe_int (pa_cons (pv 3) pa_nil))) (pg_name (i := 4) sc_step_of.nd rfl (Or.inl rfl)) (pss_one (ps_if (PW.pt (pw_or (pt_cmpR (eqK (K := K) rfl hr.units) (pv 4) (pe_callB (lenK (K := K) rfl) rfl T.n_len (by decide +kernel) (pa_cons (pv 2) pa_nil)) (nomark _)) (pw_or1 (pt_not (pt_ifE (pt_cmpR (eqK (K := K) rfl hr.units) (pe_ix (ixK (K := K) rfl) (pv 2) pe_int (fun _ _ => rfl)) (pe_glob (v := .str "write") rfl h_WRITE ⟨_, rfl⟩) (nomark _)) (pt_val (pe_g (ok_is_word (K := K) T) (hr.mono (by decide)) pass0 (pa_cons (pe_ix (ixK (K := K) rfl) (pv 2) (pv 4) (fun _ _ => rfl)) pa_nil))) (pt_val (pe_g (ok_is_number (K := K) T) (hr.mono (by decide)) pass0 (pa_cons (pe_ix (ixK (K := K) rfl) (pv 2) (pv 4) (fun _ _ => rfl)) pa_nil)))))))) (pss_one (ps_rzI T.x_NotationError (ok_NotationError_init (K := K) T) (hr.mono (by decide)) (takes_of rfl rfl rfl rfl) (pa_cons (pv 0) (pa_cons (pv 4) pa_nil))))
    pss_nil)))
    (pss_cons (ps_if (pt_cmpR op_gt (pe_callB (lenK (K := K) rfl) rfl T.n_len (by decide +kernel) (pa_cons (pv 2) pa_nil)) (pv 3) (nomark _)) (pss_one (ps_rzI T.x_NotationError (ok_NotationError_init (K := K) T) (hr.mono (by decide)) (takes_of rfl rfl rfl rfl) (pa_cons (pv 0) (pa_cons (pv 3) pa_nil))))
    pss_nil)
    (pss_cons (ps_if (pt_cmpR (eqK (K := K) rfl hr.units) (pe_ix (ixK (K := K) rfl) (pv 2) pe_int (fun _ _ => rfl)) (pe_glob (v := .str "write") rfl h_WRITE ⟨_, rfl⟩) (nomark _)) (pss_one (ps_ret (pe_tup (pa_cons (pe_glob (v := .str "write") rfl h_WRITE ⟨_, rfl⟩) (pa_cons (pe_ix (ixK (K := K) rfl) (pv 2) pe_int (fun _ _ => rfl)) pa_nil)))))
    pss_nil)
    (pss_one (ps_ret (pe_tup (pa_cons (pe_glob (v := .str "paste") rfl h_PASTE ⟨_, rfl⟩) (pa_cons (pe_callTy cIntT rfl T.n_int (by decide +kernel) (pa_cons (pe_ix (ixK (K := K) rfl) (pv 2) pe_int (fun _ _ => rfl)) pa_nil)) (pa_cons (pe_callTy cIntT rfl T.n_int (by decide +kernel) (pa_cons (pe_ix (ixK (K := K) rfl) (pv 2) pe_int (fun _ _ => rfl)) pa_nil)) (pa_cons (pe_callTy cIntT rfl T.n_int (by decide +kernel) (pa_cons (pe_ix (ixK (K := K) rfl) (pv 2) pe_int (fun _ _ => rfl)) pa_nil)) pa_nil))))))))))))), ?_⟩
    refine rd_startE (show start N_step_of [.int (i : Nat), .str (mkS (rowL ws))] = [some (.int (i : Nat)), some (.str (mkS (rowL ws))), none, none, none] from rfl) ?_
    have hwl : ∀ w ∈ ws, w.length ≤ 100000 := fun w hw => Nat.le_trans (joinL_mem hw) hl
    walk_at "rd_Fa"
    refine rd_tyS ?_
    walk_at "rd_Fa"
    refine rd_split sp_tl (by decide +kernel) ok.1 (fun w hw => (ok.2 w hw).1) (by show (rowL ws).length ≤ _; omega) fun l H1 S1 n1 e1 => ?_
    walk_at "rd_Fa"
    obtain ⟨w0, hw0⟩ : ∃ w0, ws[0]? = some w0 := by
      match ws, ok.1 with
      | w0 :: r, _ => exact ⟨w0, rfl⟩
    refine rd_ixW (j := 0) e1 hw0 ?_
    walk_at "rd_Fa"
    intro p2 H2 S2 e2 n2
    refine rd_notInWP e2 ?_
    have e1 := S2 _ _ e1
    have S1 := S1.trans S2
    clear e2 n2 S2 n1
    by_cases hw : w0 = wWr ∨ w0 = wPa
    · rw [decide_eq_true hw]
      walk_at "rd_Fa"
      refine rd_ixW (j := 0) e1 hw0 ?_
      walk_at "rd_Fa"
      rw [mk_wr, mkS_eq]
      have eW : isW ws = decide (w0 = wWr) := by unfold isW; rw [hw0]; simp
      have nW : ¬ (ws[0]? ≠ some wWr ∧ ws[0]? ≠ some wPa) := by rw [hw0]; simp; intro h; exact hw.resolve_left h
      refine rd_cntK (b := decide (w0 = wWr)) ?_
      walk_at "rd_Fa"
      rw [← eW]
      have hc4 : cntK (isW ws) = 2 ∨ cntK (isW ws) = 4 := by cases isW ws <;> simp [cntK]
      have hwn : 1 ≤ ws.length := (List.getElem?_eq_some_iff.mp hw0).1
      refine ⟨1, _, rfl, ⟨by decide, by decide, by omega, by omega⟩, for_range (lo := 1) (fun j σ H' => ∃ v4, σ = [some (.int (i : Nat)), some (.str (mkS (rowL ws))), some (.ref l), some (.int (cntK (isW ws) : Nat)), v4] ∧ Same H H' ∧ H' l = some (.lst (txV ws)) ∧ 1 + j ≤ ws.length ∧ wrT (isW ws) ws 1 (cntK (isW ws) - 1) = wrT (isW ws) ws (1 + j) (cntK (isW ws) - 1 - j)) ⟨_, rfl, S1, e1, by omega, rfl⟩ ?_ ?_⟩
      · clear S1 e1
        rintro j σ H' hj ⟨v4, rfl, S, e, hjl, hwr⟩
        have hj' : j < cntK (isW ws) - 1 := by omega
        rw [wrT_step hj'] at hwr
        rw [show (1 : Int) + (j : Nat) = ((1 + j : Nat) : Int) by omega]
        walk_at "rd_Fa"
        refine rd_lenL e ?_
        rw [txV_len]
        walk_at "rd_Fa"
        have bad : ∀ {Hc : Hp}, Same H Hc → badAt (isW ws) ws (1 + j) = true → rMkO CNotationError (sp_xi2 CNotationError (Str.ofString "row") (Str.ofString "word")) E [.int (i : Nat), .int ((1 + j : Nat) : Int)] Hc := fun Sc hb => by
          rw [if_pos hb] at hwr
          exact rd_mk2 (by omega) (by omega) fun d hd => kE _ (wrong_at nW hwr) d _ (Same.new Sc hd) upd_same
        by_cases hpl : 1 + j = ws.length
        · rw [decide_eq_true (by omega : ((1 + j : Nat) : Int) = ws.length)]
          walk_at "rd_Fa"
          refine rd_rzI ?_
          walk_at "rd_Fa"
          exact bad S (bad_none hpl)
        · rw [decide_eq_false (by omega : ¬ ((1 + j : Nat) : Int) = ws.length)]
          obtain ⟨wj, hwj⟩ : ∃ wj, ws[1 + j]? = some wj := ⟨_, List.getElem?_eq_getElem (by omega)⟩
          have hbs := bad_some (b := isW ws) hwj
          walk_at "rd_Fa"
          refine rd_ifT ?_
          walk_at "rd_Fa"
          refine rd_ixW (j := 0) e hw0 ?_
          walk_at "rd_Fa"
          rw [mkS_eq, ← eW]
          cases hiw : isW ws with
          | true =>
            rw [hiw] at hbs
            walk_at "rd_Fa"
            refine rd_ixW e hwj ?_
            walk_at "rd_Fa"
            refine rd_isWord (hwl _ (List.mem_of_getElem? hwj)) fun H3 S3 => ?_
            walk_at "rd_Fa"
            cases hwd : wdB wj with
            | true =>
              walk_at "rd_Fa"
              rw [if_neg (by rw [hiw, hbs, hwd]; simp), hiw] at hwr
              exact ⟨_, rfl, S.trans S3, S3 _ _ e, by omega, hwr⟩
            | false =>
              walk_at "rd_Fa"
              refine rd_rzI ?_
              walk_at "rd_Fa"
              exact bad (S.trans S3) (by rw [hiw, hbs, hwd]; rfl)
          | false =>
            rw [hiw] at hbs
            walk_at "rd_Fa"
            refine rd_ixW e hwj ?_
            walk_at "rd_Fa"
            refine rd_isNumber (hwl _ (List.mem_of_getElem? hwj)) fun H3 S3 => ?_
            walk_at "rd_Fa"
            cases hwd : figB wj with
            | true =>
              walk_at "rd_Fa"
              rw [if_neg (by rw [hiw, hbs, hwd]; simp), hiw] at hwr
              exact ⟨_, rfl, S.trans S3, S3 _ _ e, by omega, hwr⟩
            | false =>
              walk_at "rd_Fa"
              refine rd_rzI ?_
              walk_at "rd_Fa"
              exact bad (S.trans S3) (by rw [hiw, hbs, hwd]; rfl)
      · rintro σ H' ⟨v4, rfl, S, e, hjl, hwr⟩
        rw [show cntK (isW ws) - 1 - ((cntK (isW ws) : Nat) - 1 : Int).toNat = 0 by omega] at hwr
        have hend := wrong_end nW hwr
        walk_at "rd_Fa"
        refine rd_lenL e ?_
        rw [txV_len]
        walk_at "rd_Fa"
        by_cases hlt : cntK (isW ws) < ws.length
        · rw [if_pos hlt] at hend
          rw [decide_eq_true (by omega : ((cntK (isW ws) : Nat) : Int) < ws.length)]
          walk_at "rd_Fa"
          refine rd_rzI ?_
          walk_at "rd_Fa"
          exact rd_mk2 (by omega) (by omega) fun d hd => kE _ hend d _ (Same.new S hd) upd_same
        · rw [if_neg hlt] at hend
          rw [decide_eq_false (by omega : ¬ ((cntK (isW ws) : Nat) : Int) < ws.length)]
          walk_at "rd_Fa"
          refine rd_ixW (j := 0) e hw0 ?_
          walk_at "rd_Fa"
          rw [mkS_eq, ← eW]
          have kk := k hend
          rcases wrong_none hend with ⟨x, rfl, hx⟩ | ⟨x, y, z, rfl, hx, hy, hz⟩
          · rw [show isW [wWr, x] = true by simp [isW]]
            walk_at "rd_Fa"
            refine rd_ixW (j := 1) e rfl ?_
            walk_at "rd_Fa"
            intro p4 H4 S4 e4 _
            rw [stp_wr] at kk
            exact kk _ _ (S.trans S4) (StepAt.wrN (by rw [mk_wr]; exact e4))
          · rw [show isW [wPa, x, y, z] = false from decide_eq_false (by simp only [List.getElem?_cons_zero, Option.some.injEq]; exact fun q => wr_ne_pa q.symm)]
            walk_at "rd_Fa"
            refine rd_ixW (j := 1) e rfl ?_
            walk_at "rd_Fa"
            refine rd_intT hx ?_
            walk_at "rd_Fa"
            refine rd_ixW (j := 2) e rfl ?_
            walk_at "rd_Fa"
            refine rd_intT hy ?_
            walk_at "rd_Fa"
            refine rd_ixW (j := 3) e rfl ?_
            walk_at "rd_Fa"
            refine rd_intT hz ?_
            walk_at "rd_Fa"
            intro p4 H4 S4 e4 _
            rw [stp_pa] at kk
            exact kk _ _ (S.trans S4) (StepAt.paN e4)
    · rw [decide_eq_false hw]
      walk_at "rd_Fa"
      refine rd_rzI ?_
      walk_at "rd_Fa"
      refine rd_mk2 (i := i) (j := 0) (by omega) (by decide) fun d hd => ?_
      exact kE 0 (by unfold wrongR; rw [if_pos (by rw [hw0]; simp only [not_or] at hw; simpa using hw)]) d _ (Same.new S1 hd) upd_same
end
section
variable {P : Program} {w : World} {K : PySem.W.Frag} {mg : Str → Option Value} {base : Heap} {CText CPart CCounter CDecoder CTextError CInvalidStep CTooLong CInvalidPlace CInvalidNumber CNotationError CInvalidCount CDecodeError : Addr}
theorem okR_parse_text (T : Txt K mg CText CPart CCounter CDecoder CTextError CInvalidStep CTooLong CInvalidPlace CInvalidNumber CNotationError CInvalidCount CDecodeError) : GOk P w K mg base (L2.CX P w) 6 "parse_text" (sp_parse_textR K CNotationError CInvalidStep CTooLong CText CPart) := by
  refine T.d_parse_text.okX sc_parse_text (fun vs H Q E h => ?len) (fun f cdv A outer s H vs Q E hr h => ?_)
  case len => obtain ⟨L, rows, rfl, _⟩ := h; rfl
  · obtain ⟨L, rows, rfl, hL, hrw, hn, hok, k, kN, kB, kL⟩ := h
    refine ⟨_, (pss_cons (ps_set (i := 1) sc_parse_text.nd rfl (Or.inl rfl) (pe_ifExp (pt_cmpR (neK (K := K) rfl hr.units) (pv 0) pe_str (nomark _)) (pe_bmK (K := K) rfl PySem.F.plainAttrs_str PySem.F.slot_str_split PySem.F.type_str_split mt_split (pv 0) (pa_cons pe_str pa_nil)) (pe_lst pa_nil)))
    (pss_cons (ps_setLcR (i := 2) (own := [("row", 3), ("line", 4)]) (takes_of rfl rfl rfl rfl) rfl rfl rfl sc_parse_text.nd rfl rfl (sw_true rfl rfl rfl (by decide +kernel)) (pi_enumK (K := K) rfl rfl T.n_enumerate (pa_cons (pv 1) pa_nil)) (blkOk_by (own := [("row", 3), ("line", 4)]) (N := N_parse_text) (sc := (defScope s_parse_text)) (by first | decide +kernel | rfl)) (fun _ _ _ _ _ => ⟨(pg_tupK (K := K) (n := 2) rfl rfl (pgs_cons (pg_name (i := 3) sc_parse_text.nd rfl (Or.inl rfl)) (pgs_cons (pg_name (i := 4) sc_parse_text.nd rfl (Or.inl rfl)) pgs_nil))), pts_nil, (pe_g (okR_step_of (K := K) T) (hr.mono (by decide)) passB (pa_cons (pv 3) (pa_cons (pv 4) pa_nil)))⟩))
    (pss_one (ps_ret (pe_ks (pe_glob (v := .ref CText) rfl T.g_Text rfl) (okM_Text_init (K := K) T) (hr.mono (by decide)) (passX (takes_of rfl rfl rfl rfl)) (pv 2)))))), ?_⟩
    refine rd_startE (show start N_parse_text [.str (mkS L)] = [some (.str (mkS L)), none, none, none, none] from rfl) ?_
    refine rd_seq (rd_asgIf (fun v H' => ∃ l, v = .ref l ∧ Same H H' ∧ H' l = some (.lst (txV (rows.map rowL)))) (fun Q' q' => ?_) ?_)
    · rcases hrw with ⟨rfl, rfl⟩ | ⟨hL0, hr0, rfl⟩
      · walk_at "rd_Fa"
        intro l H1 S1 e1 n1
        exact q' _ _ ⟨l, rfl, S1, e1⟩
      · walk_at "rd_Fa"
        rw [show decide (mkS (rowsL rows) = Str.ofString "") = false from decide_eq_false fun z => hL0 (by have := congrArg tl z; rw [tl_mkS] at this; exact this)]
        walk_at "rd_Fa"
        refine rd_tyS ?_
        walk_at "rd_Fa"
        refine rd_split nl_tl (by decide +kernel) (fun z => hr0 (List.map_eq_nil_iff.mp z)) (okWs_rows fun r hr => (hok r hr).1) (by show (rowsL rows).length ≤ _; omega) fun l H1 S1 n1 e1 => ?_
        exact q' _ _ ⟨l, rfl, S1, e1⟩
    · rintro v H1 ⟨l, rfl, S1, e1⟩
      walk_at "rd_Fa"
      refine rd_iEnum ?_
      walk_at "rd_Fa"
      refine ⟨l, _, rfl, SqL.of e1, fun D hD => lc_pairR (fun i => .int (i : Nat)) (fun i => (txV (rows.map rowL))[i]?.getD .non) (pairy_enum (SqL.of e1)) hD (by rw [txV_len, List.length_map, sizeLine_eq]; omega) rfl (fun i hi => rfl) (fun v u => rfl) (fun i => ∀ r, rows[i]? = some r → wrongR r = none) (fun i v H' => ∀ r, rows[i]? = some r → StepAt K H' v (stpOf r)) (fun i v Ha Hb ll eD B z r hr => B.step (free1_lst eD) (z r hr)) (fun i Ha Qa hi Sa gd q => ?_) fun Hd ys Sd ed hyl gd an => ?_⟩
      · rw [txV_len, List.length_map] at hi
        have hr := List.getElem?_eq_getElem hi
        generalize rows[i] = r at hr
        obtain ⟨o1, o2, o3⟩ := hok r (List.mem_of_getElem? hr)
        rw [show (txV (rows.map rowL))[i]? = some (.str (mkS (rowL r))) from txV_at (by rw [List.getElem?_map, hr]; rfl)]
        walk_at "rd_Fa"
        refine ⟨i, r, rfl, o1, o2, o3, by omega, fun hw v Hb Sb st => q (fun r' hr' => by rw [hr] at hr'; cases hr'; exact hw) v Hb Sb (fun r' hr' => by rw [hr] at hr'; cases hr'; exact st), fun c hc d Hb Sb ed => ?_⟩
        have e := fwr_at 0 rows i (fun x hx => ?_) hr hc
        · rw [Nat.zero_add] at e
          exact kN i c e d Hb ((S1.trans Sa).trans Sb) ed
        · obtain ⟨c', hc'⟩ := List.getElem?_of_mem hx
          have hl : c' < i := by
            have := (List.getElem?_eq_some_iff.mp hc').1
            rw [List.length_take] at this; omega
          rw [List.getElem?_take, if_pos hl] at hc'
          exact gd c' hl x hc'
      · rw [txV_len, List.length_map] at hyl gd an
        have hno : fwr 0 rows = none := fwr_none 0 rows fun r hr => by
          obtain ⟨i, hi⟩ := List.getElem?_of_mem hr
          exact gd i (List.getElem?_eq_some_iff.mp hi).1 r hi
        have st : StepsAt K Hd ys (rows.map stpOf) := ⟨by rw [hyl, List.length_map], fun j s hs => by
          rw [List.getElem?_map] at hs
          cases hr : rows[j]? with
          | none => rw [hr] at hs; cases hs
          | some r =>
            rw [hr] at hs
            cases hs
            obtain ⟨v, hv, z⟩ := an j (List.getElem?_eq_some_iff.mp hr).1
            exact ⟨v, hv, z r hr⟩⟩
        have S : Same H Hd := S1.trans Sd
        have hw : ∀ r ∈ rows, wrongR r = none := fun r hr => by
          obtain ⟨i, hi⟩ := List.getElem?_of_mem hr
          exact gd i (List.getElem?_eq_some_iff.mp hi).1 r hi
        walk_at "rd_Fa"
        refine rd_mkS (.inr (SqL.of ed)) ?_
        by_cases hc : chkT 0 0 (rows.map stpOf) = .ok
        · obtain ⟨ok, few⟩ := chk_text hc
          refine rMk_l (rd_mkText st ok few fun x H2 t hx S2 T2 et => ?_)
          walk_at "rd_Fa"
          exact k hno hc x H2 (S.trans S2) (same_back S hx) ⟨t, T2, et⟩
        · exact rMk_r (rd_mkTextR (rej_chk st (stp_small hw) hc (fun i hi d H' S' ed' => kB hno i hi d H' (S.trans S') ed') fun hl' H' S' => kL hno hl' H' (S.trans S')) (by rw [hyl, sizeLine_eq]; omega))
end
section
variable {P : Program} {w : World} {K : PySem.W.Frag} {mg : Str → Option Value} {base : Heap} {CText CPart CCounter CDecoder CTextError CInvalidStep CTooLong CInvalidPlace CInvalidNumber CNotationError CInvalidCount CDecodeError : Addr}
theorem ok_parse_text (T : Txt K mg CText CPart CCounter CDecoder CTextError CInvalidStep CTooLong CInvalidPlace CInvalidNumber CNotationError CInvalidCount CDecodeError) : GOk P w K mg base CX0 6 "parse_text" (nox (sp_parse_textR K CNotationError CInvalidStep CTooLong CText CPart)) := (okR_parse_text T).down
end
section
variable {P : Program} {w : World} {K : PySem.W.Frag} {mg : Str → Option Value} {base : Heap} {CText CPart CCounter CDecoder CTextError CInvalidStep CTooLong CInvalidPlace CInvalidNumber CNotationError CInvalidCount CDecodeError : Addr}
theorem okR_pack_bytes (T : Txt K mg CText CPart CCounter CDecoder CTextError CInvalidStep CTooLong CInvalidPlace CInvalidNumber CNotationError CInvalidCount CDecodeError) : GOk P w K mg base (L2.CX P w) 4 "pack_bytes" (sp_pack_bytesR K CInvalidCount) := by
  refine T.d_pack_bytes.okX sc_pack_bytes (fun vs H Q E h => ?len) (fun f cdv A outer s H vs Q E hr h => ?_)
  case len => obtain ⟨v, rfl, _⟩ := h; rfl
  · obtain ⟨v, rfl, hv⟩ := h
    obtain ⟨t_BYTE, h_BYTE⟩ := T.k_BYTE; refine ⟨_, (pss_cons (ps_if (PW.pt (pw_or (pt_not (pt_val (pe_callB (isiK (K := K) rfl) rfl T.n_isinstance (by decide +kernel) (pa_cons (pv 0) (pa_cons (pe_bltn (v := .ty "list") rfl T.n_list (by decide +kernel) rfl) pa_nil))))) (pw_or1 (pt_not (pt_val (pe_callB (allK (K := K) rfl rfl) rfl T.n_all (by decide +kernel) (pa_cons (pe_lc (own := [("value", 1)]) rfl sc_pack_bytes.nd (pi_listK (K := K) rfl (pv 0)) (blkOk_by (own := [("value", 1)]) (N := N_pack_bytes) (sc := (defScope s_pack_bytes)) (by first | decide +kernel | rfl)) (fun _ _ _ _ _ => (pg_name (i := 1) sc_pack_bytes.nd rfl (Or.inl rfl))) (fun _ _ _ _ _ => pts_nil) (fun _ _ _ _ _ => (pe_g (ok_is_integer (K := K) T) (hr.mono (by decide)) pass0 (pa_cons (pv 1) (pa_cons pe_int (pa_cons (pe_op op_sub (pe_glob (v := .int 256) rfl h_BYTE ⟨_, rfl⟩) pe_int) pa_nil)))))) pa_nil))))))) (pss_one (ps_rz T.x_InvalidCount (takes_of rfl rfl rfl rfl)))
    pss_nil)
    (pss_one (ps_ret (pe_callTy (bytesK (K := K) rfl rfl) rfl T.n_bytes (by decide +kernel) (pa_cons (pv 0) pa_nil))))), ?_⟩
    refine rd_startE (show start N_pack_bytes [v] = [some (v), none] from rfl) ?_
    walk_at "rd_Fa"
    rcases hv with ⟨l, L, rfl, el, h8, k⟩ | ⟨hb, k⟩
    · refine rd_isi_lst_list (SqL.of el) ?_
      walk_at "rd_Fa"
      refine fun D hD => lc_fun (plain_nat el) hD (by rw [sizeLine_eq]; have := h8.1; omega) (fun _ => rfl) (fun i => .bl true) (fun i Ha Qa hi Sa q => ?_) fun Hd Sd ed => ?_
      · walk_at "rd_Fa"
        have hL := h8.2 _ (List.getElem_mem hi)
        refine ⟨_, _, _, rfl, trivial, ?_⟩
        rw [List.getElem?_eq_getElem hi, Option.getD_some, show isInt 0 (256 - 1) (V.int (L[i] : Nat)) = true from decide_eq_true (by omega)]
        exact q _ (Same.refl _)
      · walk_at "rd_Fa"
        rw [show (List.range L.length).map (fun i => V.bl true) = ((List.range L.length).map fun i => true).map V.bl by rw [List.map_map]; rfl] at ed
        refine rd_all (SqL.of ed) ?_
        rw [show ((List.range L.length).map fun i => true).all id = true by rw [List.all_map, List.all_eq_true]; intro x _; rfl]
        walk_at "rd_Fa"
        refine rd_bytesN (Sd _ _ el) h8.2 ?_
        exact k _ Sd
    · rcases hb with rfl | ⟨a, xs, rfl, ha⟩ | ⟨a, xs, rfl, ha, hl, hns, hbad⟩
      · walk_at "rd_Fa"
        refine rd_rz ?_
        exact k _ (Same.refl _)
      · refine rd_isi_tup_list ha ?_
        walk_at "rd_Fa"
        refine rd_rz ?_
        exact k _ (Same.refl _)
      · refine rd_isi_lst_list (SqL.of ha) ?_
        walk_at "rd_Fa"
        refine ⟨⟨_, SqL.of ha⟩, fun D hD => lc_fun (plain_list (SqL.of ha)) hD (by rw [sizeLine_eq]; omega) (fun _ => rfl) (fun i => .bl (isInt 0 255 (xs[i]?.getD .non))) (fun i Ha Qa hi Sa q => ?_) fun Hd Sd ed => ?_⟩
        · walk_at "rd_Fa"
          refine ⟨_, _, _, rfl, ?_, q _ (Same.refl _)⟩
          rw [List.getElem?_eq_getElem hi]
          exact hns _ (List.getElem_mem hi)
        · walk_at "rd_Fa"
          rw [show (List.range xs.length).map (fun i => V.bl (isInt 0 255 (xs[i]?.getD .non))) = ((List.range xs.length).map fun i => isInt 0 255 (xs[i]?.getD .non)).map V.bl by rw [List.map_map]; rfl] at ed
          refine rd_all (SqL.of ed) ?_
          rw [show ((List.range xs.length).map fun i => isInt 0 255 (xs[i]?.getD .non)).all id = false by
            obtain ⟨x, hx, hf⟩ := hbad
            obtain ⟨i, hi, rfl⟩ := List.getElem_of_mem hx
            rw [List.all_map, List.all_eq_false]
            exact ⟨i, List.mem_range.mpr hi, by simp [List.getElem?_eq_getElem hi, hf]⟩]
          walk_at "rd_Fa"
          refine rd_rz ?_
          exact k _ Sd
end
section
variable {P : Program} {w : World} {K : PySem.W.Frag} {mg : Str → Option Value} {base : Heap} {CText CPart CCounter CDecoder CTextError CInvalidStep CTooLong CInvalidPlace CInvalidNumber CNotationError CInvalidCount CDecodeError : Addr}
theorem ok_pack_bytes (T : Txt K mg CText CPart CCounter CDecoder CTextError CInvalidStep CTooLong CInvalidPlace CInvalidNumber CNotationError CInvalidCount CDecodeError) : GOk P w K mg base CX0 4 "pack_bytes" (nox (sp_pack_bytesR K CInvalidCount)) := (okR_pack_bytes T).down
end
section
variable {P : Program} {w : World} {K : PySem.W.Frag} {mg : Str → Option Value} {base : Heap} {CText CPart CCounter CDecoder CTextError CInvalidStep CTooLong CInvalidPlace CInvalidNumber CNotationError CInvalidCount CDecodeError : Addr}
theorem ok_unpack_bytes (T : Txt K mg CText CPart CCounter CDecoder CTextError CInvalidStep CTooLong CInvalidPlace CInvalidNumber CNotationError CInvalidCount CDecodeError) : GOk P w K mg base CX0 1 "unpack_bytes" (sp_unpack_bytes ) := by
  refine T.d_unpack_bytes.ok sc_unpack_bytes (fun vs H Q E h => ?len) (fun f cdv A outer s H vs Q E hr h => ?_)
  case len => obtain ⟨b, rfl, _⟩ := h; rfl
  · obtain ⟨b, rfl, h8, k⟩ := h
    refine ⟨_, (pss_one (ps_ret (pe_callTy (listB rfl) rfl T.n_list (by decide +kernel) (pa_cons (pv 0) pa_nil)))), ?_⟩
    refine rd_startE (show start N_unpack_bytes [byV b] = [some (byV b)] from rfl) ?_
    walk_at "rd_Fa"
    refine rd_listBy h8 fun p H1 S1 n1 e1 => ?_
    exact k _ _ S1 n1 e1
end
section
variable {P : Program} {w : World} {K : PySem.W.Frag} {mg : Str → Option Value} {base : Heap} {CText CPart CCounter CDecoder CTextError CInvalidStep CTooLong CInvalidPlace CInvalidNumber CNotationError CInvalidCount CDecodeError : Addr}
theorem ok_checksum_of (T : Txt K mg CText CPart CCounter CDecoder CTextError CInvalidStep CTooLong CInvalidPlace CInvalidNumber CNotationError CInvalidCount CDecodeError) : GOk P w K mg base CX0 1 "checksum_of" (sp_checksum_of ) := by
  refine T.d_checksum_of.ok sc_checksum_of (fun vs H Q E h => ?len) (fun f cdv A outer s H vs Q E hr h => ?_)
  case len => obtain ⟨l, L, rfl, _⟩ := h; rfl
  · obtain ⟨l, L, rfl, el, k⟩ := h
    obtain ⟨t_CHECKSUM_MODULUS, h_CHECKSUM_MODULUS⟩ := T.k_CHECKSUM_MODULUS; refine ⟨_, (pss_cons (ps_set (i := 1) sc_checksum_of.nd rfl (Or.inl rfl) pe_int)
    (pss_cons (ps_for PassesOwn.never rfl (pi_listK (K := K) rfl (pv 0)) (pg_name (i := 2) sc_checksum_of.nd rfl (Or.inl rfl)) (pss_one (ps_set (i := 1) sc_checksum_of.nd rfl (Or.inl rfl) (pe_op op_mod (pe_callTy cInt rfl T.n_int (by decide +kernel) (pa_cons (pe_op (addK (K := K) rfl) (pe_op oMul (pv 1) pe_int) (pv 2)) pa_nil)) (pe_glob (v := .int 227) rfl h_CHECKSUM_MODULUS ⟨_, rfl⟩)))))
    (pss_one (ps_ret (pv 1))))), ?_⟩
    refine rd_startE (show start N_checksum_of [.ref l] = [some (.ref l), none, none] from rfl) ?_
    walk_at "rd_Fa"
    refine for_list (xs := natV L) (fun i σ H' => ∃ v2, σ = [some (.ref l), some (.int (ckS (L.take i) : Nat)), v2] ∧ H' = H) ⟨_, rfl, rfl⟩ (fun i σ H' _ z => by obtain ⟨_, _, rfl⟩ := z; exact SqL.of el) ?_ ?_
    · rintro i v σ H' hv ⟨v2, rfl, rfl⟩
      unfold natV at hv
      rw [List.getElem?_map] at hv
      obtain ⟨c, hc, rfl⟩ := Option.map_eq_some_iff.mp hv
      walk_at "rd_Fa"
      refine rd_mul_int (.inr (by decide)) ?_
      walk_at "rd_Fa"
      refine rd_I (by decide) ?_
      walk_at "rd_Fa"
      have e : ckS (L.take (i + 1)) = (ckS (L.take i) * 7 + c) % 227 := by rw [take_snoc hc, ckS_snoc]
      refine ⟨some (.int (c : Nat)), ?_, rfl⟩
      rw [e, show ((((ckS (L.take i) * 7 + c) % 227 : Nat)) : Int) = ((ckS (L.take i) : Nat) * 7 + (c : Nat)) % 227 by omega]
      rfl
    · rintro σ H' ⟨v2, rfl, rfl⟩
      walk_at "rd_Fa"
      rw [natV_len, List.take_length]
      exact k _ (Same.refl _)
end
section
variable {P : Program} {w : World} {K : PySem.W.Frag} {mg : Str → Option Value} {base : Heap} {CText CPart CCounter CDecoder CTextError CInvalidStep CTooLong CInvalidPlace CInvalidNumber CNotationError CInvalidCount CDecodeError : Addr}
theorem ok_number_values (T : Txt K mg CText CPart CCounter CDecoder CTextError CInvalidStep CTooLong CInvalidPlace CInvalidNumber CNotationError CInvalidCount CDecodeError) : GOk P w K mg base CX0 1 "number_values" (sp_number_values ) := by
  refine T.d_number_values.ok sc_number_values (fun vs H Q E h => ?len) (fun f cdv A outer s H vs Q E hr h => ?_)
  case len => obtain ⟨n, rfl, _⟩ := h; rfl
  · obtain ⟨n, rfl, hn, k⟩ := h
    obtain ⟨t_GROUP, h_GROUP⟩ := T.k_GROUP; refine ⟨_, (pss_cons (ps_set (i := 1) sc_number_values.nd rfl (Or.inl rfl) (pe_lst pa_nil))
    (pss_cons (ps_while PassesOwn.never (pt_cmpR op_ge (pv 0) (pe_glob (v := .int 128) rfl h_GROUP ⟨_, rfl⟩) (nomark _)) (pss_cons (ps_expr (pe_bmK (K := K) rfl PySem.F.plainAttrs_list PySem.F.slot_list_append PySem.F.type_list_append mt_append (pv 1) (pa_cons (pe_op (addK (K := K) rfl) (pe_glob (v := .int 128) rfl h_GROUP ⟨_, rfl⟩) (pe_op op_mod (pe_callTy cInt rfl T.n_int (by decide +kernel) (pa_cons (pv 0) pa_nil)) (pe_glob (v := .int 128) rfl h_GROUP ⟨_, rfl⟩))) pa_nil)))
    (pss_one (ps_aug (i := 0) sc_number_values.nd rfl (Or.inl rfl) (pe_glob (v := .int 128) rfl h_GROUP ⟨_, rfl⟩) ip_fdiv))))
    (pss_one (ps_ret (pe_lst (pa_starK (K := K) rfl (pv 1) (pa_cons (pv 0) pa_nil))))))), ?_⟩
    refine rd_startE (show start N_number_values [.int (n : Nat)] = [some (.int (n : Nat)), none] from rfl) ?_
    walk_at "rd_Fa"
    intro l H1 S1 e1 n1
    walk_at "rd_Fa"
    have n9 : (grpN n).length ≤ 9 := grpN_len 9 n (by decide) (Nat.lt_of_le_of_lt hn (by decide))
    refine rd_while (fun m σ H' => ∃ (a : Nat) (L : List Nat), σ = [some (.int (a : Nat)), some (.ref l)] ∧ Same H H' ∧ H' l = some (.lst (natV L)) ∧ grpN n = L ++ grpN a ∧ m = a) ⟨n, n, [], rfl, S1, e1, rfl, rfl⟩ ?_
    rintro m σ H' ⟨a, L, rfl, S, e, hg, rfl⟩
    have hL : L.length ≤ 9 := by rw [hg, List.length_append] at n9; omega
    walk_at "rd_Fa"
    refine rd_ite (fun h3 => ⟨_, fun σ' H'' z => z, ?_⟩) (fun h3 => ?_)
    · walk_at "rd_Fa"
      refine rd_tyL (SqL.of e) _ ?_
      walk_at "rd_Fa"
      refine rd_I (by decide) ?_
      walk_at "rd_Fa"
      refine rd_append e (by rw [natV_len, sizeLine_eq]; omega) ?_
      walk_at "rd_Fa"
      refine rd_I ⟨by decide, by decide⟩ ?_
      refine ⟨m / 128, by omega, m / 128, L ++ [128 + m % 128], ?_, Same.mut S n1, ?_, ?_, rfl⟩
      · rw [show (((m / 128 : Nat)) : Int) = (m : Nat) / 128 by omega]; rfl
      · rw [upd_same, natV_snoc, show (((128 + m % 128 : Nat)) : Int) = 128 + (m : Nat) % 128 by omega]
      · rw [hg, grpN_ge (by omega)]; simp
    · walk_at "rd_Fa"
      refine ⟨l, _, rfl, .inr (SqL.of e), ?_⟩
      walk_at "rd_Fa"
      rw [show natV L ++ [V.int (m : Nat)] = natV (grpN n) by rw [hg, grpN_lt (by omega), natV_snoc]]
      refine rd_new (by rw [natV_len, sizeLine_eq]; omega) fun p H2 S2 e2 n2 => ?_
      exact k _ _ (S.trans S2) (same_back S n2) e2
end
section
variable {P : Program} {w : World} {K : PySem.W.Frag} {mg : Str → Option Value} {base : Heap} {CText CPart CCounter CDecoder CTextError CInvalidStep CTooLong CInvalidPlace CInvalidNumber CNotationError CInvalidCount CDecodeError : Addr}
theorem ok_encode_text (T : Txt K mg CText CPart CCounter CDecoder CTextError CInvalidStep CTooLong CInvalidPlace CInvalidNumber CNotationError CInvalidCount CDecodeError) : GOk P w K mg base CX0 3 "encode_text" (sp_encode_text K CText CPart) := by
  refine T.d_encode_text.ok sc_encode_text (fun vs H Q E h => ?len) (fun f cdv A outer s H vs Q E hr h => ?_)
  case len => obtain ⟨a, ss, rfl, _⟩ := h; rfl
  · obtain ⟨a, ss, rfl, TT, k⟩ := h
    obtain ⟨t_FIRST_BYTE, h_FIRST_BYTE⟩ := T.k_FIRST_BYTE; obtain ⟨t_LETTERS, h_LETTERS⟩ := T.k_LETTERS; refine ⟨_, (pss_cons (ps_set (i := 1) sc_encode_text.nd rfl (Or.inl rfl) (pe_lst (pa_cons (pe_glob (v := .int 80) rfl h_FIRST_BYTE ⟨_, rfl⟩) (pa_cons (pe_callB (lenK (K := K) rfl) rfl T.n_len (by decide +kernel) (pa_cons (pe_p (pv 0) T.cText (ok_Text_steps (K := K) T) (hr.mono (by decide)) pass0) pa_nil)) pa_nil))))
    (pss_cons (ps_for PassesOwn.never rfl (pi_tupK (K := K) rfl (pe_p (pv 0) T.cText (ok_Text_steps (K := K) T) (hr.mono (by decide)) pass0)) (pg_name (i := 2) sc_encode_text.nd rfl (Or.inl rfl)) (pss_one (ps_if (pt_cmpR (eqK (K := K) rfl hr.units) (pe_ix (ixK (K := K) rfl) (pv 2) pe_int (fun _ _ => rfl)) pe_str (nomark _)) (pss_one (ps_expr (pe_bmK (K := K) rfl PySem.F.plainAttrs_list PySem.F.slot_list_extend PySem.F.type_list_extend mt_extend (pv 1) (pa_cons (pe_lst (pa_cons pe_int (pa_cons (pe_callB (lenK (K := K) rfl) rfl T.n_len (by decide +kernel) (pa_cons (pe_ix (ixK (K := K) rfl) (pv 2) pe_int (fun _ _ => rfl)) pa_nil)) (pa_starK (K := K) rfl (pe_lc (own := [("letter", 3)]) rfl sc_encode_text.nd (pi_str (pe_ix (ixK (K := K) rfl) (pv 2) pe_int (fun _ _ => rfl))) (blkOk_by (own := [("letter", 3)]) (N := N_encode_text) (sc := (defScope s_encode_text)) (by first | decide +kernel | rfl)) (fun _ _ _ _ _ => (pg_name (i := 3) sc_encode_text.nd rfl (Or.inl rfl))) (fun _ _ _ _ _ => pts_nil) (fun _ _ _ _ _ => (pe_bmK (K := K) rfl PySem.F.plainAttrs_str PySem.F.slot_str_index PySem.F.type_str_index mt_sindexA (pe_glob (v := .str "abcdefghijklmnopqrstuvwxyz") rfl h_LETTERS ⟨_, rfl⟩) (pa_cons (pv 3) pa_nil)))) pa_nil)))) pa_nil))))
    (pss_cons (ps_expr (pe_bmK (K := K) rfl PySem.F.plainAttrs_list PySem.F.slot_list_append PySem.F.type_list_append mt_append (pv 1) (pa_cons pe_int pa_nil)))
    (pss_one (ps_for PassesOwn.never rfl (pi_tupK (K := K) rfl (pe_slice (slTA (K := K) rfl) (pv 2) (po_some pe_int) po_none)) (pg_name (i := 4) sc_encode_text.nd rfl (Or.inl rfl)) (pss_one (ps_expr (pe_bmK (K := K) rfl PySem.F.plainAttrs_list PySem.F.slot_list_extend PySem.F.type_list_extend mt_extend (pv 1) (pa_cons (pe_g (ok_number_values (K := K) T) (hr.mono (by decide)) pass0 (pa_cons (pv 4) pa_nil)) pa_nil))))))))))
    (pss_one (ps_ret (pe_callTy (bytesK (K := K) rfl rfl) rfl T.n_bytes (by decide +kernel) (pa_cons (pe_lst (pa_starK (K := K) rfl (pv 1) (pa_cons (pe_g (ok_checksum_of (K := K) T) (hr.mono (by decide)) pass0 (pa_cons (pv 1) pa_nil)) pa_nil))) pa_nil)))))), ?_⟩
    refine rd_startE (show start N_encode_text [.ref a] = [some (.ref a), none, none, none, none] from rfl) ?_
    have few := TT.few
    have ok := TT.ok
    walk_at "rd_Fa"
    intro p ⟨ms, hm, hst⟩
    walk_at "rd_Fa"
    refine rd_len_tup hm ?_
    rw [hst.1]
    walk_at "rd_Fa"
    intro l H1 S1 e1 n1
    walk_at "rd_Fa"
    intro p2 ⟨ms2, hm2, hst2⟩
    have fl : ∀ i, (((ss.take i).map encS).flatten).length ≤ 1200 := fun i => by
      have o := ok_take ok i
      have := encF_len o (by decide)
      rw [List.length_take] at this
      omega
    refine ⟨p2, rfl, ⟨_, hm2⟩, for_tup (xs := ms2) (fun i σ H' => ∃ v2 v3 v4, σ = [some (.ref a), some (.ref l), v2, v3, v4] ∧ But l H1 H' ∧ Same H H' ∧ H' l = some (.lst (natV (80 :: ss.length :: ((ss.take i).map encS).flatten)))) ⟨_, _, _, rfl, But.refl, S1, e1⟩ (fun i σ H' _ z => ?_) ?_ ?_⟩
    · obtain ⟨_, _, _, _, B, _, _⟩ := z
      exact sqT_butL hm2 e1 B
    · rintro i v σ H' hv ⟨v2, v3, v4, rfl, B, S, e⟩
      have hi : i < ss.length := by rw [← hst2.1]; exact (List.getElem?_eq_some_iff.mp hv).1
      have hs := List.getElem?_eq_getElem hi
      have oks := ok_at ok hs
      generalize ss[i] = s at hs oks
      obtain ⟨v', hv', b, rfl, hq⟩ := hst2.2 i s hs
      rw [hv] at hv'
      cases hv'
      have hq := sqT_butL hq e1 B
      have fi := fl i
      have ftk : ((ss.take (i + 1)).map encS).flatten = ((ss.take i).map encS).flatten ++ encS s := by rw [take_snoc hs]; simp
      cases s with
      | wr w =>
        have hw : ∀ c ∈ tl w, 97 ≤ c ∧ c ≤ 122 := oks.1.2.2
        have hl : (tl w).length ≤ 20 := by rw [← len_tl]; exact oks.1.2.1
        walk_at "rd_Fa"
        refine rd_ixT (v := .str "write") ?_ hq rfl
        walk_at "rd_Fa"
        refine rd_tyL (SqL.of e) _ ?_
        walk_at "rd_Fa"
        refine rd_ixT (v := .str w) ?_ hq rfl
        walk_at "rd_Fa"
        refine rd_len_str (str_small (by rw [len_tl]; exact hl)) ?_
        walk_at "rd_Fa"
        refine rd_ixT (v := .str w) ?_ hq rfl
        walk_at "rd_Fa"
        refine ⟨w, rfl, fun D hD => lc_fun plain_str hD (by rw [sizeLine_eq]; omega) (fun _ => rfl) (fun i => .int (((tl w)[i]?.getD 0 - 97 : Nat) : Nat)) (fun i Ha Qa hi Sa q => ?_) fun Hd Sd ed => ?_⟩
        · walk_at "rd_Fa"
          have hc := hw _ (List.getElem_mem hi)
          rw [List.getElem?_eq_getElem hi] at q ⊢
          refine ⟨rfl, ?_⟩
          walk_at "rd_Fa"
          refine rd_sindexLow hc.1 hc.2 ?_
          exact q _ (Same.refl _)
        · walk_at "rd_Fa"
          refine ⟨D, _, rfl, .inr (SqL.of ed), ?_⟩
          walk_at "rd_Fa"
          rw [List.append_nil, encW_natV]
          have e5 := encS_len oks.1 (by omega)
          refine rd_new (by rw [natV_len, sizeLine_eq]; omega) fun p3 H3 S3 e3 n3 => ?_
          walk_at "rd_Fa"
          refine rd_extend (S3 _ _ (Sd _ _ e)) e3 (by rw [natV_len, natV_len, sizeLine_eq]; show _ + 1 + 1 + _ ≤ _; omega) ?_
          refine ⟨_, _, _, rfl, (B.trans (But.same (Sd.trans S3))).trans (But.at But.refl), Same.mut ((S.trans Sd).trans S3) n1, ?_⟩
          rw [upd_same, natV_app8, ftk]
          rfl
      | pa f l' t =>
        walk_at "rd_Fa"
        refine rd_ixT (v := .str "paste") ?_ hq rfl
        walk_at "rd_Fa"
        refine rd_tyL (SqL.of e) _ ?_
        walk_at "rd_Fa"
        refine rd_append e (by rw [natV_len, sizeLine_eq]; show _ + 1 + 1 < _; omega) ?_
        walk_at "rd_Fa"
        have B2 : But l H1 (upd H' l (.lst (natV (80 :: ss.length :: ((ss.take i).map encS).flatten) ++ [V.int 1]))) := B.trans (But.at But.refl)
        have S2 := Same.mut (o := .lst (natV (80 :: ss.length :: ((ss.take i).map encS).flatten) ++ [V.int 1])) S n1
        have hq2 := sqT_butL hq e (But.at (o := .lst (natV (80 :: ss.length :: ((ss.take i).map encS).flatten) ++ [V.int 1])) But.refl)
        have e2 : upd H' l (.lst (natV (80 :: ss.length :: ((ss.take i).map encS).flatten) ++ [V.int 1])) l = some (.lst (natV (80 :: ss.length :: (((ss.take i).map encS).flatten ++ [1])))) := by
          rw [upd_same, show [V.int 1] = natV [1] from rfl, natV_app8]; rfl
        revert B2 S2 hq2 e2
        generalize upd H' l _ = H2
        intro B2 S2 hq2 e2
        refine rd_slA1b hq2 (by show 3 ≤ 1000; decide) fun p3 H3 S3 hq3 => ?_
        walk_at "rd_Fa"
        have nb : ∀ n ∈ [f, l', t], n ≤ 1000000000000000000 := fun n hn => by
          obtain ⟨h1, h2, h3, h4⟩ := oks.1
          simp only [List.mem_cons, List.not_mem_nil, or_false] at hn
          rcases hn with rfl | rfl | rfl <;> omega
        have fb : ∀ j, ((([f, l', t].take j).map grpN).flatten).length ≤ 27 := fun j => by
          have g9 : ∀ n, n ≤ 1000000000000000000 → (grpN n).length ≤ 9 := fun n hn => grpN_len 9 n (by decide) (Nat.lt_of_le_of_lt hn (by decide))
          have g1 := g9 f (nb f (by simp))
          have g2 := g9 l' (nb l' (by simp))
          have g3 := g9 t (nb t (by simp))
          match j with
          | 0 => simp
          | 1 => simp; omega
          | 2 => simp; omega
          | j + 3 => simp; omega
        refine ⟨⟨_, hq3⟩, for_tup (xs := [.int (f : Nat), .int (l' : Nat), .int (t : Nat)]) (fun j σ H'' => ∃ v3 v4, σ = [some (.ref a), some (.ref l), some (.ref b), v3, v4] ∧ But l H3 H'' ∧ Same H H'' ∧ H'' l = some (.lst (natV (80 :: ss.length :: (((ss.take i).map encS).flatten ++ 1 :: (([f, l', t].take j).map grpN).flatten)))))
          ⟨_, _, rfl, But.refl, S2.trans S3, S3 _ _ e2⟩ (fun j σ H'' _ z => ?_) ?_ ?_⟩
        · obtain ⟨_, _, _, B4, _, _⟩ := z
          exact sqT_butL hq3 (S3 _ _ e2) B4
        · rintro j v σ H4 hv4 ⟨v3, v4, rfl, B4, S4, e4⟩
          have hv5 : ([f, l', t].map fun n : Nat => V.int (n : Nat))[j]? = some v := hv4
          rw [List.getElem?_map] at hv5
          obtain ⟨n, hn, rfl⟩ := Option.map_eq_some_iff.mp hv5
          have fj := fb j
          have g1 := grpN_len 9 n (by decide) (Nat.lt_of_le_of_lt (nb n (List.mem_of_getElem? hn)) (by decide))
          walk_at "rd_Fa"
          refine rd_tyL (SqL.of e4) _ ?_
          walk_at "rd_Fa"
          refine rd_numVals (nb n (List.mem_of_getElem? hn)) fun p5 H5 S5 n5 e5 => ?_
          walk_at "rd_Fa"
          refine rd_extend (S5 _ _ e4) e5 (by rw [natV_len, natV_len, sizeLine_eq]; simp only [List.length_cons, List.length_append]; omega) ?_
          refine ⟨_, _, rfl, (B4.trans (But.same S5)).trans (But.at But.refl), Same.mut (S4.trans S5) n1, ?_⟩
          rw [upd_same, natV_app8, take_sn hn]
          simp
        · rintro σ H4 ⟨v3, v4, rfl, B4, S4, e4⟩
          walk_at "rd_Fa"
          refine ⟨_, _, _, rfl, (B2.trans (But.same S3)).trans B4, S4, ?_⟩
          rw [e4, ftk]
          simp [encS]
    · rintro σ H' ⟨v2, v3, v4, rfl, B, S, e⟩
      rw [hst2.1, List.take_length] at e
      have e : H' l = some (.lst (natV (encV ss))) := e
      have hl := encV_len ok few
      walk_at "rd_Fa"
      refine ⟨l, _, rfl, .inr (SqL.of e), ?_⟩
      walk_at "rd_Fa"
      refine rd_checksum e fun H2 S2 => ?_
      walk_at "rd_Fa"
      rw [← natV_snoc]
      refine rd_new (by rw [natV_len, List.length_append, sizeLine_eq]; show _ + 1 ≤ _; omega) fun p3 H3 S3 e3 n3 => ?_
      walk_at "rd_Fa"
      refine rd_bytesN e3 (encT_255 ok few) ?_
      exact k _ ((S.trans S2).trans S3)
end
section
variable {P : Program} {w : World} {K : PySem.W.Frag} {mg : Str → Option Value} {base : Heap} {CText CPart CCounter CDecoder CTextError CInvalidStep CTooLong CInvalidPlace CInvalidNumber CNotationError CInvalidCount CDecodeError : Addr}
theorem ok_Decoder_init (T : Txt K mg CText CPart CCounter CDecoder CTextError CInvalidStep CTooLong CInvalidPlace CInvalidNumber CNotationError CInvalidCount CDecodeError) : KOk P w K mg base CX0 1 CDecoder (sp_Decoder_init CDecoder) := by
  refine T.d_Decoder_init.ok sc_Decoder_init (fun vs H Q E h => ?len) (fun f cdv A outer s H vs Q E hr h => ?_)
  case len => obtain ⟨x, dx, b, rfl, _⟩ := h; rfl
  · obtain ⟨x, dx, b, rfl, hx, k⟩ := h
    refine ⟨_, (pss_cons (ps_fld (pv 0) (pv 1) rfl)
    (pss_cons (ps_fld (pv 0) pe_int rfl)
    (pss_one (ps_fld (pv 0) pe_int rfl)))), ?_⟩
    refine rd_startE (show start N_Decoder_init [.ref x, byV b] = [some (.ref x), some (byV b)] from rfl) ?_
    walk_at "rd_Fa"
    refine rd_edset hx T.cDecoder T.na_Decoder_data (by decide) fun H1 b1 e1 => ?_
    walk_at "rd_Fa"
    refine rd_edset e1 T.cDecoder T.na_Decoder_offset (Nat.lt_of_le_of_lt (putF_len (k := 0) (by decide)) (by decide)) fun H2 b2 e2 => ?_
    walk_at "rd_Fa"
    refine rd_edset e2 T.cDecoder T.na_Decoder_total (Nat.lt_of_le_of_lt (putF_len (k := 1) (putF_len (k := 0) (by decide))) (by decide)) fun H3 b3 e3 => ?_
    walk_at "rd_Fa"
    exact k _ ((b1.trans b2).trans b3) ⟨dx, e3⟩
end
section
variable {P : Program} {w : World} {K : PySem.W.Frag} {mg : Str → Option Value} {base : Heap} {CText CPart CCounter CDecoder CTextError CInvalidStep CTooLong CInvalidPlace CInvalidNumber CNotationError CInvalidCount CDecodeError : Addr}
theorem okR_Decoder_take (T : Txt K mg CText CPart CCounter CDecoder CTextError CInvalidStep CTooLong CInvalidPlace CInvalidNumber CNotationError CInvalidCount CDecodeError) : MOk P w K mg base (L2.CX P w) 4 CDecoder "take" (sp_Decoder_takeR CDecodeError CDecoder) := by
  refine T.d_Decoder_take.okX sc_Decoder_take (fun vs H Q E h => ?len) (fun f cdv A outer s H vs Q E hr h => ?_)
  case len => obtain ⟨x, b, o, t, lo, hi, rfl, _⟩ := h; rfl
  · obtain ⟨x, b, o, t, lo, hi, rfl, ⟨dx, ex⟩, h8, hob, k⟩ := h
    refine ⟨_, (pss_cons (ps_if (PW.pt (pw_or (pt_cmpR (eqK (K := K) rfl hr.units) (pe_fldK (K := K) rfl (pv 0) (by rfl)) (pe_callB (lenK (K := K) rfl) rfl T.n_len (by decide +kernel) (pa_cons (pe_fldK (K := K) rfl (pv 0) (by rfl)) pa_nil)) (nomark _)) (pw_or1 (pt_not (pt_chain op_le op_le (pv 1) (pe_itemB (pe_fldK (K := K) rfl (pv 0) (by rfl)) (pe_fldK (K := K) rfl (pv 0) (by rfl)) (fun _ _ => rfl)) (pv 2)))))) (pss_one (ps_rzI T.x_DecodeError (ok_DecodeError_init (K := K) T) (hr.mono (by decide)) (takes_of rfl rfl rfl rfl) (pa_cons (pe_fldK (K := K) rfl (pv 0) (by rfl)) pa_nil)))
    pss_nil)
    (pss_cons (ps_fldaug (pv 0) pe_int in_add)
    (pss_one (ps_ret (pe_itemB (pe_fldK (K := K) rfl (pv 0) (by rfl)) (pe_op op_sub (pe_fldK (K := K) rfl (pv 0) (by rfl)) pe_int) (fun _ _ => rfl)))))), ?_⟩
    refine rd_startE (show start N_Decoder_take [.ref x, .int (lo : Nat), .int (hi : Nat)] = [some (.ref x), some (.int (lo : Nat)), some (.int (hi : Nat))] from rfl) ?_
    walk_at "rd_Fa"
    refine rd_fld_at ex T.cDecoder T.na_Decoder_offset dcF_lookO ?_
    walk_at "rd_Fa"
    refine rd_fld_at ex T.cDecoder T.na_Decoder_data dcF_lookD ?_
    walk_at "rd_Fa"
    refine rd_lenBy h8 ?_
    walk_at "rd_Fa"
    have h81 := h8.1
    by_cases ho : o = b.length
    · rw [decide_eq_true (by omega : ((o : Nat) : Int) = (b.length : Nat))]
      have hr : tkD b o lo hi = .er o := by unfold tkD; rw [List.getElem?_eq_none (by omega)]
      rw [hr] at k
      walk_at "rd_Fa"
      refine rd_rzI ?_
      walk_at "rd_Fa"
      refine rd_fld_at ex T.cDecoder T.na_Decoder_offset dcF_lookO ?_
      walk_at "rd_Fa"
      exact rd_mkOff (by omega) fun d H' S e => k d H' (But.same S) e
    · rw [decide_eq_false (by omega : ¬ ((o : Nat) : Int) = (b.length : Nat))]
      obtain ⟨v, hv⟩ : ∃ v, b[o]? = some v := ⟨_, List.getElem?_eq_getElem (by omega)⟩
      have hr : tkD b o lo hi = if lo ≤ v ∧ v ≤ hi then .ok v (o + 1) else .er o := by unfold tkD; rw [hv]
      rw [hr] at k
      walk_at "rd_Fa"
      refine rd_fld_at ex T.cDecoder T.na_Decoder_data dcF_lookD ?_
      walk_at "rd_Fa"
      refine rd_fld_at ex T.cDecoder T.na_Decoder_offset dcF_lookO ?_
      refine rd_itB (v := v) h8 (by rw [Int.toNat_natCast]; exact hv) (by omega) ?_
      walk_at "rd_Fa"
      have bad : ¬ (lo ≤ v ∧ v ≤ hi) → rMkO CDecodeError (sp_xi1 CDecodeError "offset") E [.int (o : Nat)] H := fun hn => by
        rw [if_neg hn] at k
        exact rd_mkOff (by omega) fun d H' S e => k d H' (But.same S) e
      refine rd_ite (fun h1 => ?_) (fun h1 => ?_)
      · walk_at "rd_Fa"
        by_cases h2 : v ≤ hi
        · rw [if_pos ⟨by omega, h2⟩] at k
          walk_at "rd_Fa"
          refine rd_augO T.cDecoder T.na_Decoder_offset rfl ⟨dx, ex⟩ ?_
          walk_at "rd_Fa"
          refine rd_augO1 (n := 1) ⟨dx, ex⟩ rfl fun H1 B1 D1 => ?_
          obtain ⟨dx1, ex1⟩ := id D1
          walk_at "rd_Fa"
          refine rd_fld_at ex1 T.cDecoder T.na_Decoder_data dcF_lookD ?_
          walk_at "rd_Fa"
          refine rd_fld_at ex1 T.cDecoder T.na_Decoder_offset dcF_lookO ?_
          walk_at "rd_Fa"
          refine rd_itB (v := v) h8 (by rw [show (((o + 1 : Nat) : Int) - 1).toNat = o by omega]; exact hv) (by omega) ?_
          exact k H1 B1 D1
        · walk_at "rd_Fa"
          refine rd_rzI ?_
          walk_at "rd_Fa"
          refine rd_fld_at ex T.cDecoder T.na_Decoder_offset dcF_lookO ?_
          walk_at "rd_Fa"
          exact bad fun z => h2 z.2
      · walk_at "rd_Fa"
        refine rd_rzI ?_
        walk_at "rd_Fa"
        refine rd_fld_at ex T.cDecoder T.na_Decoder_offset dcF_lookO ?_
        walk_at "rd_Fa"
        exact bad fun z => h1 (by omega)
end
section
variable {P : Program} {w : World} {K : PySem.W.Frag} {mg : Str → Option Value} {base : Heap} {CText CPart CCounter CDecoder CTextError CInvalidStep CTooLong CInvalidPlace CInvalidNumber CNotationError CInvalidCount CDecodeError : Addr}
theorem okR_Decoder_take_number (T : Txt K mg CText CPart CCounter CDecoder CTextError CInvalidStep CTooLong CInvalidPlace CInvalidNumber CNotationError CInvalidCount CDecodeError) : MOk P w K mg base (L2.CX P w) 5 CDecoder "take_number" (sp_Decoder_take_numberR CDecodeError CDecoder) := by
  refine T.d_Decoder_take_number.okX sc_Decoder_take_number (fun vs H Q E h => ?len) (fun f cdv A outer s H vs Q E hr h => ?_)
  case len => obtain ⟨x, b, o, t, lo, hi, rfl, _⟩ := h; rfl
  · obtain ⟨x, b, o, t, lo, hi, rfl, D0, h8, hob, k⟩ := h
    obtain ⟨t_BYTE, h_BYTE⟩ := T.k_BYTE; obtain ⟨t_GROUP, h_GROUP⟩ := T.k_GROUP; refine ⟨_, (pss_cons (ps_asg (pe_tup (pa_cons (pe_fldK (K := K) rfl (pv 0) (by rfl)) (pa_cons pe_int (pa_cons pe_int (pa_cons (pe_glob (v := .int 128) rfl h_GROUP ⟨_, rfl⟩) pa_nil))))) (pg_tupK (K := K) (n := 4) rfl rfl (pgs_cons (pg_name (i := 3) sc_Decoder_take_number.nd rfl (Or.inl rfl)) (pgs_cons (pg_name (i := 4) sc_Decoder_take_number.nd rfl (Or.inl rfl)) (pgs_cons (pg_name (i := 5) sc_Decoder_take_number.nd rfl (Or.inl rfl)) (pgs_cons (pg_name (i := 6) sc_Decoder_take_number.nd rfl (Or.inl rfl)) pgs_nil))))))
    (pss_cons (ps_while (passes_of rfl) (pt_cmpR op_ge (pv 6) (pe_glob (v := .int 128) rfl h_GROUP ⟨_, rfl⟩) (nomark _)) (pss_cons (ps_set (i := 6) sc_Decoder_take_number.nd rfl (Or.inl rfl) (pe_m (pv 0) T.cDecoder (okR_Decoder_take (K := K) T) (hr.mono (by decide)) (passX (takes_of rfl rfl rfl rfl)) (pa_cons pe_int (pa_cons (pe_op op_sub (pe_glob (v := .int 256) rfl h_BYTE ⟨_, rfl⟩) pe_int) pa_nil))))
    (pss_cons (ps_if (PW.pt (pw_and (pt_cmpR (eqK (K := K) rfl hr.units) (pv 6) pe_int (nomark _)) (pw_and1 (pt_cmpR op_gt (pv 5) pe_int (nomark _))))) (pss_one (ps_rzI T.x_DecodeError (ok_DecodeError_init (K := K) T) (hr.mono (by decide)) (takes_of rfl rfl rfl rfl) (pa_cons (pe_op op_sub (pe_fldK (K := K) rfl (pv 0) (by rfl)) pe_int) pa_nil)))
    pss_nil)
    (pss_cons (ps_aug (i := 4) sc_Decoder_take_number.nd rfl (Or.inl rfl) (pe_op op_mul (pe_op op_mod (pe_callTy cInt rfl T.n_int (by decide +kernel) (pa_cons (pv 6) pa_nil)) (pe_glob (v := .int 128) rfl h_GROUP ⟨_, rfl⟩)) (pv 5)) ip_add)
    (pss_one (ps_aug (i := 5) sc_Decoder_take_number.nd rfl (Or.inl rfl) (pe_glob (v := .int 128) rfl h_GROUP ⟨_, rfl⟩) ip_mul))))))
    (pss_cons (ps_if (pt_not (pt_chain op_le op_le (pv 1) (pv 4) (pv 2))) (pss_one (ps_rzI T.x_DecodeError (ok_DecodeError_init (K := K) T) (hr.mono (by decide)) (takes_of rfl rfl rfl rfl) (pa_cons (pv 3) pa_nil)))
    pss_nil)
    (pss_one (ps_ret (pv 4)))))), ?_⟩
    refine rd_startE (show start N_Decoder_take_number [.ref x, .int (lo : Nat), .int ((hi : Nat) - 1)] = [some (.ref x), some (.int (lo : Nat)), some (.int ((hi : Nat) - 1)), none, none, none, none] from rfl) ?_
    have h81 := h8.1
    obtain ⟨dx, ex⟩ := id D0
    walk_at "rd_Fa"
    refine rd_fld_at ex T.cDecoder T.na_Decoder_offset dcF_lookO ?_
    walk_at "rd_Fa"
    intro p1 H1 S1 e1 _
    refine rd_gtup (SqT.of e1) rfl ?_
    walk_at "rd_Fa"
    refine rd_while (fun m σ H' => ∃ (o' acc fac byte : Nat), σ = [some (.ref x), some (.int (lo : Nat)), some (.int ((hi : Nat) - 1)), some (.int (o : Nat)), some (.int (acc : Nat)), some (.int (fac : Nat)), some (.int (byte : Nat))] ∧ But x H H' ∧ DcAt CDecoder H' x b o' t ∧ o' ≤ b.length ∧ m = b.length - o' ∧
      ((128 ≤ byte ∧ nmL b (b.length - o) o 0 1 = nmL b (b.length - o') o' acc fac) ∨ (byte < 128 ∧ nmL b (b.length - o) o 0 1 = .ok acc o'))) ⟨b.length - o, o, 0, 1, 128, rfl, But.same S1, D0.same S1, hob, rfl, .inl ⟨by decide, rfl⟩⟩ ?_
    rintro m σ H2 ⟨o', acc, fac, byte, rfl, B2, D2, ho2, rfl, hR⟩
    walk_at "rd_Fa"
    refine rd_ite (fun h3 => ⟨_, fun σ' H'' z => z, ?_⟩) (fun h3 => ?_)
    · have hR := (hR.resolve_right fun z => by omega).2
      walk_at "rd_Fa"
      refine ⟨D2.insM, ?_⟩
      walk_at "rd_Fa"
      refine rd_take (lo := 0) (hi := 255) D2 h8 ho2 rfl (by decide) ?_
      by_cases ho : o' = b.length
      · rw [tk_none (by omega)]
        have hk : nmD b o lo hi = .er o' := by unfold nmD; rw [hR, nmL_end ho]; rfl
        rw [hk] at k
        exact fun d H3 B3 e3 => k d H3 (B2.trans B3) e3
      · obtain ⟨v, hv⟩ : ∃ v, b[o']? = some v := ⟨_, List.getElem?_eq_getElem (by omega)⟩
        rw [nmL_step hv] at hR
        rw [tk_byte h8 hv]
        intro H3 B3 D3
        obtain ⟨dx3, ex3⟩ := id D3
        have hl := (List.getElem?_eq_some_iff.mp hv).1
        have hv8 := h8.2 _ (List.mem_of_getElem? hv)
        walk_at "rdS_Fa"
        refine rd_ifAndJ8 (fun Hc => Hc = H3 ∧ ¬ (v = 0 ∧ 1 < fac)) ?_ fun hb => ?_
        · rintro Hc ⟨rfl, hn⟩
          rw [if_neg hn] at hR
          walk_at "rd_Fa"
          refine rd_I (by decide) ?_
          walk_at "rd_Fa"
          refine rd_I (.inl ⟨by omega, by omega⟩) ?_
          walk_at "rd_Fa"
          refine rd_I (.inr ⟨by decide, by decide⟩) ?_
          refine ⟨b.length - (o' + 1), by omega, o' + 1, acc + v % 128 * fac, fac * 128, v, ?_, B2.trans B3, D3, by omega, rfl, ?_⟩
          · rw [Int.natCast_add, Int.natCast_mul, Int.natCast_emod, Int.natCast_mul]; rfl
          · by_cases hv1 : v < 128
            · rw [if_pos hv1] at hR
              exact .inr ⟨hv1, hR⟩
            · rw [if_neg hv1] at hR
              exact .inl ⟨by omega, hR⟩
        · walk_at "rd_Fa"
          refine rd_ite (fun h4 => ?_) (fun h4 => hb _ ⟨rfl, fun z => h4 (by omega)⟩)
          walk_at "rd_Fa"
          refine rd_ite (fun h5 => ?_) (fun h5 => hb _ ⟨rfl, fun z => h5 (by omega)⟩)
          rw [if_pos ⟨by omega, by omega⟩] at hR
          have hk : nmD b o lo hi = .er o' := by unfold nmD; rw [hR]; rfl
          rw [hk] at k
          walk_at "rd_Fa"
          refine rd_rzI ?_
          walk_at "rd_Fa"
          refine rd_fld_at ex3 T.cDecoder T.na_Decoder_offset dcF_lookO ?_
          walk_at "rd_Fa"
          rw [show ((o' + 1 : Nat) : Int) - 1 = ((o' : Nat) : Int) by omega]
          exact rd_mkOff (by omega) fun d H' S e => k d H' ((B2.trans B3).trans (But.same S)) e
    · have hR := (hR.resolve_left fun z => by omega).2
      have hk : nmD b o lo hi = if lo ≤ acc ∧ acc < hi then .ok acc o' else .er o := by unfold nmD; rw [hR, DR.bind_ok]
      rw [hk] at k
      walk_at "rd_Fa"
      have bad : ¬ (lo ≤ acc ∧ acc < hi) → rMkO CDecodeError (sp_xi1 CDecodeError "offset") E [.int (o : Nat)] H2 := fun hn => by
        rw [if_neg hn] at k
        exact rd_mkOff (by omega) fun d H' S e => k d H' (B2.trans (But.same S)) e
      refine rd_ite (fun h1 => ?_) (fun h1 => ?_)
      · walk_at "rd_Fa"
        by_cases h2 : acc < hi
        · rw [if_pos ⟨by omega, h2⟩] at k
          walk_at "rd_Fa"
          exact k H2 B2 D2
        · walk_at "rd_Fa"
          refine rd_rzI ?_
          walk_at "rd_Fa"
          exact bad fun z => h2 z.2
      · walk_at "rd_Fa"
        refine rd_rzI ?_
        walk_at "rd_Fa"
        exact bad fun z => h1 (by omega)
end
section
variable {P : Program} {w : World} {K : PySem.W.Frag} {mg : Str → Option Value} {base : Heap} {CText CPart CCounter CDecoder CTextError CInvalidStep CTooLong CInvalidPlace CInvalidNumber CNotationError CInvalidCount CDecodeError : Addr}
theorem okR_Decoder_take_step (T : Txt K mg CText CPart CCounter CDecoder CTextError CInvalidStep CTooLong CInvalidPlace CInvalidNumber CNotationError CInvalidCount CDecodeError) : MOk P w K mg base (L2.CX P w) 6 CDecoder "take_step" (sp_Decoder_take_stepR K CDecodeError CDecoder) := by
  refine T.d_Decoder_take_step.okX sc_Decoder_take_step (fun vs H Q E h => ?len) (fun f cdv A outer s H vs Q E hr h => ?_)
  case len => obtain ⟨x, b, o, t, rfl, _⟩ := h; rfl
  · obtain ⟨x, b, o, t, rfl, D0, h8, hob, ht, k⟩ := h
    obtain ⟨t_LETTERS, h_LETTERS⟩ := T.k_LETTERS; obtain ⟨t_MAX_SIZE_texts, h_MAX_SIZE_texts⟩ := T.k_MAX_SIZE_texts; obtain ⟨t_MAX_TIMES, h_MAX_TIMES⟩ := T.k_MAX_TIMES; obtain ⟨t_MAX_WORD, h_MAX_WORD⟩ := T.k_MAX_WORD; refine ⟨_, (pss_cons (ps_set (i := 1) sc_Decoder_take_step.nd rfl (Or.inl rfl) (pe_fldK (K := K) rfl (pv 0) (by rfl)))
    (pss_cons (ps_if (pt_cmpR (eqK (K := K) rfl hr.units) (pe_m (pv 0) T.cDecoder (okR_Decoder_take (K := K) T) (hr.mono (by decide)) (passX (takes_of rfl rfl rfl rfl)) (pa_cons pe_int (pa_cons pe_int pa_nil))) pe_int (nomark _)) (pss_cons (ps_set (i := 2) sc_Decoder_take_step.nd rfl (Or.inl rfl) (pe_m (pv 0) T.cDecoder (okR_Decoder_take (K := K) T) (hr.mono (by decide)) (passX (takes_of rfl rfl rfl rfl)) (pa_cons pe_int (pa_cons (pe_glob (v := .int 20) rfl h_MAX_WORD ⟨_, rfl⟩) pa_nil))))
    (pss_cons (ps_set (i := 3) sc_Decoder_take_step.nd rfl (Or.inl rfl) (pe_tup (pa_cons pe_str (pa_cons (pe_joinK (K := K) rfl pe_str (pe_lcR (own := [("turn", 4)]) (takes_of rfl rfl rfl rfl) rfl rfl rfl sc_Decoder_take_step.nd (pi_range1 rfl T.n_range (pa_cons (pv 2) pa_nil)) (blkOk_by (own := [("turn", 4)]) (N := N_Decoder_take_step) (sc := (defScope s_Decoder_take_step)) (by first | decide +kernel | rfl)) (fun _ _ _ _ _ => ⟨(pg_name (i := 4) sc_Decoder_take_step.nd rfl (Or.inl rfl)), pts_nil, (pe_ix (ixK (K := K) rfl) (pe_glob (v := .str "abcdefghijklmnopqrstuvwxyz") rfl h_LETTERS ⟨_, rfl⟩) (pe_m (pv 0) T.cDecoder (okR_Decoder_take (K := K) T) (hr.mono (by decide)) passB (pa_cons pe_int (pa_cons (pe_op op_sub (pe_callB (lenK (K := K) rfl) rfl T.n_len (by decide +kernel) (pa_cons (pe_glob (v := .str "abcdefghijklmnopqrstuvwxyz") rfl h_LETTERS ⟨_, rfl⟩) pa_nil)) pe_int) pa_nil))) (fun _ _ => rfl))⟩))) pa_nil))))
    (pss_one (ps_fldaug (pv 0) (pv 2) in_add))))
    (pss_cons (ps_set (i := 5) sc_Decoder_take_step.nd rfl (Or.inl rfl) (pe_m (pv 0) T.cDecoder (okR_Decoder_take_number (K := K) T) (hr.mono (by decide)) (passX (takes_of rfl rfl rfl rfl)) (pa_cons pe_int (pa_cons (pe_op op_sub (pe_fldK (K := K) rfl (pv 0) (by rfl)) pe_int) pa_nil))))
    (pss_cons (ps_set (i := 6) sc_Decoder_take_step.nd rfl (Or.inl rfl) (pe_m (pv 0) T.cDecoder (okR_Decoder_take_number (K := K) T) (hr.mono (by decide)) (passX (takes_of rfl rfl rfl rfl)) (pa_cons (pv 5) (pa_cons (pe_op op_sub (pe_fldK (K := K) rfl (pv 0) (by rfl)) pe_int) pa_nil))))
    (pss_cons (ps_set (i := 7) sc_Decoder_take_step.nd rfl (Or.inl rfl) (pe_m (pv 0) T.cDecoder (okR_Decoder_take_number (K := K) T) (hr.mono (by decide)) (passX (takes_of rfl rfl rfl rfl)) (pa_cons pe_int (pa_cons (pe_glob (v := .int 1000000000) rfl h_MAX_TIMES ⟨_, rfl⟩) pa_nil))))
    (pss_cons (ps_set (i := 3) sc_Decoder_take_step.nd rfl (Or.inl rfl) (pe_tup (pa_cons pe_str (pa_cons (pv 5) (pa_cons (pv 6) (pa_cons (pv 7) pa_nil))))))
    (pss_one (ps_fldaug (pv 0) (pe_op op_mulW (pe_op (addK (K := K) rfl) (pe_op op_sub (pv 6) (pv 5)) pe_int) (pv 7)) in_add)))))))
    (pss_cons (ps_if (pt_cmpR op_gt (pe_fldK (K := K) rfl (pv 0) (by rfl)) (pe_glob (v := .int 1000000000000000000) rfl h_MAX_SIZE_texts ⟨_, rfl⟩) (nomark _)) (pss_one (ps_rzI T.x_DecodeError (ok_DecodeError_init (K := K) T) (hr.mono (by decide)) (takes_of rfl rfl rfl rfl) (pa_cons (pv 1) pa_nil)))
    pss_nil)
    (pss_one (ps_ret (pv 3)))))), ?_⟩
    refine rd_startE (show start N_Decoder_take_step [.ref x] = [some (.ref x), none, none, none, none, none, none, none] from rfl) ?_
    have h81 := h8.1
    obtain ⟨dx, ex⟩ := id D0
    walk_at "rd_Fa"
    refine rd_fld_at ex T.cDecoder T.na_Decoder_offset dcF_lookO ?_
    walk_at "rdS_Fa"
    refine rd_ifSJ8 (fun σ' Hc => ∃ v2 v4 v5 v6 v7 s o' p, σ' = [some (.ref x), some (.int (o : Nat)), v2, some (.ref p), v4, v5, v6, v7] ∧ But x H Hc ∧ DcAt CDecoder Hc x b o' (t + len1 s) ∧ StepAt K Hc (.ref p) s ∧ spD b o t = .ok s o') ?_ fun nx' hnx => ?_
    · rintro σ' Hc ⟨v2, v4, v5, v6, v7, s, o', p, rfl, Bc, Dc, sa, hs⟩
      have hk : stpD b o t = if 1000000000000000000 < t + len1 s then .er o else .ok s o' := by unfold stpD; rw [hs]; rfl
      rw [hk] at k
      obtain ⟨dxc, exc⟩ := id Dc
      walk_at "rd_Fa"
      refine rd_fld_at exc T.cDecoder T.na_Decoder_total dcF_lookT ?_
      walk_at "rd_Fa"
      refine rd_ite (fun h1 => ?_) (fun h1 => ?_)
      · rw [if_pos (by omega)] at k
        walk_at "rd_Fa"
        refine rd_rzI ?_
        walk_at "rd_Fa"
        exact rd_mkOff (by omega) fun d H' S e => k d H' (Bc.trans (But.same S)) e
      · rw [if_neg (by omega)] at k
        walk_at "rd_Fa"
        exact k Hc Bc _ Dc sa
    · rw [stpD_eq] at k
      walk_at "rd_Fa"
      refine ⟨D0.insM, ?_⟩
      walk_at "rd_Fa"
      refine rd_take (lo := 0) (hi := 1) D0 h8 hob rfl rfl (k.step fun v o1 H1 hr B1 k1 D1 => ?_)
      obtain ⟨_, _, hv1, rfl, ho1⟩ := tkD_ok hr
      walk_at "rd_Fa"
      refine rd_ite (fun h1 => ?_) (fun h1 => ?_)
      · have h1 : v = 0 := by omega
        subst h1
        rw [if_pos rfl] at k1
        unfold wrD at k1
        rw [DR.assoc] at k1
        walk_at "rd_Fa"
        refine ⟨D1.insM, ?_⟩
        walk_at "rd_Fa"
        refine rd_take (lo := 1) (hi := 20) D1 h8 ho1 rfl rfl (k1.step fun n o2 H2 hr2 B2 k2 D2 => ?_)
        obtain ⟨_, hn1, hn2, rfl, ho2⟩ := tkD_ok hr2
        rw [DR.assoc] at k2
        walk_at "rd_Fa"
        refine ⟨_, rfl, by omega, by omega, fun D hD => lc_sti (n := n) (fun i H' => But x H2 H' ∧ DcAt CDecoder H' x b (o + 1 + 1 + i) t ∧ o + 1 + 1 + i ≤ b.length ∧ ltD b n (o + 1 + 1) [] = ltD b (n - i) (o + 1 + 1 + i) (letB b (o + 1 + 1) i)) (fun i H' _ => by rw [Int.toNat_natCast]; exact plain_rng) ?_ (by rw [sizeLine_eq]; omega) (fun _ => rfl) (fun i => .str ⟨#[97 + b[o + 1 + 1 + i]?.getD 0]⟩) ?_ ?_ ?_⟩
        · have nD : x ≠ D := fun z => by obtain ⟨dx2, e2⟩ := D2; rw [z, hD] at e2; cases e2
          exact ⟨But.mutN But.refl hD, D2.upd nD, ho2, rfl⟩
        · rintro i H' ys zs ⟨B, Dc, h1, h2⟩ _
          have nD : x ≠ D := fun z => by obtain ⟨dx2, e2⟩ := D2; rw [z, hD] at e2; cases e2
          exact ⟨B.mutN hD, Dc.upd nD, h1, h2⟩
        · rintro i H' ys Q1 hi ⟨B, Dc, ho3, hl⟩ eD q
          have l26 : (Str.ofString "abcdefghijklmnopqrstuvwxyz").length = 26 := by decide +kernel
          have nD : x ≠ D := fun z => by obtain ⟨dx2, e2⟩ := D2; rw [z, hD] at e2; cases e2
          walk_at "rd_Fa"
          refine ⟨Dc.insM, ?_⟩
          walk_at "rd_Fa"
          refine rd_len_str (by rw [l26, sizeLine_eq]; decide) ?_
          rw [l26]
          walk_at "rd_Fa"
          obtain ⟨m, hm⟩ : ∃ m, n - i = m + 1 := ⟨n - i - 1, by omega⟩
          rw [hm] at hl
          refine rd_take (lo := 0) (hi := 25) Dc h8 ho3 rfl (by decide) ?_
          cases hr3 : tkD b (o + 1 + 1 + i) 0 25 with
          | er q3 =>
            rw [hl, ltD_bad hr3] at k2
            exact fun d H3 B3 e3 => k2 d H3 (B.trans B3) e3
          | ok v o3 =>
            obtain ⟨hv0, _, hv2, rfl, ho4⟩ := tkD_ok hr3
            intro H3 B3 D3
            refine rd_ixSn (by rw [l26, sizeLine_eq]; decide) (low_at8 hv2) ?_
            have hq := q H3 ⟨B.trans B3, D3, ho4, by rw [hl, ltD_step hr3, letB_snoc, hv0, show n - (i + 1) = m by omega]; rfl⟩ (B3 _ _ (fun z => nD z.symm) eD)
            rw [hv0] at hq
            exact hq
        · rintro H3 ⟨B3, D3, ho3, hl⟩ e3
          rw [Nat.sub_self] at hl
          rw [hl] at k2
          have hl : ltD b n (o + 1 + 1) [] = .ok (letB b (o + 1 + 1) n) (o + 1 + 1 + n) := hl
          rw [letB_sgV] at e3
          have ll : (letB b (o + 1 + 1) n).length = n := by unfold letB; rw [List.length_map, List.length_range]
          refine rd_joinS e3 (by omega) ?_
          walk_at "rd_Fa"
          intro p4 H4 S4 e4 _
          walk_at "rd_Fa"
          refine rd_augT T.cDecoder T.na_Decoder_total rfl (D3.same S4) ?_
          walk_at "rd_Fa"
          refine rd_augT1 (n := n) (D3.same S4) rfl fun H5 B5 D5 => ?_
          refine hnx _ _ ⟨_, _, _, _, _, .wr (mkS (letB b (o + 1 + 1) n)), o + 1 + 1 + n, p4, rfl, (((B1.trans B2).trans B3).trans (But.same S4)).trans B5, ?_, ?_, ?_⟩
          · rw [show len1 (Stp.wr (mkS (letB b (o + 1 + 1) n))) = (mkS (letB b (o + 1 + 1) n)).length from rfl, mkS_len, ll]
            exact D5
          · obtain ⟨dx3, ex3⟩ := D3.same S4
            exact StepAt.wrN (B5 _ _ (fun z => by rw [← z, e4] at ex3; cases ex3) e4)
          · unfold spD
            rw [hr, DR.bind_ok, if_pos rfl]
            unfold wrD
            rw [hr2, DR.bind_ok, hl, DR.bind_ok]
      · have hv : v = 1 := by omega
        subst hv
        rw [if_neg (by decide)] at k1
        unfold paD at k1
        rw [DR.assoc] at k1
        obtain ⟨dx1, ex1⟩ := id D1
        walk_at "rd_Fa"
        refine ⟨D1.insM, ?_⟩
        walk_at "rd_Fa"
        refine rd_fld_at ex1 T.cDecoder T.na_Decoder_total dcF_lookT ?_
        walk_at "rd_Fa"
        refine rd_takeN (lo := 0) (hi := t) D1 h8 ho1 rfl rfl (k1.step fun f o2 H2 hr2 B2 k2 D2 => ?_)
        have a2 := nmD_ok hr2
        rw [DR.assoc] at k2
        obtain ⟨dx2, ex2⟩ := id D2
        walk_at "rd_Fa"
        refine ⟨D2.insM, ?_⟩
        walk_at "rd_Fa"
        refine rd_fld_at ex2 T.cDecoder T.na_Decoder_total dcF_lookT ?_
        walk_at "rd_Fa"
        refine rd_takeN (lo := f) (hi := t) D2 h8 a2.2.2.2 rfl rfl (k2.step fun l o3 H3 hr3 B3 k3 D3 => ?_)
        have a3 := nmD_ok hr3
        rw [DR.assoc] at k3
        obtain ⟨dx3, ex3⟩ := id D3
        walk_at "rd_Fa"
        refine ⟨D3.insM, ?_⟩
        walk_at "rd_Fa"
        refine rd_takeN (lo := 1) (hi := 1000000001) D3 h8 a3.2.2.2 rfl (by decide) (k3.step fun m o4 H4 hr4 B4 k4 D4 => ?_)
        have a4 := nmD_ok hr4
        walk_at "rd_Fa"
        intro p5 H5 S5 e5 _
        walk_at "rd_Fa"
        refine rd_augT T.cDecoder T.na_Decoder_total rfl (D4.same S5) ?_
        walk_at "rd_Fa"
        refine rd_mulW (n := l - f + 1) (m := m) (by omega) rfl (by omega) (by omega) ?_
        refine rd_augT1 (n := (l - f + 1) * m) (D4.same S5) rfl fun H6 B6 D6 => ?_
        refine hnx _ _ ⟨_, _, _, _, _, .pa f l m, o4, p5, rfl, (((B1.trans B2).trans (B3.trans B4)).trans (But.same S5)).trans B6, D6, ?_, ?_⟩
        · obtain ⟨dx5, ex5⟩ := D4.same S5
          exact StepAt.paN (B6 _ _ (fun z => by rw [← z, e5] at ex5; cases ex5) e5)
        · unfold spD
          rw [hr, DR.bind_ok, if_neg (by decide)]
          unfold paD
          rw [hr2, DR.bind_ok, hr3, DR.bind_ok, hr4, DR.bind_ok]
end
section
variable {P : Program} {w : World} {K : PySem.W.Frag} {mg : Str → Option Value} {base : Heap} {CText CPart CCounter CDecoder CTextError CInvalidStep CTooLong CInvalidPlace CInvalidNumber CNotationError CInvalidCount CDecodeError : Addr}
theorem okR_Decoder_finish (T : Txt K mg CText CPart CCounter CDecoder CTextError CInvalidStep CTooLong CInvalidPlace CInvalidNumber CNotationError CInvalidCount CDecodeError) : MOk P w K mg base (L2.CX P w) 5 CDecoder "finish" (sp_Decoder_finishR CDecodeError CDecoder) := by
  refine T.d_Decoder_finish.okX sc_Decoder_finish (fun vs H Q E h => ?len) (fun f cdv A outer s H vs Q E hr h => ?_)
  case len => obtain ⟨x, b, o, t, rfl, _⟩ := h; rfl
  · obtain ⟨x, b, o, t, rfl, D0, h8, hob, k⟩ := h
    refine ⟨_, (pss_cons (ps_set (i := 1) sc_Decoder_finish.nd rfl (Or.inl rfl) (pe_g (ok_checksum_of (K := K) T) (hr.mono (by decide)) pass0 (pa_cons (pe_callTy (listB rfl) rfl T.n_list (by decide +kernel) (pa_cons (pe_slice sl_byt (pe_fldK (K := K) rfl (pv 0) (by rfl)) po_none (po_some (pe_fldK (K := K) rfl (pv 0) (by rfl)))) pa_nil)) pa_nil)))
    (pss_cons (ps_expr (pe_m (pv 0) T.cDecoder (okR_Decoder_take (K := K) T) (hr.mono (by decide)) (passX (takes_of rfl rfl rfl rfl)) (pa_cons (pv 1) (pa_cons (pv 1) pa_nil))))
    (pss_one (ps_if (pt_cmpR op_lt (pe_fldK (K := K) rfl (pv 0) (by rfl)) (pe_callB (lenK (K := K) rfl) rfl T.n_len (by decide +kernel) (pa_cons (pe_fldK (K := K) rfl (pv 0) (by rfl)) pa_nil)) (nomark _)) (pss_one (ps_rzI T.x_DecodeError (ok_DecodeError_init (K := K) T) (hr.mono (by decide)) (takes_of rfl rfl rfl rfl) (pa_cons (pe_fldK (K := K) rfl (pv 0) (by rfl)) pa_nil)))
    pss_nil)))), ?_⟩
    refine rd_startE (show start N_Decoder_finish [.ref x] = [some (.ref x), none] from rfl) ?_
    have h81 := h8.1
    obtain ⟨dx, ex⟩ := id D0
    walk_at "rd_Fa"
    refine rd_fld_at ex T.cDecoder T.na_Decoder_data dcF_lookD ?_
    walk_at "rd_Fa"
    refine rd_fld_at ex T.cDecoder T.na_Decoder_offset dcF_lookO ?_
    walk_at "rd_Fa"
    refine rd_slByTo h8 hob ?_
    walk_at "rd_Fa"
    refine rd_listBy (h8.take o) fun p1 H1 S1 n1 e1 => ?_
    walk_at "rd_Fa"
    refine rd_checksum e1 fun H2 S2 => ?_
    have D2 := (D0.same S1).same S2
    have k2 := k.but (But.same (S1.trans S2))
    walk_at "rd_Fa"
    refine ⟨D2.insM, ?_⟩
    walk_at "rd_Fa"
    refine rd_take D2 h8 hob rfl rfl (k2.step fun v o3 H3 hr B3 k3 D3 => ?_)
    obtain ⟨_, _, _, rfl, ho3⟩ := tkD_ok hr
    obtain ⟨dx3, ex3⟩ := id D3
    walk_at "rd_Fa"
    refine rd_fld_at ex3 T.cDecoder T.na_Decoder_offset dcF_lookO ?_
    walk_at "rd_Fa"
    refine rd_fld_at ex3 T.cDecoder T.na_Decoder_data dcF_lookD ?_
    walk_at "rd_Fa"
    refine rd_lenBy h8 ?_
    walk_at "rd_Fa"
    refine rd_ite (fun h1 => ?_) (fun h1 => ?_)
    · rw [if_pos (by omega)] at k3
      walk_at "rd_Fa"
      refine rd_rzI ?_
      walk_at "rd_Fa"
      refine rd_fld_at ex3 T.cDecoder T.na_Decoder_offset dcF_lookO ?_
      walk_at "rd_Fa"
      exact rd_mkOff (by omega) fun d H' S e => k3 d H' (But.same S) e
    · rw [if_neg (by omega)] at k3
      walk_at "rd_Fa"
      exact k3 H3 But.refl
end
section
variable {P : Program} {w : World} {K : PySem.W.Frag} {mg : Str → Option Value} {base : Heap} {CText CPart CCounter CDecoder CTextError CInvalidStep CTooLong CInvalidPlace CInvalidNumber CNotationError CInvalidCount CDecodeError : Addr}
theorem okR_decode_text (T : Txt K mg CText CPart CCounter CDecoder CTextError CInvalidStep CTooLong CInvalidPlace CInvalidNumber CNotationError CInvalidCount CDecodeError) : GOk P w K mg base (L2.CX P w) 7 "decode_text" (sp_decode_textR K CDecodeError CText CPart) := by
  refine T.d_decode_text.okX sc_decode_text (fun vs H Q E h => ?len) (fun f cdv A outer s H vs Q E hr h => ?_)
  case len => obtain ⟨b, rfl, _⟩ := h; rfl
  · obtain ⟨b, rfl, h8, kOk, kEr⟩ := h
    obtain ⟨t_FIRST_BYTE, h_FIRST_BYTE⟩ := T.k_FIRST_BYTE; obtain ⟨t_MAX_STEPS, h_MAX_STEPS⟩ := T.k_MAX_STEPS; refine ⟨_, (pss_cons (ps_set (i := 1) sc_decode_text.nd rfl (Or.inr rfl) (pe_k (ok_Decoder_init (K := K) T) (hr.mono (by decide)) T.g_Decoder pass0 (pa_cons (pv 0) pa_nil)))
    (pss_cons (ps_expr (pe_m (pv 1) T.cDecoder (okR_Decoder_take (K := K) T) (hr.mono (by decide)) (passX (takes_of rfl rfl rfl rfl)) (pa_cons (pe_glob (v := .int 80) rfl h_FIRST_BYTE ⟨_, rfl⟩) (pa_cons (pe_glob (v := .int 80) rfl h_FIRST_BYTE ⟨_, rfl⟩) pa_nil))))
    (pss_cons (ps_setLcR (i := 2) (own := [("turn", 3)]) (takes_of rfl rfl rfl rfl) rfl rfl rfl sc_decode_text.nd rfl rfl (sw_true rfl rfl rfl (by decide +kernel)) (pi_range1 rfl T.n_range (pa_cons (pe_m (pv 1) T.cDecoder (okR_Decoder_take (K := K) T) (hr.mono (by decide)) (passX (takes_of rfl rfl rfl rfl)) (pa_cons pe_int (pa_cons (pe_glob (v := .int 30) rfl h_MAX_STEPS ⟨_, rfl⟩) pa_nil))) pa_nil)) (blkOk_by (own := [("turn", 3)]) (N := N_decode_text) (sc := (defScope s_decode_text)) (by first | decide +kernel | rfl)) (fun _ _ _ _ _ => ⟨(pg_name (i := 3) sc_decode_text.nd rfl (Or.inl rfl)), pts_nil, (pe_m0 (pv 1) T.cDecoder (okR_Decoder_take_step (K := K) T) (hr.mono (by decide)) passB)⟩))
    (pss_cons (ps_expr (pe_m0 (pv 1) T.cDecoder (okR_Decoder_finish (K := K) T) (hr.mono (by decide)) (passX (takes_of rfl rfl rfl rfl))))
    (pss_one (ps_ret (pe_ks (pe_glob (v := .ref CText) rfl T.g_Text rfl) (ok_Text_init (K := K) T) (hr.mono (by decide)) pass0 (pv 2)))))))), ?_⟩
    refine rd_startE (show start N_decode_text [byV b] = [some (byV b), none, none, none] from rfl) ?_
    have h81 := h8.1
    walk_at "rd_Fa"
    refine rd_mkDc fun x H1 S1 nx D1 => ?_
    have k1 : Rd8 CDecodeError H1 x (decD b) E (fun ss o H' => ∀ y H'', Same H' H'' → H y = none → TX K CText CPart H'' y ss → Q (.ref y) H'') := by
      cases e : decD b with
      | ok ss o => exact fun H' B y H'' S ny T => kOk ss o e y H'' ((But.sameN S1 nx B).trans S) ny T
      | er q => exact fun d H' B ed => kEr q e d H' (But.sameN S1 nx B) ed
    unfold decD at k1
    walk_at "rd_Fa"
    refine ⟨D1.insM, ?_⟩
    walk_at "rd_Fa"
    refine rd_take (lo := 80) (hi := 80) D1 h8 (Nat.zero_le _) rfl rfl (k1.step fun v o2 H2 hr2 B2 k2 D2 => ?_)
    obtain ⟨_, _, _, rfl, ho2⟩ := tkD_ok hr2
    walk_at "rd_Fa"
    refine ⟨D2.insM, ?_⟩
    walk_at "rd_Fa"
    refine rd_take (lo := 0) (hi := 30) D2 h8 ho2 rfl rfl (k2.step fun n o3 H3 hr3 B3 k3 D3 => ?_)
    obtain ⟨_, _, hn, rfl, ho3⟩ := tkD_ok hr3
    walk_at "rd_Fa"
    refine ⟨_, rfl, by omega, by omega, fun D hD => lc_stL (n := n) (fun i ys H' => But x H3 H' ∧ ∃ oi acc, DcAt CDecoder H' x b oi (sz acc) ∧ oi ≤ b.length ∧ StepsAt K H' ys acc ∧ okFrom 0 acc ∧ acc.length = i ∧ ssD b n (0 + 1 + 1) 0 [] = ssD b (n - i) oi (sz acc) acc) (fun i ys H' _ => by rw [Int.toNat_natCast]; exact plain_rng) ?_ (by rw [sizeLine_eq]; omega) (fun _ => rfl) ?_ ?_ ?_⟩
    · have nD : x ≠ D := fun z => by obtain ⟨dx, e⟩ := D3; rw [z, hD] at e; cases e
      exact ⟨But.mutN But.refl hD, _, [], D3.upd nD, ho3, StepsAt.nil, trivial, rfl, rfl⟩
    · rintro i ys ws zs H' ⟨B, oi, acc, Dc, h1, h2, h3, h4, h5⟩ eD
      have nD : x ≠ D := fun z => by obtain ⟨dx, e⟩ := D3; rw [z, hD] at e; cases e
      exact ⟨B.mutN hD, oi, acc, Dc.upd nD, h1, h2.updL eD, h3, h4, h5⟩
    · rintro i ys H' Q1 hi ⟨B, oi, acc, Dc, h1, h2, h3, h4, h5⟩ eD q
      have nD : x ≠ D := fun z => by obtain ⟨dx, e⟩ := D3; rw [z, hD] at e; cases e
      obtain ⟨m, hm⟩ : ∃ m, n - i = m + 1 := ⟨n - i - 1, by omega⟩
      rw [hm, ssD_step] at h5
      have kk := k3.but B
      rw [h5, DR.assoc] at kk
      walk_at "rd_Fa"
      refine ⟨Dc.insM, ?_⟩
      walk_at "rd_Fa"
      refine ⟨x, b, oi, sz acc, rfl, Dc, h8, h1, sz_le h3, kk.step fun s o' H'' hr B' k' v Ds sa => ?_⟩
      obtain ⟨a1, a2, a3, a4⟩ := stpD_ok hr
      refine q v H'' ⟨B.trans B', o', acc ++ [s], by rw [sz_snoc]; exact Ds, a4, ?_, ok_snoc h3 a1 a2, by rw [List.length_append, h4]; rfl, ?_⟩ (B' _ _ (fun z => nD z.symm) eD)
      · exact (steps_butI h2 Dc B').append (StepAt.one' sa)
      · rw [h5, hr, DR.bind_ok, sz_snoc, show n - (i + 1) = m by omega]
    · rintro ys H4 ⟨B, oi, acc, Dc, h1, h2, h3, h4, h5⟩ eD
      rw [Nat.sub_self] at h5
      have kk := k3.but B
      rw [h5] at kk
      have kk : Rd8 CDecodeError H4 x ((finD b oi).bind fun _ o4 => DR.ok acc o4) E (fun ss o H' => ∀ y H'', Same H' H'' → H y = none → TX K CText CPart H'' y ss → Q (.ref y) H'') := kk
      walk_at "rd_Fa"
      refine ⟨Dc.insM, ?_⟩
      refine ⟨x, b, oi, sz acc, rfl, Dc, h8, h1, kk.step fun _ o' H5 hr B5 k5 => ?_⟩
      have nD : x ≠ D := fun z => by obtain ⟨dx, e⟩ := D3; rw [z, hD] at e; cases e
      walk_at "rd_Fa"
      refine rd_mkS (.inr (SqL.of (B5 _ _ (fun z => nD z.symm) eD))) (rd_mkText (steps_butI h2 Dc B5) h3 (by omega) fun y H6 t ny S6 T6 e6 => ?_)
      exact k5 H5 But.refl y H6 S6 (same_back (But.sameN S1 nx (((B2.trans B3).trans B).trans B5)) ny) ⟨t, T6, e6⟩
end
section
variable {P : Program} {w : World} {K : PySem.W.Frag} {mg : Str → Option Value} {base : Heap} {CText CPart CCounter CDecoder CTextError CInvalidStep CTooLong CInvalidPlace CInvalidNumber CNotationError CInvalidCount CDecodeError : Addr}
theorem ok_decode_text (T : Txt K mg CText CPart CCounter CDecoder CTextError CInvalidStep CTooLong CInvalidPlace CInvalidNumber CNotationError CInvalidCount CDecodeError) : GOk P w K mg base CX0 7 "decode_text" (nox (sp_decode_textR K CDecodeError CText CPart)) := (okR_decode_text T).down
end
section
variable {P : Program} {w : World} {K : PySem.W.Frag} {mg : Str → Option Value} {base : Heap} {CText CPart CCounter CDecoder CTextError CInvalidStep CTooLong CInvalidPlace CInvalidNumber CNotationError CInvalidCount CDecodeError : Addr}
theorem ok_key_table (T : Txt K mg CText CPart CCounter CDecoder CTextError CInvalidStep CTooLong CInvalidPlace CInvalidNumber CNotationError CInvalidCount CDecodeError) : GOk P w K mg base CX0 64 "key_table" (sp_key_table K CText CPart) := by
  refine T.d_key_table.ok sc_key_table (fun vs H Q E h => ?len) (fun f cdv A outer s H vs Q E hr h => ?_)
  case len => obtain ⟨a, ss, rfl, _⟩ := h; rfl
  · obtain ⟨a, ss, rfl, TT, k⟩ := h
    refine ⟨_, (pss_cons (ps_set (i := 1) sc_key_table.nd rfl (Or.inl rfl) (pe_g (ok_key_counts (K := K) T) (hr.mono (by decide)) pass0 (pa_cons (pv 0) (pa_cons pe_int (pa_cons (pe_op op_sub (pe_p (pv 0) T.cText (ok_Text_size (K := K) T) (hr.mono (by decide)) pass0) pe_int) pa_nil)))))
    (pss_cons (ps_set (i := 2) sc_key_table.nd rfl (Or.inl rfl) (pe_lst pa_nil))
    (pss_cons (ps_for PassesOwn.never rfl (pi_enZs (K := K) rfl rfl T.n_enumerate rfl T.n_zip (pa_cons (pe_p (pv 0) T.cText (ok_Text_typed_keys (K := K) T) (hr.mono (by decide)) pass0) (pa_cons (pv 1) pa_nil))) (pg_tupK (K := K) (n := 2) rfl rfl (pgs_cons (pg_name (i := 3) sc_key_table.nd rfl (Or.inl rfl)) (pgs_cons (pg_tupK (K := K) (n := 2) rfl rfl (pgs_cons (pg_name (i := 4) sc_key_table.nd rfl (Or.inl rfl)) (pgs_cons (pg_name (i := 5) sc_key_table.nd rfl (Or.inl rfl)) pgs_nil))) pgs_nil))) (pss_one (ps_expr (pe_bmK (K := K) rfl PySem.F.plainAttrs_list PySem.F.slot_list_append PySem.F.type_list_append mt_append (pv 2) (pa_cons (pe_joined (PJ.cons (pe_fmt4 (pv 3)) (PJ.cons pe_str (PJ.cons (pe_fmt (pv 4)) (PJ.cons pe_str (PJ.cons (pe_fmt26 (pv 5)) PJ.nil)))))) pa_nil)))))
    (pss_one (ps_ret (pe_joinK (K := K) rfl pe_str (pv 2))))))), ?_⟩
    refine rd_startE (show start N_key_table [.ref a] = [some (.ref a), none, none, none, none, none] from rfl) ?_
    walk_at "rd_Fa"
    have ok := TT.ok
    have ty := tyL_600 TT
    have z18 := sz_le ok
    refine rd_keyCounts TT (by decide) (by omega) (by omega) fun l H1 S1 e1 => ?_
    rw [show (0 : Int).toNat = 0 from rfl, show (((sz ss : Nat) : Int) - 1 + 1).toNat = sz ss by omega] at e1
    walk_at "rd_Fa"
    intro lr H2 S2 e2 n2
    walk_at "rd_Fa"
    have hl : (tyL ss).length = (kcs ss 0 (sz ss)).length := by rw [kcs_zero, List.length_map, List.length_range]
    refine rd_iEnZs ?_
    walk_at "rd_Fa"
    refine ⟨mkS (tyL ss), l, _, rfl, SqL.of (S2 _ _ e1), for_es (L := tyL ss) (M := kcs ss 0 (sz ss)) (fun i σ H' => ∃ v3 v4 v5, σ = [some (.ref a), some (.ref l), some (.ref lr), v3, v4, v5] ∧ Same H1 H' ∧ H' lr = some (.lst (txV ((List.range i).map (rowK ss))))) hl ⟨_, _, _, rfl, S2, e2⟩ (fun i σ H' ⟨_, _, _, _, S, _⟩ => S _ _ e1) ?_ ?_⟩
    · rintro i T T' σ H3 H4 hi ⟨v3, v4, v5, rfl, S3, er⟩ S4 eT eT'
      refine rd_gtup (SqT.of eT') rfl (rd_gcons (rd_name (rd_gcons (rd_gtup (SqT.of eT) rfl ?_))))
      have er4 := S4 _ _ er
      walk_at "rd_Fa"
      refine rd_tyL (SqL.of er4) _ ?_
      refine rd_cons ?_
      have c20 := cn_lt20 ok i
      have f4 := fmtL_len (W := 4) (gr := false) (n := i) (by omega)
      have em : (Str.empty : Str).length = 0 := rfl
      have s1 : (Str.ofString " ").length = 1 := by decide +kernel
      have ec : (kcs ss 0 (sz ss))[i]?.getD 0 = cn ss (sz ss) i := by rw [kcs_zero, List.getElem?_map, List.getElem?_range hi]; rfl
      have lc : (⟨#[(tyL ss)[i]?.getD 0]⟩ : Str).length = 1 := rfl
      rw [ec]
      refine rd_jfmt (n := i) rfl (by omega) (by rw [em]; decide) ?_
      refine rd_jlit (by simp only [str_len_app, mkS_len, em, s1]; omega) ?_
      refine rd_jvar rfl (by rw [lc]; decide) (by simp only [str_len_app, mkS_len, em, s1]; omega) ?_
      refine rd_jlit (by simp only [str_len_app, mkS_len, em, s1, lc]; omega) ?_
      refine rd_jfmt rfl c20 (by simp only [str_len_app, mkS_len, em, s1, lc]; omega) ?_
      refine rd_jnil ?_
      dsimp only
      rw [row_text (ss := ss) (k := i) (c := (tyL ss)[i]?.getD 0) rfl]
      walk_at "rd_Fa"
      refine rd_append er4 (by unfold txV; rw [List.length_map, List.length_map, List.length_range, sizeLine_eq]; omega) ?_
      refine ⟨_, _, _, rfl, Same.mut (S3.trans S4) n2, ?_⟩
      rw [upd_same, List.range_succ, List.map_append]
      unfold txV
      rw [List.map_append]
      rfl
    · rintro σ H3 ⟨v3, v4, v5, rfl, S3, er⟩
      walk_at "rd_Fa"
      refine rd_joinT er ?_ ?_
      · have h1 : (Str.ofString "\n").length = 1 := by decide +kernel
        rw [h1, List.length_map, List.length_range]
        have := sum_le_rows (L := (List.range (tyL ss).length).map (rowK ss)) (B := 120) (fun x hx => by
          obtain ⟨k, hk, rfl⟩ := List.mem_map.mp hx
          rw [List.mem_range] at hk
          exact rowK_len (by omega) (cn_lt20 ok k)) List.length 0 (fun _ => rfl)
        rw [List.length_map, List.length_range] at this
        omega
      · rw [show tl (Str.ofString "\n") = [10] by decide +kernel]
        exact k H3 (S1.trans S3)
end
section
variable {P : Program} {w : World} {K : PySem.W.Frag} {mg : Str → Option Value} {base : Heap} {CText CPart CCounter CDecoder CTextError CInvalidStep CTooLong CInvalidPlace CInvalidNumber CNotationError CInvalidCount CDecodeError : Addr}
theorem ok_x_law_number (T : Txt K mg CText CPart CCounter CDecoder CTextError CInvalidStep CTooLong CInvalidPlace CInvalidNumber CNotationError CInvalidCount CDecodeError) : GOk P w K mg base CX0 1 "_law_number" (sp_x_law_numberT ) := by
  refine T.d_x_law_number.ok sc_x_law_number (fun vs H Q E h => ?len) (fun f cdv A outer s H vs Q E hr h => ?_)
  case len => obtain ⟨L, rfl, _⟩ := h; rfl
  · obtain ⟨L, rfl, hL, h1, k⟩ := h
    refine ⟨_, (pss_one (ps_ret (pe_callTy cIntT rfl T.n_int (by decide +kernel) (pa_cons (pe_joinK (K := K) rfl pe_str (pe_lc (own := [("_law_sign", 1)]) rfl sc_x_law_number.nd (pi_str (pv 0)) (blkOk_by (own := [("_law_sign", 1)]) (N := N_x_law_number) (sc := (defScope s_x_law_number)) (by first | decide +kernel | rfl)) (fun _ _ _ _ _ => (pg_name (i := 1) sc_x_law_number.nd rfl (Or.inl rfl))) (fun _ _ _ _ _ => (pts_one (pt_cmpR (oInSign) (pv 1) pe_str rfl))) (fun _ _ _ _ _ => (pv 1)))) pa_nil)))), ?_⟩
    refine rd_startE (show start N_x_law_number [.str (mkS L)] = [some (.str (mkS L)), none] from rfl) ?_
    walk_at "rd_Fa"
    refine ⟨_, rfl, fun D hD => lc_filt (f := fun i => .str ⟨#[L[i]?.getD 0]⟩) (p := fun i => isDg (L[i]?.getD 0)) (plain_str (x := mkS L)) hD (by rw [tl_mkS, sizeLine_eq]; omega) (fun _ => rfl) (fun i H1 R1 hi S q => ?_) (fun i H1 Q1 hi hp S q => ?_) fun H1 S eD => ?_⟩
    · rw [tl_mkS]
      walk_at "rd_Fa"
      rw [isDg_in]
      exact q _ (Same.refl _)
    · rw [tl_mkS]
      walk_at "rd_Fa"
      exact q _ (Same.refl _)
    · rw [tl_mkS, filt_sg] at eD
      have hl : (digF L).length ≤ 600 := Nat.le_trans (List.length_filter_le _ _) hL
      walk_at "rd_Fa"
      refine rd_joinS eD (by show (digF L).length ≤ _; omega) ?_
      walk_at "rd_Fa"
      refine rd_intD h1 hl (fun c hc => of_decide_eq_true (List.mem_filter.mp hc).2) ?_
      walk_at "rd_Fa"
      exact k _ S
end
section
variable {P : Program} {w : World} {K : PySem.W.Frag} {mg : Str → Option Value} {base : Heap} {CText CPart CCounter CDecoder CTextError CInvalidStep CTooLong CInvalidPlace CInvalidNumber CNotationError CInvalidCount CDecodeError : Addr}
theorem ok_x_law_is_table (T : Txt K mg CText CPart CCounter CDecoder CTextError CInvalidStep CTooLong CInvalidPlace CInvalidNumber CNotationError CInvalidCount CDecodeError) : GOk P w K mg base CX0 65 "_law_is_table" (sp_x_law_is_table K CText CPart) := by
  refine T.d_x_law_is_table.ok sc_x_law_is_table (fun vs H Q E h => ?len) (fun f cdv A outer s H vs Q E hr h => ?_)
  case len => obtain ⟨a, ss, rfl, _⟩ := h; rfl
  · obtain ⟨a, ss, rfl, TT, hz1, k⟩ := h
    refine ⟨_, (pss_cons (ps_par (i := 1) (j := 2) rfl sc_x_law_is_table.nd rfl rfl (by decide) rfl rfl (pa_cons (pe_bmK (K := K) rfl PySem.F.plainAttrs_str PySem.F.slot_str_split PySem.F.type_str_split mt_split (pe_g (ok_key_table (K := K) T) (hr.mono (by decide)) pass0 (pa_cons (pv 0) pa_nil)) (pa_cons pe_str pa_nil)) (pa_cons (pe_g (ok_key_counts (K := K) T) (hr.mono (by decide)) pass0 (pa_cons (pv 0) (pa_cons pe_int (pa_cons (pe_op op_sub (pe_p (pv 0) T.cText (ok_Text_size (K := K) T) (hr.mono (by decide)) pass0) pe_int) pa_nil)))) pa_nil)) rfl)
    (pss_cons (ps_if (pt_cmpR (neK (K := K) rfl hr.units) (pe_callB (lenK (K := K) rfl) rfl T.n_len (by decide +kernel) (pa_cons (pv 1) pa_nil)) (pe_callB (lenK (K := K) rfl) rfl T.n_len (by decide +kernel) (pa_cons (pe_p (pv 0) T.cText (ok_Text_typed_keys (K := K) T) (hr.mono (by decide)) pass0) pa_nil)) (nomark _)) (pss_one (ps_ret pe_bl))
    pss_nil)
    (pss_cons (ps_for PassesOwn.never rfl (pi_range1 rfl T.n_range (pa_cons (pe_callB (lenK (K := K) rfl) rfl T.n_len (by decide +kernel) (pa_cons (pv 1) pa_nil)) pa_nil)) (pg_name (i := 3) sc_x_law_is_table.nd rfl (Or.inl rfl)) (pss_cons (ps_set (i := 4) sc_x_law_is_table.nd rfl (Or.inl rfl) (pe_ix (ixK (K := K) rfl) (pv 1) (pv 3) (fun _ _ => rfl)))
    (pss_cons (ps_if (PW.pt (pw_or (pt_cmpR (neK (K := K) rfl hr.units) (pe_callB (lenK (K := K) rfl) rfl T.n_len (by decide +kernel) (pa_cons (pv 4) pa_nil)) pe_int (nomark _)) (pw_or (pt_cmpR (neK (K := K) rfl hr.units) (pe_op (addK (K := K) rfl) (pe_ix (ixK (K := K) rfl) (pv 4) pe_int (fun _ _ => rfl)) (pe_ix (ixK (K := K) rfl) (pv 4) pe_int (fun _ _ => rfl))) pe_str (nomark _)) (pw_or1 (pt_cmpR (neK (K := K) rfl hr.units) (pe_ix (ixK (K := K) rfl) (pv 4) pe_int (fun _ _ => rfl)) (pe_ix (ixK (K := K) rfl) (pe_p (pv 0) T.cText (ok_Text_typed_keys (K := K) T) (hr.mono (by decide)) pass0) (pv 3) (fun _ _ => rfl)) (nomark _)))))) (pss_one (ps_ret pe_bl))
    pss_nil)
    (pss_one (ps_if (PW.pt (pw_or (pt_cmpR (neK (K := K) rfl hr.units) (pe_g (ok_x_law_number (K := K) T) (hr.mono (by decide)) pass0 (pa_cons (pe_slice sl_str (pv 4) po_none (po_some pe_int)) pa_nil)) (pv 3) (nomark _)) (pw_or1 (pt_cmpR (neK (K := K) rfl hr.units) (pe_g (ok_x_law_number (K := K) T) (hr.mono (by decide)) pass0 (pa_cons (pe_slice sl_str (pv 4) (po_some pe_int) po_none) pa_nil)) (pe_ix (ixK (K := K) rfl) (pv 2) (pv 3) (fun _ _ => rfl)) (nomark _))))) (pss_one (ps_ret pe_bl))
    pss_nil)))))
    (pss_one (ps_ret pe_bl))))), ?_⟩
    refine rd_startE (show start N_x_law_is_table [.ref a] = [some (.ref a), none, none, none, none] from rfl) ?_
    have ok := TT.ok
    have ty := tyL_600 TT
    have z18 := sz_le ok
    have ty1 := ty_pos (n := 0) ok hz1
    walk_at "rd_Fa"
    refine rd_keyTable TT fun H1 S1 => ?_
    walk_at "rd_Fa"
    refine rd_tyS ?_
    walk_at "rd_Fa"
    have rl : ∀ x ∈ (List.range (tyL ss).length).map (rowK ss), x.length ≤ 120 ∧ 10 ∉ x := fun x hx => by
      obtain ⟨i, hi, rfl⟩ := List.mem_map.mp hx
      have hi := List.mem_range.mp hi
      have ll := lat_let ok hi
      exact ⟨rowK_len (by omega) (cn_lt20 ok i), rowK_no10 (by omega)⟩
    have tl0 : (tabL ss).length ≤ 100000 := by
      have h := joinL_len [10] ((List.range (tyL ss).length).map (rowK ss))
      have g := sum_le_rows (L := (List.range (tyL ss).length).map (rowK ss)) (B := 120) (fun x hx => (rl x hx).1) (fun x => x.length + [10].length) 1 (fun x => rfl)
      rw [List.length_map, List.length_range] at g
      have := Nat.mul_le_mul_right 121 ty
      exact Nat.le_trans h (by omega)
    refine rd_split (ws := (List.range (tyL ss).length).map (rowK ss)) nl_tl (by decide +kernel) (fun z => by have := congrArg List.length z; simp at this; rw [this] at ty1; simp at ty1) (fun x hx => (rl x hx).2) (by show (tabL ss).length ≤ _; omega) fun l H2 S2 n2 e2 => ?_
    walk_at "rd_Fa"
    refine rd_keyCounts (TT.kp (Kp.same (S1.trans S2))) (by decide) (by omega) (by omega) fun lc H3 S3 e3 => ?_
    rw [show (0 : Int).toNat = 0 from rfl, show (((sz ss : Nat) : Int) - 1 + 1).toNat = sz ss by omega, kcs_zero] at e3
    have e2 := S3 _ _ e2
    have T3 := TT.kp (Kp.same ((S1.trans S2).trans S3))
    walk_at "rd_Fa"
    refine rd_lenL e2 ?_
    rw [txV_len, List.length_map, List.length_range]
    walk_at "rd_Fa"
    refine rd_lenL e2 ?_
    rw [txV_len, List.length_map, List.length_range]
    walk_at "rd_Fa"
    refine ⟨_, rfl, by omega, by omega, for_range (n := (tyL ss).length) (fun i σ H' => ∃ v3 v4, σ = [some (.ref a), some (.ref l), some (.ref lc), v3, v4] ∧ Same H3 H') ⟨_, _, rfl, Same.refl _⟩ ?_ ?_⟩
    · rintro i σ H4 hi ⟨v3, v4, rfl, S4⟩
      have e2 := S4 _ _ e2
      have e3 := S4 _ _ e3
      have T4 := T3.kp (Kp.same S4)
      rw [show (0 : Int) + (i : Nat) = (i : Nat) by omega]
      have c18 : cn ss (sz ss) i ≤ 1000000000000000000 := by
        have : cn ss (sz ss) i ≤ sz ss := by rw [cn_all ok]; exact Nat.le_trans List.count_le_length (Nat.le_of_eq (ks_len ok))
        omega
      have k4 : i < 10000 := by omega
      have r33 := rowK_33 (ss := ss) k4 c18
      walk_at "rd_Fa"
      refine rd_ixW e2 (w := rowK ss i) (by rw [List.getElem?_map, List.getElem?_range hi]; rfl) ?_
      walk_at "rd_Fa"
      refine rd_add_str (x := ⟨#[(rowK ss i)[Int.toNat 4]?.getD 0]⟩) (y := ⟨#[(rowK ss i)[Int.toNat 6]?.getD 0]⟩) (by show 1 + 1 ≤ _; rw [sizeLine_eq]; decide) ?_
      walk_at "rd_Fa"
      have e2s : ((⟨#[(rowK ss i)[Int.toNat 4]?.getD 0]⟩ : Str) ++ (⟨#[(rowK ss i)[Int.toNat 6]?.getD 0]⟩ : Str)) = Str.ofString "  " := by
        rw [show Int.toNat 4 = 4 from rfl, show Int.toNat 6 = 6 from rfl, rowK_4 k4, rowK_6 k4]
        decide +kernel
      rw [e2s]
      walk_at "rd_Fa"
      have e5 : (⟨#[(rowK ss i)[Int.toNat 5]?.getD 0]⟩ : Str) = ⟨#[(tyL ss)[((i : Nat) : Int).toNat]?.getD 0]⟩ := by
        rw [show Int.toNat 5 = 5 from rfl, rowK_5 k4, Int.toNat_natCast]; rfl
      rw [decide_eq_true e5]
      walk_at "rd_Fa"
      refine rd_slST (j := 4) (by omega) (by decide) ?_
      walk_at "rd_Fa"
      have d4 := digF_t4 (ss := ss) k4
      have d7 := digF_d7 (ss := ss) k4
      refine rd_numT (by rw [List.length_take]; omega) (by rw [show Int.toNat 4 = 4 from rfl, d4]; exact numL_pos i) fun H5 S5 => ?_
      rw [show Int.toNat 4 = 4 from rfl, d4, numV_numL]
      have e3 := S5 _ _ e3
      walk_at "rd_Fa"
      refine rd_slSF (j := 7) (by omega) ?_
      walk_at "rd_Fa"
      refine rd_numT (by rw [List.length_drop]; omega) (by rw [d7]; exact numL_pos _) fun H6 S6 => ?_
      rw [d7, numV_numL]
      have e3 := S6 _ _ e3
      walk_at "rd_Fa"
      refine rd_ixNn e3 (o := i) (n := cn ss (sz ss) i) (by rw [List.getElem?_map, List.getElem?_range hi]; rfl) ?_
      walk_at "rd_Fa"
      exact ⟨_, _, rfl, (S4.trans S5).trans S6⟩
    · rintro σ H4 ⟨v3, v4, rfl, S4⟩
      walk_at "rd_Fa"
      exact k _ (((S1.trans S2).trans S3).trans S4)
end
section
variable {P : Program} {w : World} {K : PySem.W.Frag} {mg : Str → Option Value} {base : Heap} {CText CPart CCounter CDecoder CTextError CInvalidStep CTooLong CInvalidPlace CInvalidNumber CNotationError CInvalidCount CDecodeError : Addr}
theorem ok_x_law_is_written (T : Txt K mg CText CPart CCounter CDecoder CTextError CInvalidStep CTooLong CInvalidPlace CInvalidNumber CNotationError CInvalidCount CDecodeError) : GOk P w K mg base CX0 8 "_law_is_written" (sp_x_law_is_written K CText CPart) := by
  refine T.d_x_law_is_written.ok sc_x_law_is_written (fun vs H Q E h => ?len) (fun f cdv A outer s H vs Q E hr h => ?_)
  case len => obtain ⟨a, ss, rfl, _⟩ := h; rfl
  · obtain ⟨a, ss, rfl, TT, hz1, k⟩ := h
    refine ⟨_, (pss_cons (ps_par (i := 1) (j := 2) rfl sc_x_law_is_written.nd rfl rfl (by decide) rfl rfl (pa_cons (pe_bmK (K := K) rfl PySem.F.plainAttrs_str PySem.F.slot_str_split PySem.F.type_str_split mt_split (pe_g (ok_format_text (K := K) T) (hr.mono (by decide)) pass0 (pa_cons (pv 0) pa_nil)) (pa_cons pe_str pa_nil)) (pa_cons (pe_g (ok_unpack_bytes (K := K) T) (hr.mono (by decide)) pass0 (pa_cons (pe_g (ok_encode_text (K := K) T) (hr.mono (by decide)) pass0 (pa_cons (pv 0) pa_nil)) pa_nil)) pa_nil)) rfl)
    (pss_cons (ps_if (PW.pt (pw_or (pt_not (pt_cmpR (oEqOK (K := K) rfl (ok_Text_eq (K := K) T) (hr.mono (by decide)) pass0) (pe_g (ok_parse_text (K := K) T) (hr.mono (by decide)) pass0 (pa_cons (pe_joinK (K := K) rfl pe_str (pv 1)) pa_nil)) (pv 0) (nomark _))) (pw_or1 (pt_not (pt_cmpR (oEqOK (K := K) rfl (ok_Text_eq (K := K) T) (hr.mono (by decide)) pass0) (pe_g (ok_decode_text (K := K) T) (hr.mono (by decide)) pass0 (pa_cons (pe_g (ok_encode_text (K := K) T) (hr.mono (by decide)) pass0 (pa_cons (pv 0) pa_nil)) pa_nil)) (pv 0) (nomark _)))))) (pss_one (ps_ret pe_bl))
    pss_nil)
    (pss_cons (ps_if (pt_cmpR (neK (K := K) rfl hr.units) (pe_callB (lenK (K := K) rfl) rfl T.n_len (by decide +kernel) (pa_cons (pv 1) pa_nil)) (pe_callB (lenK (K := K) rfl) rfl T.n_len (by decide +kernel) (pa_cons (pe_p (pv 0) T.cText (ok_Text_steps (K := K) T) (hr.mono (by decide)) pass0) pa_nil)) (nomark _)) (pss_one (ps_ret pe_bl))
    pss_nil)
    (pss_cons (ps_for PassesOwn.never rfl (pi_range1 rfl T.n_range (pa_cons (pe_callB (lenK (K := K) rfl) rfl T.n_len (by decide +kernel) (pa_cons (pv 1) pa_nil)) pa_nil)) (pg_name (i := 3) sc_x_law_is_written.nd rfl (Or.inl rfl)) (pss_one (ps_if (pt_cmpR (neK (K := K) rfl hr.units) (pe_bmK (K := K) rfl PySem.F.plainAttrs_str PySem.F.slot_str_split PySem.F.type_str_split mt_split (pe_ix (ixK (K := K) rfl) (pv 1) (pv 3) (fun _ _ => rfl)) (pa_cons pe_str pa_nil)) (pe_lc (own := [("_law_part", 4)]) rfl sc_x_law_is_written.nd (pi_tupK (K := K) rfl (pe_ix (ixK (K := K) rfl) (pe_p (pv 0) T.cText (ok_Text_steps (K := K) T) (hr.mono (by decide)) pass0) (pv 3) (fun _ _ => rfl))) (blkOk_by (own := [("_law_part", 4)]) (N := N_x_law_is_written) (sc := (defScope s_x_law_is_written)) (by first | decide +kernel | rfl)) (fun _ _ _ _ _ => (pg_name (i := 4) sc_x_law_is_written.nd rfl (Or.inl rfl))) (fun _ _ _ _ _ => pts_nil) (fun _ _ _ _ _ => (pe_callTy cStrA rfl T.n_str (by decide +kernel) (pa_cons (pv 4) pa_nil)))) (nomark _)) (pss_one (ps_ret pe_bl))
    pss_nil)))
    (pss_one (ps_ret (pe_and (pe_cmpR (eqK (K := K) rfl hr.units) (pe_g (ok_pack_bytes (K := K) T) (hr.mono (by decide)) pass0 (pa_cons (pv 2) pa_nil)) (pe_g (ok_encode_text (K := K) T) (hr.mono (by decide)) pass0 (pa_cons (pv 0) pa_nil)) (nomark _)) (pe_one (pe_cmpR (eqK (K := K) rfl hr.units) (pe_slice (slK (K := K) rfl) (pv 2) po_none (po_some pe_int)) (pe_lst (pa_cons pe_int (pa_cons (pe_callB (lenK (K := K) rfl) rfl T.n_len (by decide +kernel) (pa_cons (pv 1) pa_nil)) pa_nil))) (nomark _)))))))))), ?_⟩
    refine rd_startE (show start N_x_law_is_written [.ref a] = [some (.ref a), none, none, none, none] from rfl) ?_
    have ok := TT.ok
    have few := TT.few
    have z18 := sz_le ok
    walk_at "rd_Fa"
    refine ⟨a, ss, rfl, TT, fun H1 S1 => ?_⟩
    refine rd_tyS ?_
    walk_at "rd_Fa"
    have hrr := rows_ss hz1
    have fl := fmt_len ok few
    have no10 : ∀ w ∈ (ss.map wrdL).map rowL, 10 ∉ w := okWs_rows fun r hr => by
      obtain ⟨s, hs, rfl⟩ := List.mem_map.mp hr
      obtain ⟨i, hi⟩ := List.getElem?_of_mem hs
      have o := ok_at ok hi
      exact wrd_okWs o.1 (by omega)
    refine rd_split (ws := (ss.map wrdL).map rowL) nl_tl (by decide +kernel) (fun z => by have := congrArg List.length z; simp at this; rw [this] at hz1; simp at hz1) no10 (by show (fmtT ss).length ≤ _; omega) fun l H2 S2 n2 e2 => ?_
    walk_at "rd_Fa"
    refine rd_encode (TT.kp (Kp.same (S1.trans S2))) fun H3 S3 => ?_
    walk_at "rd_Fa"
    have h8 := encT_Byt ok few
    refine rd_unpack h8 fun lv H4 S4 n4 e4 => ?_
    have e2 := S4 _ _ (S3 _ _ e2)
    have S14 := ((S1.trans S2).trans S3).trans S4
    clear S1 S2 S3 S4
    walk_at "rd_Fa"
    refine rd_joinT e2 ?_ ?_
    · rw [show (Str.ofString "\n").length = 1 by decide +kernel, List.length_map, List.length_map, List.map_map]
      have := fmt_sum ok
      rw [List.map_map] at this
      have e : ((List.length ∘ rowL) ∘ wrdL) = List.length ∘ fun s => rowL (wrdL s) := rfl
      rw [List.map_map, e]
      omega
    rw [nl_tl]
    walk_at "rd_Fa"
    refine rd_parse17 (ss := ss) hz1 ok few fun x H5 S5 n5 T5 => ?_
    walk_at "rd_Fa"
    refine rd_encode (TT.kp (Kp.same (S14.trans S5))) fun H6 S6 => ?_
    walk_at "rd_Fa"
    refine rd_decode0 ok few fun y H7 S7 n7 T7 => ?_
    have S17 := ((S14.trans S5).trans S6).trans S7
    have e2 := S7 _ _ (S6 _ _ (S5 _ _ e2))
    have e4 := S7 _ _ (S6 _ _ (S5 _ _ e4))
    have TT7 := TT.kp (Kp.same S17)
    walk_at "rd_Fa"
    refine rd_lenL e2 ?_
    rw [txV_len, List.length_map, List.length_map]
    walk_at "rd_Fa"
    intro p ⟨ms, hm, hst⟩
    walk_at "rd_Fa"
    refine rd_len_tup hm ?_
    rw [hst.1]
    walk_at "rd_Fa"
    refine rd_lenL e2 ?_
    rw [txV_len, List.length_map, List.length_map]
    walk_at "rd_Fa"
    refine ⟨_, rfl, by omega, by omega, for_range (n := ss.length) (fun i σ H' => ∃ v3 v4, σ = [some (.ref a), some (.ref l), some (.ref lv), v3, v4] ∧ Same H7 H') ⟨_, _, rfl, Same.refl _⟩ ?_ ?_⟩
    · rintro i σ H8 hi ⟨v3, v4, rfl, S8⟩
      rw [show (0 : Int) + (i : Nat) = (i : Nat) by omega]
      have e2 := S8 _ _ e2
      have TT8 := TT7.kp (Kp.same S8)
      have hgi := List.getElem?_eq_getElem hi
      have oi := ok_at ok hgi
      have oks := oi.1
      have hsz : sz (ss.take i) ≤ 1000000000000000000 := by omega
      generalize ss[i] = st at hgi oks
      walk_at "rd_Fa"
      refine rd_ixW e2 (w := rowL (wrdL st)) (by rw [List.getElem?_map, List.getElem?_map, hgi]; rfl) ?_
      walk_at "rd_Fa"
      refine rd_tyS ?_
      walk_at "rd_Fa"
      have wl := wrd_len oks hsz
      have okw := wrd_okWs oks hsz
      refine rd_split (ws := wrdL st) sp_tl (by decide +kernel) okw.1 (fun w hw => (okw.2 w hw).1) (by show (rowL (wrdL st)).length ≤ _; omega) fun lw H9 S9 n9 e9 => ?_
      walk_at "rd_Fa"
      intro p10 ⟨ms10, hm10, hst10⟩
      walk_at "rd_Fa"
      obtain ⟨v, hv, b, rfl, hq⟩ := hst10.2 i st hgi
      refine rd_ixTn hm10 hv ⟨b, rfl, ⟨_, hq⟩, fun D hD => lc_fun (plain_tup hq) hD (by have := stV_len4 st; rw [sizeLine_eq]; omega) (fun _ => rfl) (fun j => .str (mkS ((wrdL st)[j]?.getD []))) (fun j Hb Qb hj Sb q2 => ?_) fun He Se ee => ?_⟩
      · walk_at "rd_Fa"
        exact rd_strPart oks hsz hj (q2 _ (Same.refl _))
      · walk_at "rd_Fa"
        rw [txV_words] at ee
        refine rd_neRW (Se _ _ e9) ee (fun w hw => w47_wrd oks hsz w hw) ?_
        walk_at "rd_Fa"
        exact ⟨_, _, rfl, (S8.trans S9).trans Se⟩
    · rintro σ H8 ⟨v3, v4, rfl, S8⟩
      have e2 := S8 _ _ e2
      have e4 := S8 _ _ e4
      have TT8 := TT7.kp (Kp.same S8)
      walk_at "rd_Fa"
      refine rd_pack0 e4 h8 fun H9 S9 => ?_
      walk_at "rd_Fa"
      refine rd_encode (TT8.kp (Kp.same S9)) fun H10 S10 => ?_
      walk_at "rd_Fa"
      refine rd_eq_scal rfl ?_
      rw [decide_eq_true rfl]
      walk_at "rd_Fa"
      have S10' := S9.trans S10
      refine rd_slNto (j := 2) (S10' _ _ e4) fun p11 H11 S11 e11 => ?_
      walk_at "rd_Fa"
      refine rd_lenL (S11 _ _ (S10' _ _ e2)) ?_
      rw [txV_len, List.length_map, List.length_map]
      walk_at "rd_Fa"
      intro p12 H12 S12 e12 _
      refine rd_eqNN (M := [80, ss.length]) (S12 _ _ e11) e12 ?_
      rw [enc_02 hz1, decide_eq_true rfl]
      exact k _ ((((S17.trans S8).trans S10').trans S11).trans S12)
end
local macro_rules | `(tactic| walk_at "rd1_law17") => `(tactic| walk_at "rd1_Fa")
local macro_rules | `(tactic| walk_at "rd_law17") => `(tactic| repeat walk_at "rd1_law17")
local macro_rules | `(tactic| walk_at "rdS_law17") => `(tactic| repeat ((fail_if_success with_reducible show tIfS _ _ _ _ _ _); walk_at "rd1_law17"))
local macro_rules | `(tactic| walk_at "rd1_law17") => `(tactic| first
  | with_reducible refine rd_par ?_ | with_reducible refine rd_two ?_ | with_reducible refine rd_lc ?_ | with_reducible refine rd_iRng1 ?_ | with_reducible refine rd_for ?_
  | ((with_reducible refine' rd_long ?k1 ?_); (case k1 => walk_at "row_Fa"))
  | ((with_reducible refine' rd_stepsQ ?k1 ?k2 ?k3 ?k4 ?k5 ?_); (case k1 => walk_at "row_Fa"); (case k2 => omega); (case k3 => omega); (case k4 => omega); (case k5 => omega)))
section
variable {P : Program} {w : World} {K : PySem.W.Frag} {mg : Str → Option Value} {base : Heap} {CText CPart CCounter CDecoder CTextError CInvalidStep CTooLong CInvalidPlace CInvalidNumber CNotationError CInvalidCount CDecodeError : Addr}
theorem ok_law (T : Txt K mg CText CPart CCounter CDecoder CTextError CInvalidStep CTooLong CInvalidPlace CInvalidNumber CNotationError CInvalidCount CDecodeError) {f : Addr} {fd : FuncData} (F : Fun K "law" "law" s_law f fd) : FnOk P w K mg base CX0 66 f fd ["_law_script"] (sp_law K) := by
  refine F.ok sc_law (fun vs H Q E h => ?len) (fun cdv A outer s H vs Q E hr h => ?_)
  case len => obtain ⟨a, sc, rfl, _⟩ := h; rfl
  · obtain ⟨a, sc, rfl, ha, k⟩ := h
    refine ⟨_, (pss_cons (ps_set (i := 1) sc_law.nd rfl (Or.inr rfl) (pe_lst (pa_cons (pv 0) (pa_cons pe_int (pa_cons pe_int (pa_cons pe_int pa_nil))))))
    (pss_cons (ps_for PassesOwn.never rfl (pi_range1 rfl T.n_range (pa_cons pe_int pa_nil)) (pg_name (i := 2) sc_law.nd rfl (Or.inl rfl)) (pss_cons (ps_par (i := 3) (j := 4) rfl sc_law.nd rfl rfl (by decide) rfl rfl (pa_cons (pe_c (pe_glob (v := .ref CText) rfl T.g_Text rfl) (ok_Text_of_steps (K := K) T) (hr.mono (by decide)) pass0 (pa_cons (pe_callTy (listK (K := K) rfl) rfl T.n_list (by decide +kernel) (pa_cons (pe_g (ok_x_law_steps (K := K) T) (hr.mono (by decide)) pass0 (pa_cons (pv 1) (pa_cons (pe_op (addK (K := K) rfl) pe_int (pe_g (ok_x_law_taken (K := K) T) (hr.mono (by decide)) pass0 (pa_cons (pv 1) (pa_cons pe_int pa_nil)))) (pa_cons pe_int pa_nil)))) pa_nil)) pa_nil)) (pa_cons (pe_g (ok_x_law_long (K := K) T) (hr.mono (by decide)) pass0 (pa_cons (pv 1) pa_nil)) pa_nil)) rfl)
    (pss_cons (ps_set (i := 5) sc_law.nd rfl (Or.inl rfl) (pe_c (pe_glob (v := .ref CText) rfl T.g_Text rfl) (ok_Text_of_steps (K := K) T) (hr.mono (by decide)) pass0 (pa_cons (pe_lc (own := [("_law_k", 6)]) rfl sc_law.nd (pi_range1 rfl T.n_range (pa_cons (pe_op (addK (K := K) rfl) pe_int (pe_g (ok_x_law_taken (K := K) T) (hr.mono (by decide)) pass0 (pa_cons (pv 1) (pa_cons pe_int pa_nil)))) pa_nil)) (blkOk_by (own := [("_law_k", 6)]) (N := N_law) (sc := (defScope s_law)) (by first | decide +kernel | rfl)) (fun _ _ _ _ _ => (pg_name (i := 6) sc_law.nd rfl (Or.inl rfl))) (fun _ _ _ _ _ => pts_nil) (fun _ _ _ _ _ => (pe_tup (pa_cons pe_str (pa_cons (pe_g (ok_x_law_word (K := K) T) (hr.mono (by decide)) pass0 (pa_cons (pv 1) (pa_cons pe_int pa_nil))) pa_nil))))) pa_nil)))
    (pss_cons (ps_for PassesOwn.never rfl (pi_tupK (K := K) rfl (pe_tup (pa_cons (pv 3) (pa_cons (pv 4) (pa_cons (pv 5) (pa_cons (pe_op (oOwn (ok_Text_add (K := K) T) (hr.mono (by decide)) pass0) (pv 3) (pv 5)) (pa_cons (pe_op (oOwn (ok_Text_add (K := K) T) (hr.mono (by decide)) pass0) (pv 4) (pv 5)) pa_nil))))))) (pg_name (i := 7) sc_law.nd rfl (Or.inl rfl)) (pss_one (ps_if (PW.pt (pw_or (pt_not (pt_val (pe_g (ok_x_law_is_written (K := K) T) (hr.mono (by decide)) pass0 (pa_cons (pv 7) pa_nil)))) (pw_or1 (pt_not (pt_val (pe_g (ok_x_law_is_table (K := K) T) (hr.mono (by decide)) pass0 (pa_cons (pv 7) pa_nil))))))) (pss_one (ps_ret pe_bl))
    pss_nil)))
    (pss_cons (ps_if (pt_cmpR (neK (K := K) rfl hr.units) (pe_g (ok_format_text (K := K) T) (hr.mono (by decide)) pass0 (pa_cons (pe_op (oOwn (ok_Text_add (K := K) T) (hr.mono (by decide)) pass0) (pv 3) (pv 5)) pa_nil)) (pe_op (addK (K := K) rfl) (pe_op (addK (K := K) rfl) (pe_g (ok_format_text (K := K) T) (hr.mono (by decide)) pass0 (pa_cons (pv 3) pa_nil)) pe_str) (pe_g (ok_format_text (K := K) T) (hr.mono (by decide)) pass0 (pa_cons (pv 5) pa_nil))) (nomark _)) (pss_one (ps_ret pe_bl))
    pss_nil)
    (pss_cons (ps_setLc (i := 8) (own := [("_law_text", 7)]) rfl sc_law.nd rfl rfl (sw_true rfl rfl rfl (by decide +kernel)) (pi_tupK (K := K) rfl (pe_tup (pa_cons (pv 4) (pa_cons (pv 5) (pa_cons (pe_op (oOwn (ok_Text_add (K := K) T) (hr.mono (by decide)) pass0) (pv 4) (pv 5)) pa_nil))))) (blkOk_by (own := [("_law_text", 7)]) (N := N_law) (sc := (defScope s_law)) (by first | decide +kernel | rfl)) (fun _ _ _ _ _ => (pg_name (i := 7) sc_law.nd rfl (Or.inl rfl))) (fun _ _ _ _ _ => pts_nil) (fun _ _ _ _ _ => (pe_callB (lenK (K := K) rfl) rfl T.n_len (by decide +kernel) (pa_cons (pe_g (ok_unpack_bytes (K := K) T) (hr.mono (by decide)) pass0 (pa_cons (pe_g (ok_encode_text (K := K) T) (hr.mono (by decide)) pass0 (pa_cons (pv 7) pa_nil)) pa_nil)) pa_nil))))
    (pss_cons (ps_if (PW.pt (pw_or (pt_cmpR (neK (K := K) rfl hr.units) (pe_ix (ixK (K := K) rfl) (pv 8) pe_int (fun _ _ => rfl)) (pe_op op_sub (pe_op (addK (K := K) rfl) (pe_ix (ixK (K := K) rfl) (pv 8) pe_int (fun _ _ => rfl)) (pe_ix (ixK (K := K) rfl) (pv 8) pe_int (fun _ _ => rfl))) pe_int) (nomark _)) (pw_or (pt_cmpR (neK (K := K) rfl hr.units) (pe_g (ok_format_text (K := K) T) (hr.mono (by decide)) pass0 (pa_cons (pe_k0 (ok_Text_init (K := K) T) (hr.mono (by decide)) T.g_Text pass0) pa_nil)) pe_str (nomark _)) (pw_or1 (pt_not (pt_cmpR (oEqOK (K := K) rfl (ok_Text_eq (K := K) T) (hr.mono (by decide)) pass0) (pe_g (ok_parse_text (K := K) T) (hr.mono (by decide)) pass0 (pa_cons pe_str pa_nil)) (pe_k0 (ok_Text_init (K := K) T) (hr.mono (by decide)) T.g_Text pass0) (nomark _))))))) (pss_one (ps_ret pe_bl))
    pss_nil)
    (pss_cons (ps_set (i := 9) sc_law.nd rfl (Or.inl rfl) (pe_g (ok_unpack_bytes (K := K) T) (hr.mono (by decide)) pass0 (pa_cons (pe_g (ok_encode_text (K := K) T) (hr.mono (by decide)) pass0 (pa_cons (pv 5) pa_nil)) pa_nil)))
    (pss_one (ps_if (pt_cmpR (neK (K := K) rfl hr.units) (pe_slice (slK (K := K) rfl) (pv 9) (po_some pe_int) (po_some pe_int)) (pe_lst (pa_cons pe_int (pa_cons (pe_callB (lenK (K := K) rfl) rfl T.n_len (by decide +kernel) (pa_cons (pe_ix (ixK (K := K) rfl) (pe_ix (ixK (K := K) rfl) (pe_p (pv 5) T.cText (ok_Text_steps (K := K) T) (hr.mono (by decide)) pass0) pe_int (fun _ _ => rfl)) pe_int (fun _ _ => rfl)) pa_nil)) pa_nil))) (nomark _)) (pss_one (ps_ret pe_bl))
    pss_nil))))))))))
    (pss_one (ps_ret pe_bl)))), ?_⟩
    refine rd_startE (show start N_law [.ref a] = [some (.ref a), none, none, none, none, none, none, none, none, none] from rfl) ?_
    walk_at "rd_law17"
    intro r H0 S0 e0 _
    have row0 : RowAt K H0 r := ⟨a, sc, 0, 0, 0, e0, S0.seq ha⟩
    walk_at "rd_law17"
    refine ⟨2, rfl, by omega, by omega, ?_⟩
    refine for_range (fun i σ H' => ∃ v2 v3 v4 v5 v7 v8 v9, σ = [some (.ref a), some (.ref r), v2, v3, v4, v5, none, v7, v8, v9] ∧ RowAt K H' r) ⟨_, _, _, _, _, _, _, rfl, row0⟩ ?_ ?_
    · rintro i σ H1 hi ⟨v2, v3, v4, v5, v7, v8, v9, rfl, row1⟩
      walk_at "rd_law17"
      intro n2 H2 h2 k2 row2
      walk_at "rd_law17"
      intro p3 ss1 H3 k3 row3 q3 ok3 few3 hz3 hp3 hL3
      walk_at "rd_law17"
      intro l4 H4 S4 x4
      walk_at "rd_law17"
      intro a5 H5 S5 T5
      walk_at "rd_law17"
      intro b7 ss2 H7 k7 row7 T7 z1 z2 z3 L7
      walk_at "rd_law17"
      intro n8 H8 h8 k8 row8
      walk_at "rd_law17"
      refine ⟨_, rfl, by omega, by omega, fun D hD => lc_wrs (n := (1 + (n8 : Int)).toNat) (fun H _ => plain_rng) hD (by rw [sizeLine_eq]; omega) (fun _ => rfl) row8 (fun j Hb Qb hj kb rowb q => ?_) fun H9 ms9 us k9 row9 e9 st9 ul uw => ?_⟩
      · walk_at "rd_law17"
        intro wd Hc ow kc rowc
        walk_at "rd_law17"
        intro p Hd Sd ed _
        exact q wd p Hd (kc.trans (Kp.same Sd)) (rowc.mono Sd) ow ed
      have x9 : SX K H9 D (us.map Stp.wr) := ⟨ms9, .inr e9, st9⟩
      have ok9 := ok_usW us 0 (by omega) uw
      have few9 : (us.map Stp.wr).length ≤ 4 := by rw [List.length_map]; omega
      have pos9 : 1 ≤ (us.map Stp.wr).length := by rw [List.length_map]; omega
      have sz9 := sz_usW us uw
      obtain ⟨ts, hts⟩ : ∃ ts, ts = us.map Stp.wr := ⟨_, rfl⟩
      rw [← hts] at x9 ok9 few9 pos9 sz9
      walk_at "rd_law17"
      intro t10 H10 S10 T10
      have k10 : Kp H7 H10 := (k8.trans k9).trans (Kp.same S10)
      have T1 := T5.kp (k7.trans k10)
      have T2 := T7.kp k10
      have row10 := row9.mono S10
      have pos1 : 1 ≤ ss1.length := by
        cases ss1 with
        | nil => have := hp3 (by omega); simp [sz] at this
        | cons => simp
      have pos2 : 1 ≤ ss2.length := by
        cases ss2 with
        | nil => simp [sz] at z1
        | cons => simp
      have zs1 := hp3 (by omega)
      clear x9 e9 st9 k9 row9 k8 row8 S10 x4 T5 S4 S5 T7 k7 row7 q3 k3 row3 k2 row2 row1 L7 hL3 k10
      have ok1 := T1.ok
      have ok2 := T2.ok
      have j1 := sz_join ss1 ts
      have j2 := sz_join ss2 ts
      have l1 := join_length ss1 ts
      have l2 := join_length ss2 ts
      walk_at "rd_law17"
      intro p11 H11 S11 T11
      walk_at "rd_law17"
      intro p12 H12 S12 T12
      walk_at "rd_law17"
      intro p13 H13 S13 e13 _
      have S03 := (S11.trans S12).trans S13
      have T1 := T1.kp (Kp.same S03)
      have T2 := T2.kp (Kp.same S03)
      have T3 := T10.kp (Kp.same S03)
      have T4 := T11.kp (Kp.same (S12.trans S13))
      have T5 := T12.kp (Kp.same S13)
      have row13 := row10.mono S03
      clear T10 T11 T12 S11 S12 S13 row10 S03
      have J1 := join_wr (ss := ss1) hts
      have J2 := join_wr (ss := ss2) hts
      have tx5 : ∀ (j : Nat) (v : V), [V.ref a5, .ref b7, .ref t10, .ref p11, .ref p12][j]? = some v → ∃ u tt, v = .ref u ∧ TX K CText CPart H13 u tt ∧ 1 ≤ tt.length ∧ 1 ≤ sz tt := fun j v hv => by
        match j, hv with
        | 0, hv => cases hv; exact ⟨_, _, rfl, T1, pos1, zs1⟩
        | 1, hv => cases hv; exact ⟨_, _, rfl, T2, pos2, z1⟩
        | 2, hv => cases hv; exact ⟨_, _, rfl, T3, pos9, by omega⟩
        | 3, hv => cases hv; exact ⟨_, _, rfl, T4, by omega, by omega⟩
        | 4, hv => cases hv; exact ⟨_, _, rfl, T5, by omega, by omega⟩
        | j + 5, hv => simp at hv
      refine ⟨p13, rfl, ⟨_, SqT.of e13⟩, for_plain (n := 5) (fun j σ H' => ∃ v7, σ = [some (.ref a), some (.ref r), some (.int (0 + (i : Nat))), some (.ref a5), some (.ref b7), some (.ref t10), none, v7, v8, v9] ∧ Same H13 H') ⟨_, rfl, Same.refl _⟩ (fun j σ H' hj ⟨_, _, S⟩ => plain_tup (Same.tup S (SqT.of e13))) ?_ ?_⟩
      · rintro j σ H14 hj ⟨v7, rfl, S14⟩
        obtain ⟨v, hv⟩ : ∃ v, [V.ref a5, .ref b7, .ref t10, .ref p11, .ref p12][j]? = some v := ⟨_, List.getElem?_eq_getElem (by simpa using hj)⟩
        obtain ⟨u, tt, rfl, Tu, l0, zz⟩ := tx5 j v hv
        rw [hv]
        have Tu := Tu.kp (Kp.same S14)
        walk_at "rd_law17"
        refine rd_isWritten Tu l0 fun H15 S15 => ?_
        walk_at "rd_law17"
        refine rd_isTable (Tu.kp (Kp.same S15)) zz fun H16 S16 => ?_
        walk_at "rd_law17"
        exact ⟨_, rfl, (S14.trans S15).trans S16⟩
      rintro σ H14 ⟨v7, rfl, S14⟩
      have T1 := T1.kp (Kp.same S14)
      have T2 := T2.kp (Kp.same S14)
      have T3 := T3.kp (Kp.same S14)
      have row14 := row13.mono S14
      clear tx5 T4 T5 S14 row13 e13
      walk_at "rd_law17"
      intro p15 H15 S15 T15
      rw [J1] at T15
      have f1 := fmt_len ok1 T1.few
      have f3 := fmt_len ok9 T3.few
      have nl1 : (Str.ofString "\n").length = 1 := by decide +kernel
      walk_at "rd_law17"
      refine ⟨p15, _, rfl, T15, fun H16 S16 => ?_⟩
      walk_at "rd_law17"
      refine ⟨a5, ss1, rfl, T1.kp (Kp.same (S15.trans S16)), fun H17 S17 => ?_⟩
      walk_at "rd_law17"
      refine rd_add_str (by rw [mkS_len, nl1, sizeLine_eq]; omega) ?_
      walk_at "rd_law17"
      have S147 := (S15.trans S16).trans S17
      refine ⟨t10, ts, rfl, T3.kp (Kp.same S147), fun H18 S18 => ?_⟩
      walk_at "rd_law17"
      refine rd_add_str (by rw [str_len_app, mkS_len, nl1, mkS_len, sizeLine_eq]; omega) ?_
      have ef : ((mkS (fmtT ss1)) ++ (Str.ofString "\n")) ++ mkS (fmtT ts) = mkS (fmtT (ss1 ++ ts)) := by
        apply ext_tl
        rw [tl_append, tl_append, tl_mkS, tl_mkS, tl_mkS, nl_tl, fmt_app pos1 pos9, List.append_assoc]
      rw [ef]
      have S148 := S147.trans S18
      have T2 := T2.kp (Kp.same S148)
      have T3 := T3.kp (Kp.same S148)
      have row18 := row14.mono S148
      clear T1 T15 S15 S16 S17 S147 S148 S18 row14 ef
      walk_at "rd_law17"
      intro p19 H19 S19 T19
      rw [J2] at T19
      walk_at "rd_law17"
      intro p20 H20 S20 e20 _
      have T2 := T2.kp (Kp.same (S19.trans S20))
      have T3 := T3.kp (Kp.same (S19.trans S20))
      have T19 := T19.kp (Kp.same S20)
      have row20 := row18.mono (S19.trans S20)
      have few2 := T2.few
      have few19 := T19.few
      have ok19 := T19.ok
      have tx3 : ∀ (j : Nat) (v : V), [V.ref b7, .ref t10, .ref p19][j]? = some v → ∃ u tt, v = .ref u ∧ TX K CText CPart H20 u tt ∧ [(encT ss2).length, (encT ts).length, (encT (ss2 ++ ts)).length][j]?.getD 0 = (encT tt).length := fun j v hv => by
        match j, hv with
        | 0, hv => cases hv; exact ⟨_, _, rfl, T2, rfl⟩
        | 1, hv => cases hv; exact ⟨_, _, rfl, T3, rfl⟩
        | 2, hv => cases hv; exact ⟨_, _, rfl, T19, rfl⟩
        | j + 3, hv => simp at hv
      refine ⟨p20, rfl, ⟨_, SqT.of e20⟩, fun D2 hD2 => lc_fun (plain_tup (SqT.of e20)) hD2 (by show 3 ≤ sizeLine; rw [sizeLine_eq]; decide) (fun _ => rfl) (fun j => .int (([(encT ss2).length, (encT ts).length, (encT (ss2 ++ ts)).length][j]?.getD 0 : Nat))) (fun j Hb Qb hj Sb q => ?_) fun H21 S21 e21 => ?_⟩
      · obtain ⟨v, hv⟩ : ∃ v, [V.ref b7, .ref t10, .ref p19][j]? = some v := ⟨_, List.getElem?_eq_getElem hj⟩
        obtain ⟨u, tt, rfl, Tu, lu⟩ := tx3 j v hv
        rw [hv]
        rw [lu] at q
        walk_at "rd_law17"
        refine rd_encode (Tu.kp (Kp.same Sb)) fun Hc Sc => ?_
        walk_at "rd_law17"
        refine rd_unpack (encT_Byt Tu.ok Tu.few) fun p Hd Sd nd ed => ?_
        walk_at "rd_law17"
        exact q _ (Sc.trans Sd)
      have e21 : H21 D2 = some (.lst (natV [(encT ss2).length, (encT ts).length, (encT (ss2 ++ ts)).length])) := e21
      have T3 := T3.kp (Kp.same S21)
      have row21 := row20.mono S21
      have sum3 := encT_app (ss := ss2) (ts := ts)
      clear T2 T19 tx3 S21 e20 row20 row18 S19 S20
      walk_at "rd_law17"
      refine rd_ixNn e21 (o := 2) rfl ?_
      walk_at "rd_law17"
      refine rd_ixNn e21 (o := 0) rfl ?_
      walk_at "rd_law17"
      refine rd_ixNn e21 (o := 1) rfl ?_
      walk_at "rd_law17"
      refine rd_mkText0 fun p22 H22 S22 T22 => ?_
      walk_at "rd_law17"
      refine ⟨p22, [], rfl, T22, fun H23 S23 => ?_⟩
      walk_at "rd_law17"
      refine rd_parse17e fun p24 H24 S24 n24 T24 => ?_
      walk_at "rd_law17"
      refine rd_mkText0 fun p25 H25 S25 T25 => ?_
      have T24 := T24.kp (Kp.same S25)
      have S215 := ((S22.trans S23).trans S24).trans S25
      have T3 := T3.kp (Kp.same S215)
      have row25 := row21.mono S215
      clear T22 S22 S23 S24 S25 S215 row21 e21
      walk_at "rd_law17"
      refine rd_encode T3 fun H26 S26 => ?_
      walk_at "rd_law17"
      refine rd_unpack (encT_Byt ok9 T3.few) fun p27 H27 S27 n27 e27 => ?_
      have T3 := T3.kp (Kp.same (S26.trans S27))
      have row27 := row25.mono (S26.trans S27)
      clear row25 S26 S27
      walk_at "rd_law17"
      obtain ⟨w0, ur, rfl⟩ : ∃ w0 ur, us = w0 :: ur := by
        cases us with
        | nil => simp at ul; omega
        | cons w0 ur => exact ⟨_, _, rfl⟩
      have ow0 := (uw w0 List.mem_cons_self)
      have ets : ts = .wr w0 :: ur.map Stp.wr := hts
      rw [ets] at e27 T3
      clear ets hts
      refine rd_slL (SqL.of e27) fun p28 n28 => ?_
      have e28 : cutV (natV (encT (.wr w0 :: ur.map Stp.wr))) (some 2) (some 4) = natV [0, w0.length] := by
        have h4 : 4 ≤ (natV (encT (.wr w0 :: ur.map Stp.wr))).length := by
          rw [natV_len, encT_length, List.map_cons, List.flatten_cons, List.length_append]
          have : 2 ≤ (encS (.wr w0)).length := by show 2 ≤ (List.map (· - 97) (tl w0)).length + 1 + 1; omega
          omega
        have := cutV_nat (natV (encT (.wr w0 :: ur.map Stp.wr))) 2 4 h4
        rw [show (some (2 : Int)) = some ((2 : Nat) : Int) from rfl, show (some (4 : Int)) = some ((4 : Nat) : Int) from rfl, this]
        have e := enc_24 (w := w0) (ts := ur.map Stp.wr)
        unfold natV
        rw [← List.map_drop, ← List.map_take, e]
      rw [e28]
      have S28 : Same H27 (upd H27 p28 (.lst (natV [0, w0.length]))) := Same.new (Same.refl _) n28
      generalize eH : upd H27 p28 (.lst (natV [0, w0.length])) = H28 at S28
      have e28 : H28 p28 = some (.lst (natV [0, w0.length])) := by rw [← eH]; exact upd_same
      have T3 := T3.kp (Kp.same S28)
      have row28 := row27.mono S28
      clear eH row27 e27
      walk_at "rd_law17"
      intro p29 ⟨ms29, hm29, hst29⟩
      walk_at "rd_law17"
      obtain ⟨v30, hv30, b30, rfl, hq30⟩ := hst29.2 0 _ rfl
      refine rd_ixTn hm29 hv30 ?_
      walk_at "rd_law17"
      refine rd_ixTn hq30 (j := 1) rfl ?_
      walk_at "rd_law17"
      refine rd_len_str (by have := ow0.2.1; rw [sizeLine_eq]; omega) ?_
      walk_at "rd_law17"
      intro p31 H31 S31 e31 _
      have e31 : H31 p31 = some (.lst (natV [0, w0.length])) := e31
      refine rd_neNN (S31 _ _ e28) e31 ?_
      rw [decide_eq_true rfl]
      walk_at "rd_law17"
      exact ⟨_, _, _, _, _, _, _, rfl, row28.mono S31⟩
    · rintro σ H1 ⟨v2, v3, v4, v5, v7, v8, v9, rfl, row1⟩
      walk_at "rd_law17"
      exact k _
end
theorem bf_is_integer : BF "is_integer" "is_integer" s_is_integer ["value", "low", "high"] := fun _ _ _ _ _ _ us hl => match us, hl with | [_, _, _], _ => rfl
theorem bf_is_letter : BF "is_letter" "is_letter" s_is_letter ["value"] := fun _ _ _ _ _ _ us hl => match us, hl with | [_], _ => rfl
theorem bf_is_word : BF "is_word" "is_word" s_is_word ["value"] := fun _ _ _ _ _ _ us hl => match us, hl with | [_], _ => rfl
theorem bf_is_step : BF "is_step" "is_step" s_is_step ["value", "size"] := fun _ _ _ _ _ _ us hl => match us, hl with | [_, _], _ => rfl
theorem bf_Part_init : BF "__init__" "Part.__init__" s_Part_init ["self", "start", "length", "is_typed", "first", "last"] := fun _ _ _ _ _ _ us hl => match us, hl with | [_, _, _, _, _, _], _ => rfl
theorem bf_Part_source : BF "source" "Part.source" s_Part_source ["self", "place"] := fun _ _ _ _ _ _ us hl => match us, hl with | [_, _], _ => rfl
theorem bf_Text_init : BFS "__init__" "Text.__init__" s_Text_init ["self"] "steps" := fun _ _ _ _ _ _ us rest hl => match us, rest, hl with | [_], [], _ => rfl | [_], _ :: _, _ => rfl
theorem bf_Text_of_steps : BF "of_steps" "Text.of_steps" s_Text_of_steps ["cls", "steps"] := fun _ _ _ _ _ _ us hl => match us, hl with | [_, _], _ => rfl
theorem bf_Text_steps : BF "steps" "Text.steps" s_Text_steps ["self"] := fun _ _ _ _ _ _ us hl => match us, hl with | [_], _ => rfl
theorem bf_Text_typed_keys : BF "typed_keys" "Text.typed_keys" s_Text_typed_keys ["self"] := fun _ _ _ _ _ _ us hl => match us, hl with | [_], _ => rfl
theorem bf_Text_size : BF "size" "Text.size" s_Text_size ["self"] := fun _ _ _ _ _ _ us hl => match us, hl with | [_], _ => rfl
theorem bf_Text_check_place : BF "check_place" "Text.check_place" s_Text_check_place ["self", "place"] := fun _ _ _ _ _ _ us hl => match us, hl with | [_, _], _ => rfl
theorem bf_Text_key_of : BF "key_of" "Text.key_of" s_Text_key_of ["self", "place"] := fun _ _ _ _ _ _ us hl => match us, hl with | [_, _], _ => rfl
theorem bf_Text_call : BF "__call__" "Text.__call__" s_Text_call ["self", "place"] := fun _ _ _ _ _ _ us hl => match us, hl with | [_, _], _ => rfl
theorem bf_Text_getitem : BF "__getitem__" "Text.__getitem__" s_Text_getitem ["self", "place"] := fun _ _ _ _ _ _ us hl => match us, hl with | [_, _], _ => rfl
theorem bf_Text_contains : BF "__contains__" "Text.__contains__" s_Text_contains ["self", "letter"] := fun _ _ _ _ _ _ us hl => match us, hl with | [_, _], _ => rfl
theorem bf_moved_step : BF "moved_step" "moved_step" s_moved_step ["step", "size"] := fun _ _ _ _ _ _ us hl => match us, hl with | [_, _], _ => rfl
theorem bf_joined : BF "joined" "joined" s_joined ["one", "other"] := fun _ _ _ _ _ _ us hl => match us, hl with | [_, _], _ => rfl
theorem bf_repeated : BF "repeated" "repeated" s_repeated ["text", "times"] := fun _ _ _ _ _ _ us hl => match us, hl with | [_, _], _ => rfl
theorem bf_Text_add : BF "__add__" "Text.__add__" s_Text_add ["self", "other"] := fun _ _ _ _ _ _ us hl => match us, hl with | [_, _], _ => rfl
theorem bf_Text_mul : BF "__mul__" "Text.__mul__" s_Text_mul ["self", "times"] := fun _ _ _ _ _ _ us hl => match us, hl with | [_, _], _ => rfl
theorem bf_Text_eq : BF "__eq__" "Text.__eq__" s_Text_eq ["self", "other"] := fun _ _ _ _ _ _ us hl => match us, hl with | [_, _], _ => rfl
theorem bf_x_law_taken : BF "_law_taken" "_law_taken" s_x_law_taken ["_law_row", "_law_many"] := fun _ _ _ _ _ _ us hl => match us, hl with | [_, _], _ => rfl
theorem bf_x_law_word : BF "_law_word" "_law_word" s_x_law_word ["_law_row", "_law_most"] := fun _ _ _ _ _ _ us hl => match us, hl with | [_, _], _ => rfl
theorem bf_x_law_steps : BF "_law_steps" "_law_steps" s_x_law_steps ["_law_row", "_law_count", "_law_most"] := fun _ _ _ _ _ _ us hl => match us, hl with | [_, _, _], _ => rfl
theorem bf_x_law_long : BF "_law_long" "_law_long" s_x_law_long ["_law_row"] := fun _ _ _ _ _ _ us hl => match us, hl with | [_], _ => rfl
theorem bf_InvalidStep_init : BF "__init__" "InvalidStep.__init__" s_InvalidStep_init ["self", "index"] := fun _ _ _ _ _ _ us hl => match us, hl with | [_, _], _ => rfl
theorem bf_NotationError_init : BF "__init__" "NotationError.__init__" s_NotationError_init ["self", "row", "word"] := fun _ _ _ _ _ _ us hl => match us, hl with | [_, _, _], _ => rfl
theorem bf_DecodeError_init : BF "__init__" "DecodeError.__init__" s_DecodeError_init ["self", "offset"] := fun _ _ _ _ _ _ us hl => match us, hl with | [_, _], _ => rfl
theorem bf_Counter_init : BF "__init__" "Counter.__init__" s_Counter_init ["self", "text"] := fun _ _ _ _ _ _ us hl => match us, hl with | [_, _], _ => rfl
theorem bf_Counter_before : BF "before" "Counter.before" s_Counter_before ["self", "place"] := fun _ _ _ _ _ _ us hl => match us, hl with | [_, _], _ => rfl
theorem bf_Counter_counts_before : BF "counts_before" "Counter.counts_before" s_Counter_counts_before ["self", "place"] := fun _ _ _ _ _ _ us hl => match us, hl with | [_, _], _ => rfl
theorem bf_check_range : BF "check_range" "check_range" s_check_range ["text", "first", "last"] := fun _ _ _ _ _ _ us hl => match us, hl with | [_, _, _], _ => rfl
theorem bf_key_counts : BF "key_counts" "key_counts" s_key_counts ["text", "first", "last"] := fun _ _ _ _ _ _ us hl => match us, hl with | [_, _, _], _ => rfl
theorem bf_format_text : BF "format_text" "format_text" s_format_text ["text"] := fun _ _ _ _ _ _ us hl => match us, hl with | [_], _ => rfl
theorem bf_is_number : BF "is_number" "is_number" s_is_number ["word"] := fun _ _ _ _ _ _ us hl => match us, hl with | [_], _ => rfl
theorem bf_step_of : BF "step_of" "step_of" s_step_of ["row", "line"] := fun _ _ _ _ _ _ us hl => match us, hl with | [_, _], _ => rfl
theorem bf_parse_text : BF "parse_text" "parse_text" s_parse_text ["rows"] := fun _ _ _ _ _ _ us hl => match us, hl with | [_], _ => rfl
theorem bf_key_table : BF "key_table" "key_table" s_key_table ["text"] := fun _ _ _ _ _ _ us hl => match us, hl with | [_], _ => rfl
theorem bf_pack_bytes : BF "pack_bytes" "pack_bytes" s_pack_bytes ["values"] := fun _ _ _ _ _ _ us hl => match us, hl with | [_], _ => rfl
theorem bf_unpack_bytes : BF "unpack_bytes" "unpack_bytes" s_unpack_bytes ["data"] := fun _ _ _ _ _ _ us hl => match us, hl with | [_], _ => rfl
theorem bf_checksum_of : BF "checksum_of" "checksum_of" s_checksum_of ["values"] := fun _ _ _ _ _ _ us hl => match us, hl with | [_], _ => rfl
theorem bf_number_values : BF "number_values" "number_values" s_number_values ["number"] := fun _ _ _ _ _ _ us hl => match us, hl with | [_], _ => rfl
theorem bf_encode_text : BF "encode_text" "encode_text" s_encode_text ["text"] := fun _ _ _ _ _ _ us hl => match us, hl with | [_], _ => rfl
theorem bf_Decoder_init : BF "__init__" "Decoder.__init__" s_Decoder_init ["self", "data"] := fun _ _ _ _ _ _ us hl => match us, hl with | [_, _], _ => rfl
theorem bf_Decoder_take : BF "take" "Decoder.take" s_Decoder_take ["self", "low", "high"] := fun _ _ _ _ _ _ us hl => match us, hl with | [_, _, _], _ => rfl
theorem bf_Decoder_take_number : BF "take_number" "Decoder.take_number" s_Decoder_take_number ["self", "low", "high"] := fun _ _ _ _ _ _ us hl => match us, hl with | [_, _, _], _ => rfl
theorem bf_Decoder_take_step : BF "take_step" "Decoder.take_step" s_Decoder_take_step ["self"] := fun _ _ _ _ _ _ us hl => match us, hl with | [_], _ => rfl
theorem bf_Decoder_finish : BF "finish" "Decoder.finish" s_Decoder_finish ["self"] := fun _ _ _ _ _ _ us hl => match us, hl with | [_], _ => rfl
theorem bf_decode_text : BF "decode_text" "decode_text" s_decode_text ["data"] := fun _ _ _ _ _ _ us hl => match us, hl with | [_], _ => rfl
theorem bf_x_law_number : BF "_law_number" "_law_number" s_x_law_number ["_law_text"] := fun _ _ _ _ _ _ us hl => match us, hl with | [_], _ => rfl
theorem bf_x_law_is_table : BF "_law_is_table" "_law_is_table" s_x_law_is_table ["_law_text"] := fun _ _ _ _ _ _ us hl => match us, hl with | [_], _ => rfl
theorem bf_x_law_is_written : BF "_law_is_written" "_law_is_written" s_x_law_is_written ["_law_text"] := fun _ _ _ _ _ _ us hl => match us, hl with | [_], _ => rfl
theorem bf_law : BF "law" "law" s_law ["_law_script"] := fun _ _ _ _ _ _ us hl => match us, hl with | [_], _ => rfl
theorem fin {l : PySem.W.OpenLaw} {w : World} {K : PySem.W.Frag} {h : Heap} {mg : Str → Option Value} {fa CText CPart CCounter CDecoder CTextError CInvalidStep CTooLong CInvalidPlace CInvalidNumber CNotationError CInvalidCount CDecodeError : Addr} (X : K.In h) (G : h.Ns mainGlobals mg) (hmg : mg "law" = some (.ref fa))
    (gText : PySem.W.nsIn K mainGlobals "Text" = some (some (.ref CText)))
    (gPart : PySem.W.nsIn K mainGlobals "Part" = some (some (.ref CPart)))
    (gCounter : PySem.W.nsIn K mainGlobals "Counter" = some (some (.ref CCounter)))
    (gDecoder : PySem.W.nsIn K mainGlobals "Decoder" = some (some (.ref CDecoder)))
    (gTextError : PySem.W.nsIn K mainGlobals "TextError" = some (some (.ref CTextError)))
    (gInvalidStep : PySem.W.nsIn K mainGlobals "InvalidStep" = some (some (.ref CInvalidStep)))
    (gTooLong : PySem.W.nsIn K mainGlobals "TooLong" = some (some (.ref CTooLong)))
    (gInvalidPlace : PySem.W.nsIn K mainGlobals "InvalidPlace" = some (some (.ref CInvalidPlace)))
    (gInvalidNumber : PySem.W.nsIn K mainGlobals "InvalidNumber" = some (some (.ref CInvalidNumber)))
    (gNotationError : PySem.W.nsIn K mainGlobals "NotationError" = some (some (.ref CNotationError)))
    (gInvalidCount : PySem.W.nsIn K mainGlobals "InvalidCount" = some (some (.ref CInvalidCount)))
    (gDecodeError : PySem.W.nsIn K mainGlobals "DecodeError" = some (some (.ref CDecodeError)))
    (T : (mg "Text" = some (.ref CText) ∧ mg "Part" = some (.ref CPart) ∧ mg "Counter" = some (.ref CCounter) ∧ mg "Decoder" = some (.ref CDecoder) ∧ mg "TextError" = some (.ref CTextError) ∧ mg "InvalidStep" = some (.ref CInvalidStep) ∧ mg "TooLong" = some (.ref CTooLong) ∧ mg "InvalidPlace" = some (.ref CInvalidPlace) ∧ mg "InvalidNumber" = some (.ref CInvalidNumber) ∧ mg "NotationError" = some (.ref CNotationError) ∧ mg "InvalidCount" = some (.ref CInvalidCount) ∧ mg "DecodeError" = some (.ref CDecodeError)) → Txt K mg CText CPart CCounter CDecoder CTextError CInvalidStep CTooLong CInvalidPlace CInvalidNumber CNotationError CInvalidCount CDecodeError) :
    ∃ fd : FuncData, (∀ (s : Shared) (u : Value), BindsTo s fd ⟨[u], []⟩ [("_law_script", u)]) ∧ ∀ base : Heap, K.In base → base.Ns mainGlobals mg → FnOk l.prog w K mg base CX0 66 fa fd ["_law_script"] (sp_law K) := by
  have T := T (⟨PySem.W.mg_of X G gText, PySem.W.mg_of X G gPart, PySem.W.mg_of X G gCounter, PySem.W.mg_of X G gDecoder, PySem.W.mg_of X G gTextError, PySem.W.mg_of X G gInvalidStep, PySem.W.mg_of X G gTooLong, PySem.W.mg_of X G gInvalidPlace, PySem.W.mg_of X G gInvalidNumber, PySem.W.mg_of X G gNotationError, PySem.W.mg_of X G gInvalidCount, PySem.W.mg_of X G gDecodeError⟩)
  obtain ⟨f, fd, F, a, b⟩ := T.d_law
  have e := hmg.symm.trans a
  cases e
  refine ⟨fd, fun s u => ?_, fun base _ _ => ok_law T F⟩
  obtain ⟨oc, od, kV, doc, pm, an, cdv, ct, osl, rfl, lk, hcd⟩ := F.ex
  exact .of_eq (bf_law kV doc pm an cdv ct [u] rfl)
end L2.Px
open PySem PySem.W PyProof.Rows
set_option maxRecDepth 100000 in
set_option maxHeartbeats 0 in
theorem PySem.Challenge.cw_pastekeys_k17_whole_rows_and_bytes_holds : PySem.Challenge.rw_pastekeys_k17_whole_rows_and_bytes.Holds := by
  w_on; o_law; k_head; (case hw => w_witness2)
  k_fill
  refine L2.Px.walk_ofX (l := PySem.Challenge.rw_pastekeys_k17_whole_rows_and_bytes) (k := 66) (x := "_law_script") rfl (by decide) rfl ⟨rfl, by decide, by decide⟩ (fun w h Y => PySem.W.kIn_of Y) ?F
  case F =>
    intro w mg fa h KX G XL hmg
    refine' L2.Px.fin KX G hmg ?gText ?gPart ?gCounter ?gDecoder ?gTextError ?gInvalidStep ?gTooLong ?gInvalidPlace ?gInvalidNumber ?gNotationError ?gInvalidCount ?gDecodeError ?t
    (case gText => k_is)
    (case gPart => k_is)
    (case gCounter => k_is)
    (case gDecoder => k_is)
    (case gTextError => k_is)
    (case gInvalidStep => k_is)
    (case gTooLong => k_is)
    (case gInvalidPlace => k_is)
    (case gInvalidNumber => k_is)
    (case gNotationError => k_is)
    (case gInvalidCount => k_is)
    (case gDecodeError => k_is)
    case t =>
      intro gg
      obtain ⟨qText, qPart, qCounter, qDecoder, qTextError, qInvalidStep, qTooLong, qInvalidPlace, qInvalidNumber, qNotationError, qInvalidCount, qDecodeError⟩ := gg
      refine' L2.Px.Txt.mk ?d_is_integer ?d_is_letter ?d_is_word ?d_is_step ?d_Part_init ?d_Part_source ?d_Text_init ?d_Text_of_steps ?d_Text_steps ?d_Text_typed_keys ?d_Text_size ?d_Text_check_place ?d_Text_key_of ?d_Text_call ?d_Text_getitem ?d_Text_contains ?d_moved_step ?d_joined ?d_repeated ?d_Text_add ?d_Text_mul ?d_Text_eq ?d_x_law_taken ?d_x_law_word ?d_x_law_steps ?d_x_law_long ?d_InvalidStep_init ?d_NotationError_init ?d_DecodeError_init ?d_Counter_init ?d_Counter_before ?d_Counter_counts_before ?d_check_range ?d_key_counts ?d_format_text ?d_is_number ?d_step_of ?d_parse_text ?d_key_table ?d_pack_bytes ?d_unpack_bytes ?d_checksum_of ?d_number_values ?d_encode_text ?d_Decoder_init ?d_Decoder_take ?d_Decoder_take_number ?d_Decoder_take_step ?d_Decoder_finish ?d_decode_text ?d_x_law_number ?d_x_law_is_table ?d_x_law_is_written ?d_law ?cText ?g_Text ?cPart ?g_Part ?cCounter ?g_Counter ?cDecoder ?g_Decoder ?ne_Text_Part ?ne_Text_Counter ?ne_Text_Decoder ?ne_Part_Counter ?ne_Part_Decoder ?ne_Counter_Decoder ?xb_TextError ?x_InvalidStep ?x_TooLong ?x_InvalidPlace ?x_InvalidNumber ?x_NotationError ?x_InvalidCount ?x_DecodeError ?na_Part_start ?na_Part_length ?na_Part_is_typed ?na_Part_first ?na_Part_last ?na_Text_made ?na_Text_typed ?na_Text_parts ?na_Text_total ?na_Counter_text ?na_Counter_known ?na_Decoder_data ?na_Decoder_offset ?na_Decoder_total ?k_LETTERS ?k_MAX_WORD ?k_MAX_STEPS ?k_MAX_TIMES ?k_MAX_SIZE_texts ?k_WRITE ?k_PASTE ?k_DIGITS ?k_MAX_DIGITS ?k_PASTE_WORDS ?k_FIRST_BYTE ?k_BYTE ?k_GROUP ?k_CHECKSUM_MODULUS ?cg_Text ?isi_oo ?isi_to ?n_isinstance ?n_int ?n_bool ?n_str ?n_len ?n_all ?n_tuple ?n_list ?n_range ?n_enumerate ?n_min ?n_max ?n_divmod ?n_sum ?n_zip ?n_sorted ?n_bytes ?n_ValueError
      (case d_is_integer => open L2 L2.Px StX ClX in (refine' defG_mk KX G ?a ?l ?k ?b; (case a => k_is); (case l => (refine' atF ?l1 ?l2; (case l1 => k_is); (case l2 => k_is))); (case k => k_is); (case b => exact bf_is_integer)))
      (case d_is_letter => open L2 L2.Px StX ClX in (refine' defG_mk KX G ?a ?l ?k ?b; (case a => k_is); (case l => (refine' atF ?l1 ?l2; (case l1 => k_is); (case l2 => k_is))); (case k => k_is); (case b => exact bf_is_letter)))
      (case d_is_word => open L2 L2.Px StX ClX in (refine' defG_mk KX G ?a ?l ?k ?b; (case a => k_is); (case l => (refine' atF ?l1 ?l2; (case l1 => k_is); (case l2 => k_is))); (case k => k_is); (case b => exact bf_is_word)))
      (case d_is_step => open L2 L2.Px StX ClX in (refine' defG_mk KX G ?a ?l ?k ?b; (case a => k_is); (case l => (refine' atF ?l1 ?l2; (case l1 => k_is); (case l2 => k_is))); (case k => k_is); (case b => exact bf_is_step)))
      (case d_Part_init => open L2 L2.Px StX ClX in (refine' defK_mk ?mk ?a ?fn ?kc ?l ?k ?b; (case mk => k_is); (case a => k_is); (case fn => k_is); (case kc => k_is); (case l => (refine' atF ?l1 ?l2; (case l1 => k_is); (case l2 => k_is))); (case k => k_is); (case b => exact bf_Part_init)))
      (case d_Part_source => open L2 L2.Px StX ClX in (refine' defM_mk ?a ?fn ?l ?k ?b; (case a => k_is); (case fn => k_is); (case l => (refine' atF ?l1 ?l2; (case l1 => k_is); (case l2 => k_is))); (case k => k_is); (case b => exact bf_Part_source)))
      (case d_Text_init => open L2 L2.Px StX ClX in (refine' defKS_mk ?mk ?a ?fn ?kc ?l ?k ?b; (case mk => k_is); (case a => k_is); (case fn => k_is); (case kc => k_is); (case l => (refine' atF ?l1 ?l2; (case l1 => k_is); (case l2 => k_is))); (case k => k_is); (case b => exact bf_Text_init)))
      (case d_Text_of_steps => open L2 L2.Px StX ClX in (refine' defC_mk (mc := .type "type") ?rd ?ga ?a ?r ?fi ?l ?k ?b; (case rd => k_is); (case ga => k_is); (case a => k_is); (case r => k_is); (case fi => k_is); (case l => (refine' atF ?l1 ?l2; (case l1 => k_is); (case l2 => k_is))); (case k => k_is); (case b => exact bf_Text_of_steps)))
      (case d_Text_steps => open L2 L2.Px StX ClX in (refine' defP_mk ?a ?g ?t ?r ?l ?k ?b; (case a => k_is); (case g => k_is); (case t => k_is); (case r => k_is); (case l => (refine' atF ?l1 ?l2; (case l1 => k_is); (case l2 => k_is))); (case k => k_is); (case b => exact bf_Text_steps)))
      (case d_Text_typed_keys => open L2 L2.Px StX ClX in (refine' defP_mk ?a ?g ?t ?r ?l ?k ?b; (case a => k_is); (case g => k_is); (case t => k_is); (case r => k_is); (case l => (refine' atF ?l1 ?l2; (case l1 => k_is); (case l2 => k_is))); (case k => k_is); (case b => exact bf_Text_typed_keys)))
      (case d_Text_size => open L2 L2.Px StX ClX in (refine' defP_mk ?a ?g ?t ?r ?l ?k ?b; (case a => k_is); (case g => k_is); (case t => k_is); (case r => k_is); (case l => (refine' atF ?l1 ?l2; (case l1 => k_is); (case l2 => k_is))); (case k => k_is); (case b => exact bf_Text_size)))
      (case d_Text_check_place => open L2 L2.Px StX ClX in (refine' defM_mk ?a ?fn ?l ?k ?b; (case a => k_is); (case fn => k_is); (case l => (refine' atF ?l1 ?l2; (case l1 => k_is); (case l2 => k_is))); (case k => k_is); (case b => exact bf_Text_check_place)))
      (case d_Text_key_of => open L2 L2.Px StX ClX in (refine' defM_mk ?a ?fn ?l ?k ?b; (case a => k_is); (case fn => k_is); (case l => (refine' atF ?l1 ?l2; (case l1 => k_is); (case l2 => k_is))); (case k => k_is); (case b => exact bf_Text_key_of)))
      (case d_Text_call => open L2 L2.Px StX ClX in (refine' defX_mk ?r ?l ?k ?b; (case r => (refine' CallO.mk ?r1 ?r2 ?r3; (case r1 => k_is); (case r2 => k_is); (case r3 => k_is))); (case l => (refine' atF ?l1 ?l2; (case l1 => k_is); (case l2 => k_is))); (case k => k_is); (case b => exact bf_Text_call)))
      (case d_Text_getitem => open L2 L2.Px StX ClX in (refine' defX_mk ?r ?l ?k ?b; (case r => (refine' IOwn.mk ?r1 ?r2 ?r3; (case r1 => k_is); (case r2 => k_is); (case r3 => k_is))); (case l => (refine' atF ?l1 ?l2; (case l1 => k_is); (case l2 => k_is))); (case k => k_is); (case b => exact bf_Text_getitem)))
      (case d_Text_contains => open L2 L2.Px StX ClX in (refine' defX_mk ?r ?l ?k ?b; (case r => (refine' COwn.mk ?r1 ?r2; (case r1 => k_is); (case r2 => k_is))); (case l => (refine' atF ?l1 ?l2; (case l1 => k_is); (case l2 => k_is))); (case k => k_is); (case b => exact bf_Text_contains)))
      (case d_moved_step => open L2 L2.Px StX ClX in (refine' defG_mk KX G ?a ?l ?k ?b; (case a => k_is); (case l => (refine' atF ?l1 ?l2; (case l1 => k_is); (case l2 => k_is))); (case k => k_is); (case b => exact bf_moved_step)))
      (case d_joined => open L2 L2.Px StX ClX in (refine' defG_mk KX G ?a ?l ?k ?b; (case a => k_is); (case l => (refine' atF ?l1 ?l2; (case l1 => k_is); (case l2 => k_is))); (case k => k_is); (case b => exact bf_joined)))
      (case d_repeated => open L2 L2.Px StX ClX in (refine' defG_mk KX G ?a ?l ?k ?b; (case a => k_is); (case l => (refine' atF ?l1 ?l2; (case l1 => k_is); (case l2 => k_is))); (case k => k_is); (case b => exact bf_repeated)))
      (case d_Text_add => open L2 L2.Px StX ClX in (refine' defX_mk ?r ?l ?k ?b; (case r => (refine' BOwn.mk ?r1 ?r2 ?r3; (case r2 => k_is); (case r1 => k_is); (case r3 => k_is))); (case l => (refine' atF ?l1 ?l2; (case l1 => k_is); (case l2 => k_is))); (case k => k_is); (case b => exact bf_Text_add)))
      (case d_Text_mul => open L2 L2.Px StX ClX in (refine' defX_mk ?r ?l ?k ?b; (case r => (refine' BOwnI.mk ?r1 ?r2 ?r3 ?r4 ?r5 ?r6 ?r7; (case r2 => k_is); (case r1 => k_is); (case r3 => k_is); (case r4 => k_is); (case r5 => exact ⟨_, by k_is⟩); (case r6 => exact ⟨_, by k_is⟩); (case r7 => k_is))); (case l => (refine' atF ?l1 ?l2; (case l1 => k_is); (case l2 => k_is))); (case k => k_is); (case b => exact bf_Text_mul)))
      (case d_Text_eq => open L2 L2.Px StX ClX in (refine' defX_mk ?r ?l ?k ?b; (case r => (refine' EOwn.mk ?r1 ?r2 ?r3 ?r4 ?r5 ?r6; (case r1 => k_is); (case r2 => k_is); (case r3 => k_is); (case r4 => k_is); (case r5 => k_is); (case r6 => k_is))); (case l => (refine' atF ?l1 ?l2; (case l1 => k_is); (case l2 => k_is))); (case k => k_is); (case b => exact bf_Text_eq)))
      (case d_x_law_taken => open L2 L2.Px StX ClX in (refine' defG_mk KX G ?a ?l ?k ?b; (case a => k_is); (case l => (refine' atF ?l1 ?l2; (case l1 => k_is); (case l2 => k_is))); (case k => k_is); (case b => exact bf_x_law_taken)))
      (case d_x_law_word => open L2 L2.Px StX ClX in (refine' defG_mk KX G ?a ?l ?k ?b; (case a => k_is); (case l => (refine' atF ?l1 ?l2; (case l1 => k_is); (case l2 => k_is))); (case k => k_is); (case b => exact bf_x_law_word)))
      (case d_x_law_steps => open L2 L2.Px StX ClX in (refine' defG_mk KX G ?a ?l ?k ?b; (case a => k_is); (case l => (refine' atF ?l1 ?l2; (case l1 => k_is); (case l2 => k_is))); (case k => k_is); (case b => exact bf_x_law_steps)))
      (case d_x_law_long => open L2 L2.Px StX ClX in (refine' defG_mk KX G ?a ?l ?k ?b; (case a => k_is); (case l => (refine' atF ?l1 ?l2; (case l1 => k_is); (case l2 => k_is))); (case k => k_is); (case b => exact bf_x_law_long)))
      (case d_InvalidStep_init => open L2 L2.Px StX ClX in (refine' defI_mk ?a ?t ?l ?k ?b; (case a => k_is); (case t => k_is); (case l => (refine' atF ?l1 ?l2; (case l1 => k_is); (case l2 => k_is))); (case k => k_is); (case b => exact bf_InvalidStep_init)))
      (case d_NotationError_init => open L2 L2.Px StX ClX in (refine' defI_mk ?a ?t ?l ?k ?b; (case a => k_is); (case t => k_is); (case l => (refine' atF ?l1 ?l2; (case l1 => k_is); (case l2 => k_is))); (case k => k_is); (case b => exact bf_NotationError_init)))
      (case d_DecodeError_init => open L2 L2.Px StX ClX in (refine' defI_mk ?a ?t ?l ?k ?b; (case a => k_is); (case t => k_is); (case l => (refine' atF ?l1 ?l2; (case l1 => k_is); (case l2 => k_is))); (case k => k_is); (case b => exact bf_DecodeError_init)))
      (case d_Counter_init => open L2 L2.Px StX ClX in (refine' defK_mk ?mk ?a ?fn ?kc ?l ?k ?b; (case mk => k_is); (case a => k_is); (case fn => k_is); (case kc => k_is); (case l => (refine' atF ?l1 ?l2; (case l1 => k_is); (case l2 => k_is))); (case k => k_is); (case b => exact bf_Counter_init)))
      (case d_Counter_before => open L2 L2.Px StX ClX in (refine' defM_mk ?a ?fn ?l ?k ?b; (case a => k_is); (case fn => k_is); (case l => (refine' atF ?l1 ?l2; (case l1 => k_is); (case l2 => k_is))); (case k => k_is); (case b => exact bf_Counter_before)))
      (case d_Counter_counts_before => open L2 L2.Px StX ClX in (refine' defM_mk ?a ?fn ?l ?k ?b; (case a => k_is); (case fn => k_is); (case l => (refine' atF ?l1 ?l2; (case l1 => k_is); (case l2 => k_is))); (case k => k_is); (case b => exact bf_Counter_counts_before)))
      (case d_check_range => open L2 L2.Px StX ClX in (refine' defG_mk KX G ?a ?l ?k ?b; (case a => k_is); (case l => (refine' atF ?l1 ?l2; (case l1 => k_is); (case l2 => k_is))); (case k => k_is); (case b => exact bf_check_range)))
      (case d_key_counts => open L2 L2.Px StX ClX in (refine' defG_mk KX G ?a ?l ?k ?b; (case a => k_is); (case l => (refine' atF ?l1 ?l2; (case l1 => k_is); (case l2 => k_is))); (case k => k_is); (case b => exact bf_key_counts)))
      (case d_format_text => open L2 L2.Px StX ClX in (refine' defG_mk KX G ?a ?l ?k ?b; (case a => k_is); (case l => (refine' atF ?l1 ?l2; (case l1 => k_is); (case l2 => k_is))); (case k => k_is); (case b => exact bf_format_text)))
      (case d_is_number => open L2 L2.Px StX ClX in (refine' defG_mk KX G ?a ?l ?k ?b; (case a => k_is); (case l => (refine' atF ?l1 ?l2; (case l1 => k_is); (case l2 => k_is))); (case k => k_is); (case b => exact bf_is_number)))
      (case d_step_of => open L2 L2.Px StX ClX in (refine' defG_mk KX G ?a ?l ?k ?b; (case a => k_is); (case l => (refine' atF ?l1 ?l2; (case l1 => k_is); (case l2 => k_is))); (case k => k_is); (case b => exact bf_step_of)))
      (case d_parse_text => open L2 L2.Px StX ClX in (refine' defG_mk KX G ?a ?l ?k ?b; (case a => k_is); (case l => (refine' atF ?l1 ?l2; (case l1 => k_is); (case l2 => k_is))); (case k => k_is); (case b => exact bf_parse_text)))
      (case d_key_table => open L2 L2.Px StX ClX in (refine' defG_mk KX G ?a ?l ?k ?b; (case a => k_is); (case l => (refine' atF ?l1 ?l2; (case l1 => k_is); (case l2 => k_is))); (case k => k_is); (case b => exact bf_key_table)))
      (case d_pack_bytes => open L2 L2.Px StX ClX in (refine' defG_mk KX G ?a ?l ?k ?b; (case a => k_is); (case l => (refine' atF ?l1 ?l2; (case l1 => k_is); (case l2 => k_is))); (case k => k_is); (case b => exact bf_pack_bytes)))
      (case d_unpack_bytes => open L2 L2.Px StX ClX in (refine' defG_mk KX G ?a ?l ?k ?b; (case a => k_is); (case l => (refine' atF ?l1 ?l2; (case l1 => k_is); (case l2 => k_is))); (case k => k_is); (case b => exact bf_unpack_bytes)))
      (case d_checksum_of => open L2 L2.Px StX ClX in (refine' defG_mk KX G ?a ?l ?k ?b; (case a => k_is); (case l => (refine' atF ?l1 ?l2; (case l1 => k_is); (case l2 => k_is))); (case k => k_is); (case b => exact bf_checksum_of)))
      (case d_number_values => open L2 L2.Px StX ClX in (refine' defG_mk KX G ?a ?l ?k ?b; (case a => k_is); (case l => (refine' atF ?l1 ?l2; (case l1 => k_is); (case l2 => k_is))); (case k => k_is); (case b => exact bf_number_values)))
      (case d_encode_text => open L2 L2.Px StX ClX in (refine' defG_mk KX G ?a ?l ?k ?b; (case a => k_is); (case l => (refine' atF ?l1 ?l2; (case l1 => k_is); (case l2 => k_is))); (case k => k_is); (case b => exact bf_encode_text)))
      (case d_Decoder_init => open L2 L2.Px StX ClX in (refine' defK_mk ?mk ?a ?fn ?kc ?l ?k ?b; (case mk => k_is); (case a => k_is); (case fn => k_is); (case kc => k_is); (case l => (refine' atF ?l1 ?l2; (case l1 => k_is); (case l2 => k_is))); (case k => k_is); (case b => exact bf_Decoder_init)))
      (case d_Decoder_take => open L2 L2.Px StX ClX in (refine' defM_mk ?a ?fn ?l ?k ?b; (case a => k_is); (case fn => k_is); (case l => (refine' atF ?l1 ?l2; (case l1 => k_is); (case l2 => k_is))); (case k => k_is); (case b => exact bf_Decoder_take)))
      (case d_Decoder_take_number => open L2 L2.Px StX ClX in (refine' defM_mk ?a ?fn ?l ?k ?b; (case a => k_is); (case fn => k_is); (case l => (refine' atF ?l1 ?l2; (case l1 => k_is); (case l2 => k_is))); (case k => k_is); (case b => exact bf_Decoder_take_number)))
      (case d_Decoder_take_step => open L2 L2.Px StX ClX in (refine' defM_mk ?a ?fn ?l ?k ?b; (case a => k_is); (case fn => k_is); (case l => (refine' atF ?l1 ?l2; (case l1 => k_is); (case l2 => k_is))); (case k => k_is); (case b => exact bf_Decoder_take_step)))
      (case d_Decoder_finish => open L2 L2.Px StX ClX in (refine' defM_mk ?a ?fn ?l ?k ?b; (case a => k_is); (case fn => k_is); (case l => (refine' atF ?l1 ?l2; (case l1 => k_is); (case l2 => k_is))); (case k => k_is); (case b => exact bf_Decoder_finish)))
      (case d_decode_text => open L2 L2.Px StX ClX in (refine' defG_mk KX G ?a ?l ?k ?b; (case a => k_is); (case l => (refine' atF ?l1 ?l2; (case l1 => k_is); (case l2 => k_is))); (case k => k_is); (case b => exact bf_decode_text)))
      (case d_x_law_number => open L2 L2.Px StX ClX in (refine' defG_mk KX G ?a ?l ?k ?b; (case a => k_is); (case l => (refine' atF ?l1 ?l2; (case l1 => k_is); (case l2 => k_is))); (case k => k_is); (case b => exact bf_x_law_number)))
      (case d_x_law_is_table => open L2 L2.Px StX ClX in (refine' defG_mk KX G ?a ?l ?k ?b; (case a => k_is); (case l => (refine' atF ?l1 ?l2; (case l1 => k_is); (case l2 => k_is))); (case k => k_is); (case b => exact bf_x_law_is_table)))
      (case d_x_law_is_written => open L2 L2.Px StX ClX in (refine' defG_mk KX G ?a ?l ?k ?b; (case a => k_is); (case l => (refine' atF ?l1 ?l2; (case l1 => k_is); (case l2 => k_is))); (case k => k_is); (case b => exact bf_x_law_is_written)))
      (case d_law => open L2 L2.Px StX ClX in (refine' defG_mk KX G ?a ?l ?k ?b; (case a => k_is); (case l => (refine' atF ?l1 ?l2; (case l1 => k_is); (case l2 => k_is))); (case k => k_is); (case b => exact bf_law)))
      (case cText => (refine' L2.Cls.mk ?a1 ?a2 ?a3 ?a4; (case a1 => k_is); (case a2 => k_is); (case a3 => k_is); (case a4 => k_is)))
      (case g_Text => exact qText)
      (case cPart => (refine' L2.Cls.mk ?a1 ?a2 ?a3 ?a4; (case a1 => k_is); (case a2 => k_is); (case a3 => k_is); (case a4 => k_is)))
      (case g_Part => exact qPart)
      (case cCounter => (refine' L2.Cls.mk ?a1 ?a2 ?a3 ?a4; (case a1 => k_is); (case a2 => k_is); (case a3 => k_is); (case a4 => k_is)))
      (case g_Counter => exact qCounter)
      (case cDecoder => (refine' L2.Cls.mk ?a1 ?a2 ?a3 ?a4; (case a1 => k_is); (case a2 => k_is); (case a3 => k_is); (case a4 => k_is)))
      (case g_Decoder => exact qDecoder)
      (case ne_Text_Part => decide)
      (case ne_Text_Counter => decide)
      (case ne_Text_Decoder => decide)
      (case ne_Part_Counter => decide)
      (case ne_Part_Decoder => decide)
      (case ne_Counter_Decoder => decide)
      (case xb_TextError => (refine' L2.Px.XBs.mk ?a1 ?a2 ?a3 ?a4; (case a1 => exact qTextError); (case a2 => k_is); (case a3 => k_is); (case a4 => k_is)))
      (case x_InvalidStep => (refine' L2.Px.XOw.mk ?a1 ?a2 ?a3 ?a4; (case a1 => exact qInvalidStep); (case a2 => (refine' L2.Px.oex_mk ?l ?r ?sa ?e ?t ?kk; (case l => k_is); (case r => rfl); (case sa => k_is); (case e => k_is); (case t => k_is); (case kk => k_is))); (case a3 => (refine' L2.Px.xf_mk ?f1 ?f2 ?f3 ?f4; (case f1 => k_is); (case f2 => k_is); (case f3 => k_is); (case f4 => k_is))); (case a4 => (refine' L2.Px.no1 ?n1; (case n1 => k_is)))))
      (case x_TooLong => (refine' L2.Px.XPl.mk ?a1 ?a2 ?a3 ?a4 ?a5; (case a1 => exact qTooLong); (case a2 => kernel_rfl); (case a3 => k_is); (case a4 => k_is); (case a5 => k_is)))
      (case x_InvalidPlace => (refine' L2.Px.XPl.mk ?a1 ?a2 ?a3 ?a4 ?a5; (case a1 => exact qInvalidPlace); (case a2 => kernel_rfl); (case a3 => k_is); (case a4 => k_is); (case a5 => k_is)))
      (case x_InvalidNumber => (refine' L2.Px.XPl.mk ?a1 ?a2 ?a3 ?a4 ?a5; (case a1 => exact qInvalidNumber); (case a2 => kernel_rfl); (case a3 => k_is); (case a4 => k_is); (case a5 => k_is)))
      (case x_NotationError => (refine' L2.Px.XOw.mk ?a1 ?a2 ?a3 ?a4; (case a1 => exact qNotationError); (case a2 => (refine' L2.Px.oex_mk ?l ?r ?sa ?e ?t ?kk; (case l => k_is); (case r => rfl); (case sa => k_is); (case e => k_is); (case t => k_is); (case kk => k_is))); (case a3 => (refine' L2.Px.xf_mk ?f1 ?f2 ?f3 ?f4; (case f1 => k_is); (case f2 => k_is); (case f3 => k_is); (case f4 => k_is))); (case a4 => (refine' L2.Px.no2 ?n1 ?n2; (case n1 => k_is); (case n2 => k_is)))))
      (case x_InvalidCount => (refine' L2.Px.XPl.mk ?a1 ?a2 ?a3 ?a4 ?a5; (case a1 => exact qInvalidCount); (case a2 => kernel_rfl); (case a3 => k_is); (case a4 => k_is); (case a5 => k_is)))
      (case x_DecodeError => (refine' L2.Px.XOw.mk ?a1 ?a2 ?a3 ?a4; (case a1 => exact qDecodeError); (case a2 => (refine' L2.Px.oex_mk ?l ?r ?sa ?e ?t ?kk; (case l => k_is); (case r => rfl); (case sa => k_is); (case e => k_is); (case t => k_is); (case kk => k_is))); (case a3 => (refine' L2.Px.xf_mk ?f1 ?f2 ?f3 ?f4; (case f1 => k_is); (case f2 => k_is); (case f3 => k_is); (case f4 => k_is))); (case a4 => (refine' L2.Px.no1 ?n1; (case n1 => k_is)))))
      (case na_Part_start => (unfold L2.NoAttr; k_is))
      (case na_Part_length => (unfold L2.NoAttr; k_is))
      (case na_Part_is_typed => (unfold L2.NoAttr; k_is))
      (case na_Part_first => (unfold L2.NoAttr; k_is))
      (case na_Part_last => (unfold L2.NoAttr; k_is))
      (case na_Text_made => (unfold L2.NoAttr; k_is))
      (case na_Text_typed => (unfold L2.NoAttr; k_is))
      (case na_Text_parts => (unfold L2.NoAttr; k_is))
      (case na_Text_total => (unfold L2.NoAttr; k_is))
      (case na_Counter_text => (unfold L2.NoAttr; k_is))
      (case na_Counter_known => (unfold L2.NoAttr; k_is))
      (case na_Decoder_data => (unfold L2.NoAttr; k_is))
      (case na_Decoder_offset => (unfold L2.NoAttr; k_is))
      (case na_Decoder_total => (unfold L2.NoAttr; k_is))
      (case k_LETTERS => (refine' L2.Px.const_str KX G ?a; (case a => k_is)))
      (case k_MAX_WORD => first | exact L2.Px.loose_int XL (.head _) | exact L2.Px.loose_int XL (.tail _ (.head _)) | exact L2.Px.loose_int XL (.tail _ (.tail _ (.head _))) | exact L2.Px.loose_int XL (.tail _ (.tail _ (.tail _ (.head _)))) | (refine' L2.Px.const_int KX G ?a; (case a => k_is)))
      (case k_MAX_STEPS => first | exact L2.Px.loose_int XL (.head _) | exact L2.Px.loose_int XL (.tail _ (.head _)) | exact L2.Px.loose_int XL (.tail _ (.tail _ (.head _))) | exact L2.Px.loose_int XL (.tail _ (.tail _ (.tail _ (.head _)))) | (refine' L2.Px.const_int KX G ?a; (case a => k_is)))
      (case k_MAX_TIMES => first | exact L2.Px.loose_int XL (.head _) | exact L2.Px.loose_int XL (.tail _ (.head _)) | exact L2.Px.loose_int XL (.tail _ (.tail _ (.head _))) | exact L2.Px.loose_int XL (.tail _ (.tail _ (.tail _ (.head _)))) | (refine' L2.Px.const_int KX G ?a; (case a => k_is)))
      (case k_MAX_SIZE_texts => first | exact L2.Px.loose_int XL (.head _) | exact L2.Px.loose_int XL (.tail _ (.head _)) | exact L2.Px.loose_int XL (.tail _ (.tail _ (.head _))) | exact L2.Px.loose_int XL (.tail _ (.tail _ (.tail _ (.head _)))) | (refine' L2.Px.const_int KX G ?a; (case a => k_is)))
      (case k_WRITE => (refine' L2.Px.const_str KX G ?a; (case a => k_is)))
      (case k_PASTE => (refine' L2.Px.const_str KX G ?a; (case a => k_is)))
      (case k_DIGITS => (refine' L2.Px.const_str KX G ?a; (case a => k_is)))
      (case k_MAX_DIGITS => first | exact L2.Px.loose_int XL (.head _) | exact L2.Px.loose_int XL (.tail _ (.head _)) | exact L2.Px.loose_int XL (.tail _ (.tail _ (.head _))) | exact L2.Px.loose_int XL (.tail _ (.tail _ (.tail _ (.head _)))) | (refine' L2.Px.const_int KX G ?a; (case a => k_is)))
      (case k_PASTE_WORDS => first | exact L2.Px.loose_int XL (.head _) | exact L2.Px.loose_int XL (.tail _ (.head _)) | exact L2.Px.loose_int XL (.tail _ (.tail _ (.head _))) | exact L2.Px.loose_int XL (.tail _ (.tail _ (.tail _ (.head _)))) | (refine' L2.Px.const_int KX G ?a; (case a => k_is)))
      (case k_FIRST_BYTE => first | exact L2.Px.loose_int XL (.head _) | exact L2.Px.loose_int XL (.tail _ (.head _)) | exact L2.Px.loose_int XL (.tail _ (.tail _ (.head _))) | exact L2.Px.loose_int XL (.tail _ (.tail _ (.tail _ (.head _)))) | (refine' L2.Px.const_int KX G ?a; (case a => k_is)))
      (case k_BYTE => first | exact L2.Px.loose_int XL (.head _) | exact L2.Px.loose_int XL (.tail _ (.head _)) | exact L2.Px.loose_int XL (.tail _ (.tail _ (.head _))) | exact L2.Px.loose_int XL (.tail _ (.tail _ (.tail _ (.head _)))) | (refine' L2.Px.const_int KX G ?a; (case a => k_is)))
      (case k_GROUP => first | exact L2.Px.loose_int XL (.head _) | exact L2.Px.loose_int XL (.tail _ (.head _)) | exact L2.Px.loose_int XL (.tail _ (.tail _ (.head _))) | exact L2.Px.loose_int XL (.tail _ (.tail _ (.tail _ (.head _)))) | (refine' L2.Px.const_int KX G ?a; (case a => k_is)))
      (case k_CHECKSUM_MODULUS => first | exact L2.Px.loose_int XL (.head _) | exact L2.Px.loose_int XL (.tail _ (.head _)) | exact L2.Px.loose_int XL (.tail _ (.tail _ (.head _))) | exact L2.Px.loose_int XL (.tail _ (.tail _ (.tail _ (.head _)))) | (refine' L2.Px.const_int KX G ?a; (case a => k_is)))
      (case cg_Text => (refine' L2.Px.ClsG.mk ?a1 ?a2 ?a3 ?a4; (case a1 => k_is); (case a2 => k_is); (case a3 => k_is); (case a4 => k_is)))
      (case isi_oo => exact L2.Px.kit_self)
      (case isi_to => (refine' L2.Px.kit_type ?a1 ?a2 ?a3; (case a1 => k_is); (case a2 => k_is); (case a3 => k_is)))
      (case n_isinstance => (refine' PySem.W.mg_none_of KX G ?a; (case a => k_is)))
      (case n_int => (refine' PySem.W.mg_none_of KX G ?a; (case a => k_is)))
      (case n_bool => (refine' PySem.W.mg_none_of KX G ?a; (case a => k_is)))
      (case n_str => (refine' PySem.W.mg_none_of KX G ?a; (case a => k_is)))
      (case n_len => (refine' PySem.W.mg_none_of KX G ?a; (case a => k_is)))
      (case n_all => (refine' PySem.W.mg_none_of KX G ?a; (case a => k_is)))
      (case n_tuple => (refine' PySem.W.mg_none_of KX G ?a; (case a => k_is)))
      (case n_list => (refine' PySem.W.mg_none_of KX G ?a; (case a => k_is)))
      (case n_range => (refine' PySem.W.mg_none_of KX G ?a; (case a => k_is)))
      (case n_enumerate => (refine' PySem.W.mg_none_of KX G ?a; (case a => k_is)))
      (case n_min => (refine' PySem.W.mg_none_of KX G ?a; (case a => k_is)))
      (case n_max => (refine' PySem.W.mg_none_of KX G ?a; (case a => k_is)))
      (case n_divmod => (refine' PySem.W.mg_none_of KX G ?a; (case a => k_is)))
      (case n_sum => (refine' PySem.W.mg_none_of KX G ?a; (case a => k_is)))
      (case n_zip => (refine' PySem.W.mg_none_of KX G ?a; (case a => k_is)))
      (case n_sorted => (refine' PySem.W.mg_none_of KX G ?a; (case a => k_is)))
      (case n_bytes => (refine' PySem.W.mg_none_of KX G ?a; (case a => k_is)))
      (case n_ValueError => (refine' PySem.W.mg_none_of KX G ?a; (case a => k_is)))
